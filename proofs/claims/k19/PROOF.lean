import PyProof.Rows.All
import Wide.All
import OpenK.AllK
import Wide.FinOn
import HandS.ForMost
import HandS.Style
import HandS.Walk
import HandS.Defaults
import HandS.Exc
import HandS.Flow
import HandS.TryOnly
import HandS.ExcOwn
import HandS.WordsExc
import HandS.TupAny
import HandS.SetFor
import HandS.IsInst
import PyProof.StrBlock2
import HandS.Nested
import HandS.ExcIs
import HandS.HeadHook4
import HandS.HeadWalk
import KE.KDictZip
import HandS.OwnIter
import KE.SortKeyed
import HandS.SortKw
import HandS.Iter
import HandS.More
import HandS.HeadHook2
import HandS.Conv
import HandS.SuiteRaise
import HandS.Finally
import HandS.TryElse
import KE.KExcRaise
import HandS.ExcInit
import HandS.ExcField
import KE.KExcIs
import HandS.CallSlots
import HandS.MakeKw
import HandS.Deep
import HandS.Comp
import KE.SortData
import HandS.Dict
import KE.IntTextLaws
import HandS.HotCalls
import HandS.NestedHot
import HandS.ExcInitHot
import HandS.RevRange
import HandS.HeadEnd
import HandS.Head2
import PySem.Challenge.RW_hearken_k19_texts_that_tell_no_rows
set_option Elab.async false
set_option linter.all false
set_option maxRecDepth 100000
set_option maxHeartbeats 4000000
/-! Common words for all the laws of hearken. -/
namespace Hk
open PySem PySem.Spec PyProof.Rows L2
/-! ### heaps that grow -/
/-- all that was tracked, but where S is, is as it was -/
def Ext (S : Addr → Prop) (H H' : Hp) : Prop := ∀ b o, ¬ S b → H b = some o → H' b = some o
abbrev No : Addr → Prop := fun _ => False
theorem Ext.refl (S : Addr → Prop) (H : Hp) : Ext S H H := fun _ _ _ h => h
theorem Ext.trans {S : Addr → Prop} {H H1 H2 : Hp} (a : Ext S H H1) (b : Ext S H1 H2) : Ext S H H2 := fun c o n h => b c o n (a c o n h)
theorem Ext.of_same {S : Addr → Prop} {H H' : Hp} (s : Same H H') : Ext S H H' := fun b o _ h => s b o h
theorem Ext.same {H H' : Hp} (e : Ext No H H') : Same H H' := fun b o h => e b o (fun z => z) h
theorem Ext.mono {S S' : Addr → Prop} {H H' : Hp} (e : Ext S H H') (h : ∀ b, S b → S' b) : Ext S' H H' := fun b o n q => e b o (fun z => n (h b z)) q
theorem Ext.free {S : Addr → Prop} {H H' : Hp} (e : Ext S H H') {l : Addr} (n : ¬ S l) (h : H' l = none) : H l = none := by
  cases q : H l with
  | none => rfl
  | some o =>
    rw [e l o n q] at h
    cases h
theorem Ext.put {S : Addr → Prop} {H H1 : Hp} {p : Addr} {o : HO} (s : Ext S H H1) (n : H p = none ∨ S p) : Ext S H (upd H1 p o) := fun b u nb h => by
  by_cases e : b = p
  · subst e
    rcases n with n | n
    · rw [h] at n; cases n
    · exact absurd n nb
  · rw [upd_ne e]
    exact s b u nb h
theorem same_put {H H1 : Hp} {p : Addr} {o : HO} (s : Same H H1) (n : H p = none) : Same H (upd H1 p o) := fun b u h => by
  by_cases e : b = p
  · subst e
    rw [h] at n; cases n
  · rw [upd_ne e]
    exact s b u h
theorem same_new {H H1 : Hp} {p : Addr} {o : HO} (s : Same H H1) (n : H1 p = none) : Same H (upd H1 p o) := same_put s (s.free n)
theorem same_tup {K : PySem.W.Frag} {H H' : Hp} {a : Addr} {xs : List V} (e : Same H H') (h : SqT K H a xs) : SqT K H' a xs := by
  rcases h with (h | ⟨o, h⟩) | h
  · exact .inl (.inl (e _ _ h))
  · exact .inl (.inr ⟨o, e _ _ h⟩)
  · exact .inr h
theorem small {n : Nat} (h : n ≤ 100000) : n ≤ sizeLine := Nat.le_trans h (by decide)
theorem smallLt {n : Nat} (h : n ≤ 100000) : n < sizeLine := Nat.lt_of_le_of_lt h (by decide)
theorem sgn_eq {c d : Nat} : ((⟨#[c]⟩ : Str) = ⟨#[d]⟩) = (c = d) := propext ⟨fun e => by
  have e2 : (#[c] : Array Nat) = #[d] := congrArg Str.cps e
  have e3 : [c] = [d] := congrArg Array.toList e2
  exact (List.cons.inj e3).1, fun e => by rw [e]⟩
theorem beq_dec {a b : Str} : (a == b) = decide (b = a) := by
  by_cases h : b = a
  · subst h; simp
  · rw [decide_eq_false h]; exact beq_eq_false_iff_ne.mpr (Ne.symm h)
/-- a text's words -/
def wds (z : Str) : List Str := Txt.split z "."
theorem split_dot {z : Str} : Txt.split z (Str.ofString ".") = wds z := rfl
def sps (z : Str) : List Str := Txt.split z " "
def nls (z : Str) : List Str := Txt.split z "\n"
theorem split_sp {z : Str} : Txt.split z (Str.ofString " ") = sps z := rfl
theorem split_nl {z : Str} : Txt.split z (Str.ofString "\n") = nls z := rfl
theorem dot_len : ((Str.ofString ".").length == 0) = false := by decide +kernel
theorem sp_len : ((Str.ofString " ").length == 0) = false := by decide +kernel
theorem nl_len : ((Str.ofString "\n").length == 0) = false := by decide +kernel
section
variable {CX : CXT} {P : Program} {w : World} {K : PySem.W.Frag} {mg : Str → Option Value} {base : Heap} {N : List Str} {qual : Str} {scope : Scope} {f : Addr} {cd : Value} {A : Around} {outer : List Env} {s : Shared} {H : Hp} {E : XK}
theorem cxOf_K : (cxOf CX P w K mg base N qual scope f cd A outer s H E).K = K := rfl
end
theorem ifP {c A B : Prop} [Decidable c] (h : c) (a : A) : if c then A else B := by rw [if_pos h]; exact a
theorem ifN {c A B : Prop} [Decidable c] (h : ¬ c) (b : B) : if c then A else B := by rw [if_neg h]; exact b
/-! ### a global def with its promise -/
structure Glob (P : Program) (w : World) (K : PySem.W.Frag) (mg : Str → Option Value) (base : Heap) (CX : CXT) (k : Nat) (x : Str) (ps : List Str) (dvs : List V) (sp : Sp) : Prop where
  ex : ∃ f fd ds, FnOk P w K mg base CX k f fd ps sp ∧ mg x = some (.ref f) ∧ PySem.W.keepIn K (.ref f) = true ∧ Vals dvs ds ∧ Binds K fd ps ds
theorem Glob.mono {P : Program} {w : World} {K : PySem.W.Frag} {mg : Str → Option Value} {base : Heap} {CX : CXT} {j k : Nat} {x : Str} {ps : List Str} {dvs : List V} {sp : Sp} (G : Glob P w K mg base CX j x ps dvs sp) (h : j ≤ k) : Glob P w K mg base CX k x ps dvs sp := by
  obtain ⟨f, fd, ds, F, r⟩ := G.ex
  exact ⟨f, fd, ds, F.mono h, r⟩
section
variable {X : Cx} {CX : CXT} {k : Nat} {x : Str} {ps : List Str} {dvs : List V} {sp : Sp} {E : XK} {p pos : Pos} {e : Expr} {es : List Expr} {t : TA}
theorem pe_callG (G : Glob X.prog X.w X.K X.mg X.base CX k x ps dvs sp) (hr : Room k X.A) (hg : Gl X x) (hx : Passes CX X E) (ha : PA X (e :: es) t)
    (hdb : (x == ("__debug__" : Str)) = false := by decide) (he : starEach (e :: es) X.env = (false, eval e X.env) :: starEach es X.env := by rfl) (hpl : (backTo pos (starEach es X.env)).any (·.1) = false := by rfl) :
    PE X (.Call (.Name x p) (e :: es) [] pos) (tCall sp dvs E t) := by
  refine ⟨fun pins s σ H Q I h => ?_⟩
  obtain ⟨f, fd, ds, F, hm, kp, vd, hb⟩ := G.ex
  exact (pe_call F hr hg hm kp hb vd hx ha hdb he hpl).run pins s σ H Q I h
theorem pe_callG0 (G : Glob X.prog X.w X.K X.mg X.base CX k x ps dvs sp) (hr : Room k X.A) (hg : Gl X x) (hx : Passes CX X E) (hdb : (x == ("__debug__" : Str)) = false := by decide) :
    PE X (.Call (.Name x p) [] [] pos) (tCall sp dvs E tNil) := by
  refine ⟨fun pins s σ H Q I h => ?_⟩
  obtain ⟨f, fd, ds, F, hm, kp, vd, hb⟩ := G.ex
  exact (pe_call0 F hr hg hm kp hb vd hx hdb).run pins s σ H Q I h
/-- a def that may raise, called where it does not -/
theorem passN : Passes (L2.CX X.prog X.w) X E0 := fun _ _ _ _ _ _ _ h => by
  obtain ⟨_, _, _, _, _, _, _, _, _, _, _, _, z⟩ := h
  exact z.elim
/-- a module's constant -/
theorem pe_gi {i : Int} (h : ∃ t, X.mg x = some (.int i t)) (hg : Gl X x) (hd : (x == ("__debug__" : Str)) = false := by decide) : PE X (.Name x pos) (tC (.int i)) := by
  obtain ⟨t, h⟩ := h
  exact pe_glob hg h ⟨t, rfl⟩ hd
theorem pe_gs {z : Str} (h : ∃ t, X.mg x = some (.str z t)) (hg : Gl X x) (hd : (x == ("__debug__" : Str)) = false := by decide) : PE X (.Name x pos) (tC (.str z)) := by
  obtain ⟨t, h⟩ := h
  exact pe_glob hg h ⟨t, rfl⟩ hd
end
/-! ### comprehensions: the new list by what has been gathered -/
/-- a comprehension's turns, behind its source -/
def LcG (J : It) (g : TG) (tt : TT) (te : TE) (vs : List Nat) (σ : L2.St) (H1 : Hp) (Q : VK) : Prop := ∀ D, H1 D = none → ∃ W : Nat → Nat → Hp → Prop, (∃ m, W 0 m (upd H1 D (.lst []))) ∧ ∀ i m H, W i m H →
  (J.stop i H ∧ Q (.ref D) H) ∨ (J.go i H ∧ ∃ Nx : Hp → Prop, (∀ H', Nx H' → ∃ m', m' < m ∧ W (i + 1) m' H') ∧ ∀ x H', J.yld i H x H' → g x (wipe σ vs) H' fun σ2 H2 => wipe σ2 vs = wipe σ vs ∧ tt σ2 H2 fun b H3 =>
    if b = true then te σ2 H3 fun y H4 => ∃ acc, H4 D = some (.lst acc) ∧ acc.length < sizeLine ∧ Nx (upd H4 D (.lst (acc ++ [y]))) else Nx H3)
theorem tLc_eq {wi : TI} {g : TG} {tt : TT} {te : TE} {vs : List Nat} {σ : L2.St} {H : Hp} {Q : VK} : tLc wi g tt te vs σ H Q = wi σ H fun J H1 => LcG J g tt te vs σ H1 Q := rfl
/-- a for's turns, behind its source -/
def ForG (J : It) (g : TG) (tb : TS) (D : Ends) (σ : L2.St) (H : Hp) : Prop := ∃ W : Nat → Nat → L2.St → Hp → Prop, (∃ m, W 0 m σ H) ∧ ∀ i m σ H, W i m σ H →
  (J.stop i H ∧ D.nx σ H) ∨ (J.go i H ∧ ∃ N : L2.St → Hp → Prop, (∀ σ' H', N σ' H' → ∃ m', m' < m ∧ W (i + 1) m' σ' H') ∧ ∀ x H', J.yld i H x H' → g x σ H' fun σ2 H2 => tb { D with nx := N, ct := N, bk := D.nx } σ2 H2)
theorem tFor_eq {wi : TI} {g : TG} {tb : TS} {D : Ends} {σ : L2.St} {H : Hp} : tFor wi g tb D σ H = wi σ H fun J H1 => ForG J g tb D σ H1 := rfl
theorem forG {J : It} {n : Nat} {G : Hp → Prop} {Y : Nat → Hp → V → Hp → Prop} (w : Walk J n G Y) {g : TG} {tb : TS} {D : Ends} {σ : L2.St} {H : Hp} (Pv : Nat → L2.St → Hp → Prop) (h0 : Pv 0 σ H) (hG : ∀ i σ H, i ≤ n → Pv i σ H → G H)
    (hs : ∀ i x σ H H', i < n → Pv i σ H → Y i H x H' → g x σ H' fun σ2 H2 => tb { D with nx := Pv (i + 1), ct := Pv (i + 1), bk := D.nx } σ2 H2) (hd : ∀ σ H, Pv n σ H → D.nx σ H) : ForG J g tb D σ H := for_it w Pv h0 hG hs hd
theorem lc_acc {J : It} {n : Nat} {G : Hp → Prop} {Y : Nat → Hp → V → Hp → Prop} (w : Walk J n G Y) {g : TG} {tt : TT} {te : TE} {vs : List Nat} {σ : L2.St} {H1 : Hp} {Q : VK} (S : Addr → Prop) (Iv : Hp → Prop) (Pa : Nat → List V → Prop)
    (hn : n < sizeLine) (nD : ∀ D, H1 D = none → ¬ S D) (h0 : Pa 0 []) (i0 : Iv H1) (hI : ∀ D H o, H1 D = none → Iv H → Iv (upd H D o)) (hG : ∀ H, Ext S H1 H → Iv H → G H)
    (hs : ∀ i x H H' acc (R : Option V → Hp → Prop), i < n → Ext S H1 H → Iv H → Pa i acc → Y i H x H' →
      (∀ H2, Ext S H H2 → Iv H2 → Pa (i + 1) acc → R none H2) → (∀ y H2, Ext S H H2 → Iv H2 → Pa (i + 1) (acc ++ [y]) → R (some y) H2) →
      g x (wipe σ vs) H' fun σ2 H2 => wipe σ2 vs = wipe σ vs ∧ tt σ2 H2 fun b H3 => if b = true then te σ2 H3 (fun y H4 => R (some y) H4) else R none H3)
    (hd : ∀ D acc H, H1 D = none → Pa n acc → acc.length ≤ n → Ext S H1 H → Iv H → H D = some (.lst acc) → Q (.ref D) H) : LcG J g tt te vs σ H1 Q := by
  intro D fD
  have nD := nD D fD
  have hI := fun H o => hI D H o fD
  refine lc_it w (fun i H => ∃ acc, Pa i acc ∧ acc.length ≤ i ∧ Ext S H1 H ∧ Iv H ∧ H D = some (.lst acc)) ⟨[], h0, Nat.le_refl _, (Ext.refl S H1).put (.inl fD), hI _ _ i0, upd_same⟩ (fun i H _ ⟨acc, _, _, e, iv, _⟩ => hG H e iv) (fun i x H H' hi hP hy => ?_)
    (fun H ⟨acc, p, l, e, iv, hD⟩ => hd D acc H fD p l e iv hD)
  obtain ⟨acc, p, l, e, iv, hD⟩ := hP
  refine hs i x H H' acc (fun o H4 => match o with
    | some y => ∃ acc, H4 D = some (.lst acc) ∧ acc.length < sizeLine ∧ ∃ acc', Pa (i + 1) acc' ∧ acc'.length ≤ i + 1 ∧ Ext S H1 (upd H4 D (.lst (acc ++ [y]))) ∧ Iv (upd H4 D (.lst (acc ++ [y]))) ∧ (upd H4 D (.lst (acc ++ [y]))) D = some (.lst acc')
    | none => ∃ acc', Pa (i + 1) acc' ∧ acc'.length ≤ i + 1 ∧ Ext S H1 H4 ∧ Iv H4 ∧ H4 D = some (.lst acc')) hi e iv p hy (fun H2 e2 iv2 p2 => ?_) (fun y H2 e2 iv2 p2 => ?_)
  · exact ⟨acc, p2, Nat.le_succ_of_le l, e.trans e2, iv2, e2 D _ nD hD⟩
  · exact ⟨acc, e2 D _ nD hD, Nat.lt_of_le_of_lt (Nat.le_trans l (Nat.le_of_lt hi)) hn, acc ++ [y], p2, by rw [List.length_append]; exact Nat.succ_le_succ l, (e.trans e2).put (.inl fD), hI _ _ iv2, upd_same⟩
section
variable {K : PySem.W.Frag} {a b : Addr}
theorem walk_listm {α : Type} (xs : List α) (inj : α → V) : Walk (Itl K a) xs.length (fun H => SqL K H a (xs.map inj)) (fun i H x H' => H' = H ∧ ∃ y, xs[i]? = some y ∧ x = inj y) := by
  have w := walk_list (K := K) (a := a) (xs := xs.map inj)
  rw [List.length_map] at w
  refine w.mono (fun H h => h) (fun i H x H' hi _ y => ⟨y.1, ?_⟩)
  have h := y.2
  rw [List.getElem?_map] at h
  cases q : xs[i]? with
  | none => rw [q] at h; cases h
  | some z => rw [q] at h; exact ⟨z, rfl, (Option.some.inj h).symm⟩
theorem walk_tupm {α : Type} (xs : List α) (inj : α → V) : Walk (Itt K a) xs.length (fun H => SqT K H a (xs.map inj)) (fun i H x H' => H' = H ∧ ∃ y, xs[i]? = some y ∧ x = inj y) := by
  have w := walk_tup (K := K) (a := a) (xs := xs.map inj)
  rw [List.length_map] at w
  refine w.mono (fun H h => h) (fun i H x H' hi _ y => ⟨y.1, ?_⟩)
  have h := y.2
  rw [List.getElem?_map] at h
  cases q : xs[i]? with
  | none => rw [q] at h; cases h
  | some z => rw [q] at h; exact ⟨z, rfl, (Option.some.inj h).symm⟩
/-- zip of two lists: a new pair at each turn -/
theorem walk_zipm {α β : Type} (xs : List α) (ys : List β) (f : α → V) (g : β → V) : Walk (Itz K a b) (xs.zip ys).length (fun H => SqL K H a (xs.map f) ∧ SqL K H b (ys.map g))
    (fun i H v H' => ∃ (t : Addr) (q : α × β), v = .ref t ∧ H t = none ∧ H' = upd H t (.tup [f q.1, g q.2]) ∧ (xs.zip ys)[i]? = some q) := by
  have w := walk_zip (K := K) (a := a) (b := b) (xs := xs.map f) (ys := ys.map g) (n := (xs.zip ys).length) (by rw [List.length_zip, List.length_map, List.length_map])
  refine w.mono (fun H h => h) (fun i H x H' hi _ y => ?_)
  obtain ⟨t, x1, x2, e1, e2, e3, e4, e5⟩ := y
  have h1 : (xs.zip ys)[i]? = some (xs.zip ys)[i] := List.getElem?_eq_getElem hi
  have h2 := List.getElem?_zip_eq_some.mp h1
  have e6 : x1 = f (xs.zip ys)[i].1 := by
    have e4 : (xs.map f)[i]? = some x1 := e4
    rw [List.getElem?_map, h2.1] at e4
    exact (Option.some.inj e4).symm
  have e7 : x2 = g (xs.zip ys)[i].2 := by
    have e5 : (ys.map g)[i]? = some x2 := e5
    rw [List.getElem?_map, h2.2] at e5
    exact (Option.some.inj e5).symm
  exact ⟨t, _, e1, e2, by rw [e3, e6, e7], h1⟩
theorem ixN_in {n : Nat} {i : Int} (h0 : 0 ≤ i) (h1 : i < n) : ixN n i = some i.toNat := by
  unfold ixN
  rw [if_pos h0, if_pos h1]
theorem atI_neg1 {xs : List V} (h : xs ≠ []) : atI xs (-1) = xs.getLast? := by
  have e : xs = xs.dropLast ++ [xs.getLast h] := (List.dropLast_concat_getLast h).symm
  rw [e, atI_last]
  simp
end
/-- a comprehension that changes nothing that stood: the new list is F of the items, where it is some -/
theorem lc_fil {α : Type} (xs : List α) (F : α → Option V) {J : It} {G : Hp → Prop} {Y : Nat → Hp → V → Hp → Prop} (w : Walk J xs.length G Y) {g : TG} {tt : TT} {te : TE} {vs : List Nat} {σ : L2.St} {H1 : Hp} {Q : VK}
    (hn : xs.length ≤ 100000) (hG : ∀ H, Same H1 H → G H)
    (hs : ∀ i a x H H' (R : Option V → Hp → Prop), xs[i]? = some a → Same H1 H → Y i H x H' → (∀ H2, Same H H2 → R (F a) H2) →
      g x (wipe σ vs) H' fun σ2 H2 => wipe σ2 vs = wipe σ vs ∧ tt σ2 H2 fun b H3 => if b = true then te σ2 H3 (fun y H4 => R (some y) H4) else R none H3)
    (hd : ∀ D H, H1 D = none → Same H1 H → H D = some (.lst (xs.filterMap F)) → Q (.ref D) H) : LcG J g tt te vs σ H1 Q := by
  refine lc_acc w No (fun _ => True) (fun i acc => acc = (xs.take i).filterMap F) (smallLt hn) (fun _ _ z => z) rfl trivial (fun _ _ _ _ _ => trivial) (fun H e _ => hG H e.same) (fun i x H H' acc R hi e _ p hy r0 r1 => ?_) (fun D acc H fD p _ e _ hD => ?_)
  · have hx : xs[i]? = some xs[i] := List.getElem?_eq_getElem hi
    refine hs i xs[i] x H H' R hx e.same hy (fun H2 s2 => ?_)
    cases q : F xs[i] with
    | none =>
      refine r0 H2 (.of_same s2) trivial ?_
      rw [p, List.take_add_one, hx, List.filterMap_append]
      simp [q]
    | some y =>
      refine r1 y H2 (.of_same s2) trivial ?_
      rw [p, List.take_add_one, hx, List.filterMap_append]
      simp [q]
  · subst p
    refine hd D H fD e.same ?_
    rw [hD, List.take_length]
/-- .. the new list is f of the items -/
theorem lc_map {α : Type} (xs : List α) (f : α → V) {J : It} {G : Hp → Prop} {Y : Nat → Hp → V → Hp → Prop} (w : Walk J xs.length G Y) {g : TG} {te : TE} {vs : List Nat} {σ : L2.St} {H1 : Hp} {Q : VK}
    (hn : xs.length ≤ 100000) (hG : ∀ H, Same H1 H → G H)
    (hs : ∀ i a x H H' (R : VK), xs[i]? = some a → Same H1 H → Y i H x H' → (∀ H2, Same H H2 → R (f a) H2) →
      g x (wipe σ vs) H' fun σ2 H2 => wipe σ2 vs = wipe σ vs ∧ te σ2 H2 R)
    (hd : ∀ D H, H1 D = none → Same H1 H → H D = some (.lst (xs.map f)) → Q (.ref D) H) : LcG J g tYes te vs σ H1 Q := by
  refine lc_fil xs (fun a => some (f a)) w hn hG (fun i a x H H' R hx s1 hy r => ?_) (fun D H fD s1 hD => hd D H fD s1 ?_)
  · simp only [tYes, if_true]
    exact hs i a x H H' (fun v h => R (some v) h) hx s1 hy r
  · rw [hD]
    simp
end Hk

set_option Elab.async false
set_option linter.all false
set_option maxRecDepth 100000
set_option maxHeartbeats 4000000
/-! The rules that speak of X.K, with K told (a comprehension's block has an X of its own). -/
namespace Hk
open PySem PySem.Spec PyProof.Rows L2
section
variable {X : Cx} {K : PySem.W.Frag} (hK : X.K = K)
include hK
theorem ix_listK : IxR X (rIxL K) := by subst hK; exact ix_list
theorem ix_tupK : IxR X (rIxT K) := by subst hK; exact ix_tup
theorem sl_listK : SlR X (rSlL K) := by subst hK; exact sl_list
theorem sl_tupK : SlR X (rSlA K) := by subst hK; exact sl_tupA
theorem op_in_seqK : OpR X (compareOp .In) (rIn K false) := by subst hK; exact op_in_seq
theorem op_notIn_seqK : OpR X (compareOp .NotIn) (rIn K true) := by subst hK; exact op_notIn_seq
def rLenK (K : PySem.W.Frag) : List V → Hp → VK → Prop := fun xs H Q => ∃ p ys, xs = [.ref p] ∧ (SqL K H p ys ∨ SqT K H p ys) ∧ Q (.int ys.length) H
theorem call_len_seqK : CallR X (.builtin "len") (rLenK K) := by subst hK; exact call_len_seq
theorem cr_allK (hc : X.calm = true) : CallR X (.builtin "all") (rAll K) := by subst hK; exact cr_all hc
theorem cr_anyK (hc : X.calm = true) : CallR X (.builtin "any") (rAny K) := by subst hK; exact cr_any hc
def rListOf (K : PySem.W.Frag) : List V → Hp → VK → Prop := fun xs H Q => ∃ p ys, xs = [.ref p] ∧ (SqL K H p ys ∨ SqT K H p ys) ∧ ∀ l, H l = none → Q (.ref l) (upd H l (.lst ys))
theorem call_list_ofK : CallR X (.type "list") (rListOf K) := by subst hK; exact call_list_of
theorem op_eqDK (hu : X.A.units + 64 < cLine) : OpR X (compareOp .Eq) (rEqD K) := by subst hK; exact op_eqD hu
theorem op_neDK (hu : X.A.units + 64 < cLine) : OpR X (compareOp .NotEq) (rNeD K) := by subst hK; exact op_neD hu
theorem op_catAK : OpR X (binaryOp .Add) (rCatA K) := by subst hK; exact op_catA
theorem pi_listK {tg l : Expr} {tl : TE} (hl : PE X l tl) : PI X tg l (iList K tl) := by subst hK; exact pi_list hl
theorem pi_tupK {tg l : Expr} {tl : TE} (hl : PE X l tl) : PI X tg l (iTup K tl) := by subst hK; exact pi_tup hl
theorem pi_zipK {e e2 : Expr} {ta : TA} {p pos tpos : Pos} {elts : List Expr} {kk : Nat} (hg : Gl X "zip") (hm : X.mg "zip" = none) (ha : PA X [e, e2] ta)
    (hs : starEach [e, e2] X.env = (false, eval e X.env) :: starEach [e2] X.env := by rfl) (hpl : (backTo pos (starEach [e2] X.env)).any (·.1) = false := by rfl) :
    PI X (.Tuple elts kk tpos) (.Call (.Name "zip" p) [e, e2] [] pos) (iZip K ta) := by subst hK; exact pi_zip hg hm ha hs hpl
theorem pi_enumK {e : Expr} {ta : TA} {p pos tpos : Pos} {elts : List Expr} {kk : Nat} (hg : Gl X "enumerate") (hm : X.mg "enumerate" = none) (ha : PA X [e] ta) (hs : starEach [e] X.env = [(false, eval e X.env)] := by rfl) :
    PI X (.Tuple elts kk tpos) (.Call (.Name "enumerate" p) [e] [] pos) (iEnum K ta) := by subst hK; exact pi_enum hg hm ha hs
theorem pg_tupK {es : List Expr} {k : Nat} {t : TGs} {n : Nat} {pos : Pos} (hc : X.calm = true) (h : PGs X es t) (hn : (assignEach es X.env).length = n := by rfl) (hst : (assignEach es X.env).findIdx? (·.1) = none := by rfl) :
    PG X (.Tuple es k pos) (gTup K n t) := by subst hK; exact pg_tup hc h hn hst
theorem pe_bm0K {o : Expr} {to : TE} {name : Str} {apos cpos : Pos} {T id : String} {r : V → List V → Hp → VK → Prop} (pa : PlainAttrs T) (slot : Slot T name id) (hty : typeOf (.builtin id) = pure (.type "method_descriptor")) (hm : MtR X id r) (ho : PE X o to)
    (hbase : attributeBase o name X.env (eval o X.env) = eval o X.env := by rfl) (hline : (apos.endLine == cpos.line) = true := by rfl) : PE X (.Call (.Attribute o name apos) [] [] cpos) (tBM0 K T r to) := by
  subst hK; exact pe_bm0 pa slot hty hm ho hbase hline
theorem pe_bmK {o e : Expr} {es : List Expr} {to : TE} {t : TA} {name : Str} {apos cpos : Pos} {T id : String} {r : V → List V → Hp → VK → Prop} (pa : PlainAttrs T) (slot : Slot T name id) (hty : typeOf (.builtin id) = pure (.type "method_descriptor")) (hm : MtR X id r) (ho : PE X o to) (ha : PA X (e :: es) t)
    (hbase : attributeBase o name X.env (eval o X.env) = eval o X.env := by rfl)
    (hfew : ((backTo cpos (starEach (e :: es) X.env)).all (fun x => !x.1) && (backToKw cpos (keywordEach [] X.env)).all (fun x => x.1.isSome)
      && decide ((e :: es).length + ([] : List Keyword).length + (if ([] : List Keyword).isEmpty then 0 else 1) < 30)) = true := by rfl)
    (hline : (apos.endLine == cpos.line) = true := by rfl) (hs : starEach (e :: es) X.env = (false, eval e X.env) :: starEach es X.env := by rfl) (hplain : (backTo cpos (starEach es X.env)).any (·.1) = false := by rfl) :
    PE X (.Call (.Attribute o name apos) (e :: es) [] cpos) (tBM K T r to t) := by subst hK; exact pe_bm pa slot hty hm ho ha hbase hfew hline hs hplain
def rJoin (K : PySem.W.Frag) : V → List V → Hp → VK → Prop := fun x xs H Q => ∃ a p, ∃ ys : List Str, x = .str a ∧ xs = [.ref p] ∧ (SqL K H p (ys.map V.str) ∨ SqT K H p (ys.map V.str)) ∧
      (ys.map (·.length)).sum + ys.length * a.length ≤ 16777216 ∧ Q (.str (Txt.join a ys)) H
theorem pe_joinK {o e : Expr} {to te : TE} {apos pos : Pos} (ho : PE X o to) (he : PE X e te) (hs : starEach [e] X.env = [(false, eval e X.env)] := by rfl) (hbase : attributeBase o "join" X.env (eval o X.env) = eval o X.env := by rfl) (hline : (apos.endLine == pos.line) = true := by rfl) :
    PE X (.Call (.Attribute o "join" apos) [e] [] pos) (tM1 (rJoin K) to te) := by subst hK; exact pe_join ho he hs hbase hline
theorem pt_truthK {a : Expr} {ta : TE} (ha : PE X a ta) (he : ∀ whole, isTrue a X.env whole = (do let v ← whole; standAt a.pos; holding [v] (truthy v))) :
    PT X a (fun σ H Q => ta σ H fun x H' => ∃ k, TruV K x H' k ∧ Q k H') := by subst hK; exact pt_truth ha he
theorem pe_notTK {a : Expr} {ta : TE} {pos : Pos} (ha : PE X a ta) : PE X (.UnaryOp .Not a pos) (tNotT K ta) := by subst hK; exact pe_notT ha
theorem mt_indexK : MtR X "list.index" (rIndex K) := by subst hK; exact mt_index
theorem mt_lcountK : MtR X "list.count" (rCntI K) := by subst hK; exact mt_lcount
theorem pe_fldK {e : Expr} {f : Str} {ta : TE} {pos : Pos} (he : PE X e ta) (hb : attributeBase e f X.env (eval e X.env) = eval e X.env) : PE X (.Attribute e f pos) (tFld K ta f) := by subst hK; exact pe_fld he hb
end
/-! ### words for readings -/
theorem scal_ss {a b : Str} : scal (.str a) (.str b) = true := rfl
theorem scal_ii {a b : Int} : scal (.int a) (.int b) = true := rfl
theorem scal_bb {a b : Bool} : scal (.bl a) (.bl b) = true := rfl
theorem scal_ns {b : Str} : scal .non (.str b) = true := rfl
theorem scal_sn {b : Str} : scal (.str b) .non = true := rfl
theorem scal_nn : scal .non .non = true := rfl
theorem scal_in {a : Int} : scal (.int a) .non = true := rfl
theorem scal_ni {a : Int} : scal .non (.int a) = true := rfl
theorem gCons_cons {t : TG} {u : TGs} {x : V} {xs : List V} {σ : L2.St} {H : Hp} {Q : L2.St → Hp → Prop} : gCons t u (x :: xs) σ H Q = t x σ H fun σ' H' => u xs σ' H' Q := propext ⟨fun ⟨v, r, e, h⟩ => by cases e; exact h, fun h => ⟨x, xs, rfl, h⟩⟩
theorem gNil_nil {σ : L2.St} {H : Hp} {Q : L2.St → Hp → Prop} : gNil [] σ H Q = Q σ H := propext ⟨fun h => h.2, fun h => ⟨rfl, h⟩⟩
theorem gTup_ref {K : PySem.W.Frag} {n : Nat} {t : TGs} {a : Addr} {σ : L2.St} {H : Hp} {Q : L2.St → Hp → Prop} : gTup K n t (.ref a) σ H Q = ∃ xs, SqT K H a xs ∧ xs.length = n ∧ t xs σ H Q := propext ⟨fun ⟨_, xs, e, h⟩ => by cases e; exact ⟨xs, h⟩, fun ⟨xs, h⟩ => ⟨a, xs, rfl, h⟩⟩
theorem rSetL_ref {p : Addr} {k : Int} {v : V} {H : Hp} {Q : Hp → Prop} : rSetL (.ref p) (.int k) v H Q = ∃ xs j, H p = some (.lst xs) ∧ ixN xs.length k = some j ∧ Q (upd H p (.lst (xs.set j v))) := propext ⟨fun ⟨_, xs, _, j, e, e2, h⟩ => by cases e; cases e2; exact ⟨xs, j, h⟩, fun ⟨xs, j, h⟩ => ⟨p, xs, k, j, rfl, rfl, h⟩⟩
theorem rCat_ref {l b : Addr} {H : Hp} {Q : VK} : rCat (.ref l) (.ref b) H Q = ∃ xs zs, H l = some (.lst xs) ∧ H b = some (.lst zs) ∧ xs.length + zs.length ≤ sizeLine ∧ ∀ p, H p = none → Q (.ref p) (upd H p (.lst (xs ++ zs))) := propext ⟨fun ⟨_, _, xs, zs, e, e2, h⟩ => by cases e; cases e2; exact ⟨xs, zs, h⟩, fun ⟨xs, zs, h⟩ => ⟨l, b, xs, zs, rfl, rfl, h⟩⟩
theorem rRep_ref {l : Addr} {k : Int} {H : Hp} {Q : VK} : rRep (.ref l) (.int k) H Q = ∃ xs, H l = some (.lst xs) ∧ -(2 ^ 63) ≤ k ∧ k < 2 ^ 63 ∧ xs.length * k.toNat ≤ sizeLine ∧ ∀ p, H p = none → Q (.ref p) (upd H p (.lst (List.replicate k.toNat xs).flatten)) := propext ⟨fun ⟨_, _, xs, e, e2, h⟩ => by cases e; cases e2; exact ⟨xs, h⟩, fun ⟨xs, h⟩ => ⟨l, k, xs, rfl, rfl, h⟩⟩
theorem rJoin_ref {K : PySem.W.Frag} {a : Str} {p : Addr} {H : Hp} {Q : VK} : rJoin K (.str a) [.ref p] H Q = ∃ ys : List Str, (SqL K H p (ys.map V.str) ∨ SqT K H p (ys.map V.str)) ∧ (ys.map (·.length)).sum + ys.length * a.length ≤ 16777216 ∧ Q (.str (Txt.join a ys)) H := propext ⟨fun ⟨_, _, xs, e, e2, h⟩ => by cases e; cases e2; exact ⟨xs, h⟩, fun ⟨xs, h⟩ => ⟨a, p, xs, rfl, rfl, h⟩⟩
theorem rSlL_ref {K : PySem.W.Frag} {a : Addr} {lo hi : Option Int} {H : Hp} {Q : VK} : rSlL K (.ref a) lo hi H Q = ∃ xs, SqL K H a xs ∧ ∀ p, H p = none → Q (.ref p) (upd H p (.lst (cutV xs lo hi))) := propext ⟨fun ⟨_, xs, e, h⟩ => by cases e; exact ⟨xs, h⟩, fun ⟨xs, h⟩ => ⟨a, xs, rfl, h⟩⟩
theorem rSlS_ref {z : Str} {lo hi : Option Int} {H : Hp} {Q : VK} : rSlS (.str z) lo hi H Q = (z.length ≤ sizeLine ∧ Q (.str (cutS z lo hi)) H) := propext ⟨fun ⟨_, e, h⟩ => by cases e; exact h, fun h => ⟨z, rfl, h⟩⟩
theorem rIxL_ref {K : PySem.W.Frag} {p : Addr} {i : Int} {H : Hp} {Q : VK} : rIxL K (.ref p) (.int i) H Q = ∃ xs v, SqL K H p xs ∧ atI xs i = some v ∧ Q v H := propext ⟨fun ⟨_, xs, _, v, e, e2, h⟩ => by cases e; cases e2; exact ⟨xs, v, h⟩, fun ⟨xs, v, h⟩ => ⟨p, xs, i, v, rfl, rfl, h⟩⟩
theorem rIxT_ref {K : PySem.W.Frag} {p : Addr} {i : Int} {H : Hp} {Q : VK} : rIxT K (.ref p) (.int i) H Q = ∃ xs v, SqT K H p xs ∧ atI xs i = some v ∧ Q v H := propext ⟨fun ⟨_, xs, _, v, e, e2, h⟩ => by cases e; cases e2; exact ⟨xs, v, h⟩, fun ⟨xs, v, h⟩ => ⟨p, xs, i, v, rfl, rfl, h⟩⟩
theorem rLenK_ref {K : PySem.W.Frag} {p : Addr} {H : Hp} {Q : VK} : rLenK K [.ref p] H Q = ∃ ys, (SqL K H p ys ∨ SqT K H p ys) ∧ Q (.int ys.length) H := propext ⟨fun ⟨_, ys, e, h⟩ => by cases e; exact ⟨ys, h⟩, fun ⟨ys, h⟩ => ⟨p, ys, rfl, h⟩⟩
theorem rAll_ref {K : PySem.W.Frag} {p : Addr} {H : Hp} {Q : VK} : rAll K [.ref p] H Q = ∃ bs : List Bool, SqL K H p (bs.map V.bl) ∧ Q (.bl (bs.all id)) H := propext ⟨fun ⟨_, ys, e, h⟩ => by cases e; exact ⟨ys, h⟩, fun ⟨ys, h⟩ => ⟨p, ys, rfl, h⟩⟩
theorem rIn_ref {K : PySem.W.Frag} {b : Bool} {p : Addr} {x : V} {H : Hp} {Q : VK} : rIn K b x (.ref p) H Q = ∃ xs, (SqL K H p xs ∨ SqT K H p xs) ∧ flatV x = true ∧ xs.all flatV = true ∧ Q (.bl (if b then !inV x xs else inV x xs)) H := propext ⟨fun ⟨_, ys, e, h⟩ => by cases e; exact ⟨ys, h⟩, fun ⟨ys, h⟩ => ⟨p, ys, rfl, h⟩⟩
/-! ### a text once or not at all -/
def rMulS : R2 := fun x y H Q => ∃ z n, x = .str z ∧ y = .int n ∧ (n = 0 ∨ n = 1) ∧ Q (.str (if n = 1 then z else Str.empty)) H
theorem op_mulS {X : Cx} : OpR X (binaryOp .Mult) rMulS := by
  intro pins s σ H x y v u Q I rx ry h
  obtain ⟨z, n, rfl, rfl, hn, q⟩ := h
  obtain ⟨t, rfl⟩ := rx
  obtain ⟨t', rfl⟩ := ry
  refine SB.mul ?_ fun t2 k => ⟨.str (Txt.mul z n), H, I.tok _, ⟨_, rfl⟩, ?_⟩
  · rcases hn with rfl | rfl
    · exact ⟨by decide, fun h => absurd (by decide) h, fun h => absurd (by decide) h⟩
    · exact ⟨by decide, fun _ h => by simp at h, fun _ h => by simp at h⟩
  · have e : Txt.mul z n = if n = 1 then z else Str.empty := by
      rcases hn with rfl | rfl
      · rfl
      · rfl
    rw [e]; exact q
theorem rMulS_ref {z : Str} {n : Int} {H : Hp} {Q : VK} : rMulS (.str z) (.int n) H Q = ((n = 0 ∨ n = 1) ∧ Q (.str (if n = 1 then z else Str.empty)) H) := propext ⟨fun ⟨_, _, e, e2, h⟩ => by cases e; cases e2; exact h, fun h => ⟨z, n, rfl, rfl, h⟩⟩
/-! ### isinstance -/
section
variable {X : Cx} {K : PySem.W.Frag} (hK : X.K = K)
include hK
theorem call_isiK1 : CallR X (.builtin "isinstance") (rIsi K) := by subst hK; exact call_isi
theorem call_isiTK : CallR X (.builtin "isinstance") (rIsiT K) := by subst hK; exact call_isiT
theorem ix_seqK : IxR X (rIx K) := by subst hK; exact ix_seq
end
def tyName : PyData → String
  | .none => "NoneType"
  | .bool _ => "bool"
  | .int _ => "int"
  | .str _ => "str"
  | .list _ => "list"
  | .tuple _ => "tuple"
  | .dict _ => "dict"
theorem tyx_dp {K : PySem.W.Frag} {H : Hp} {x : V} {d : PyData} (h : Dp K H x d) : TyX K H x (.type (tyName d)) := by
  cases h with
  | non => exact .base .non
  | bl b => exact .base (.bl b)
  | int i => exact .base (.int i)
  | str x => exact .base (.str x)
  | lst h _ =>
    rcases h with (h | ⟨o, h⟩) | ⟨o, its, n, h, c, _⟩
    · exact .base (.lst h)
    · exact .base (.frz h)
    · exact .kList h c
  | tup h _ =>
    rcases h with (h | ⟨o, h⟩) | ⟨o, its, n, h, c, _⟩
    · exact .base (.tup h)
    · exact .fTuple h
    · exact .kTuple h c
theorem isi_dp {K : PySem.W.Frag} {H : Hp} {x : V} {d : PyData} {n : String} {b : Bool} {Q : VK} (h : Dp K H x d) (e : kitB (tyName d) n = some b) (q : Q (.bl b) H) : rIsi K [x, .ty n] H Q :=
  ⟨x, .ty n, _, _, b, rfl, .ty n, tyx_dp h, kit_ty e, q⟩
theorem isiT_dp {K : PySem.W.Frag} {H : Hp} {x : V} {d : PyData} {tp : Addr} {n m : String} {b c : Bool} {Q : VK} (h : Dp K H x d) (ht : H tp = some (.tup [.ty n, .ty m])) (e : kitB (tyName d) n = some b) (e2 : kitB (tyName d) m = some c) (q : Q (.bl (b || c)) H) : rIsiT K [x, .ref tp] H Q := by
  refine ⟨x, tp, _, _, [.type n, .type m], b || c, rfl, ht, .cons (.ty n) (.cons (.ty m) .nil), tyx_dp h, kitAny_cons (kit_ty e) (fun hb => ?_) (fun hb => by rw [hb]; rfl), q⟩
  subst hb
  exact kitAny_cons (r := c) (kit_ty e2) (fun hc => by rw [hc]; exact kitAny_nil) (fun hc => hc)
theorem kb_NoneType_tuple : kitB "NoneType" "tuple" = some false := by decide +kernel
theorem kb_NoneType_list : kitB "NoneType" "list" = some false := by decide +kernel
theorem kb_NoneType_str : kitB "NoneType" "str" = some false := by decide +kernel
theorem kb_NoneType_int : kitB "NoneType" "int" = some false := by decide +kernel
theorem kb_NoneType_bool : kitB "NoneType" "bool" = some false := by decide +kernel
theorem kb_bool_tuple : kitB "bool" "tuple" = some false := by decide +kernel
theorem kb_bool_list : kitB "bool" "list" = some false := by decide +kernel
theorem kb_bool_str : kitB "bool" "str" = some false := by decide +kernel
theorem kb_bool_int : kitB "bool" "int" = some true := by decide +kernel
theorem kb_bool_bool : kitB "bool" "bool" = some true := by decide +kernel
theorem kb_int_tuple : kitB "int" "tuple" = some false := by decide +kernel
theorem kb_int_list : kitB "int" "list" = some false := by decide +kernel
theorem kb_int_str : kitB "int" "str" = some false := by decide +kernel
theorem kb_int_int : kitB "int" "int" = some true := by decide +kernel
theorem kb_int_bool : kitB "int" "bool" = some false := by decide +kernel
theorem kb_str_tuple : kitB "str" "tuple" = some false := by decide +kernel
theorem kb_str_list : kitB "str" "list" = some false := by decide +kernel
theorem kb_str_str : kitB "str" "str" = some true := by decide +kernel
theorem kb_str_int : kitB "str" "int" = some false := by decide +kernel
theorem kb_str_bool : kitB "str" "bool" = some false := by decide +kernel
theorem kb_list_tuple : kitB "list" "tuple" = some false := by decide +kernel
theorem kb_list_list : kitB "list" "list" = some true := by decide +kernel
theorem kb_list_str : kitB "list" "str" = some false := by decide +kernel
theorem kb_list_int : kitB "list" "int" = some false := by decide +kernel
theorem kb_list_bool : kitB "list" "bool" = some false := by decide +kernel
theorem kb_tuple_tuple : kitB "tuple" "tuple" = some true := by decide +kernel
theorem kb_tuple_list : kitB "tuple" "list" = some false := by decide +kernel
theorem kb_tuple_str : kitB "tuple" "str" = some false := by decide +kernel
theorem kb_tuple_int : kitB "tuple" "int" = some false := by decide +kernel
theorem kb_tuple_bool : kitB "tuple" "bool" = some false := by decide +kernel
mutual
/-- every list and tuple within is of bounded length -/
def smallD : PyData → Bool
  | .list xs => decide (xs.length ≤ 100000) && smallAll xs
  | .tuple xs => decide (xs.length ≤ 100000) && smallAll xs
  | .none => true
  | .bool _ => true
  | .int _ => true
  | .str _ => true
  | .dict _ => true
def smallAll : List PyData → Bool
  | [] => true
  | x :: r => smallD x && smallAll r
end
theorem small_in : ∀ {ds : List PyData}, smallAll ds = true → ∀ d ∈ ds, smallD d = true
  | [], _, _, h => nomatch h
  | x :: r, h, d, hd => by
    simp only [smallAll, Bool.and_eq_true] at h
    rcases List.mem_cons.mp hd with e | e
    · rw [e]; exact h.1
    · exact small_in h.2 d e
theorem smallAll_of : ∀ {ds : List PyData}, (∀ d ∈ ds, smallD d = true) → smallAll ds = true
  | [], _ => by simp only [smallAll]
  | x :: r, h => by
    simp only [smallAll]
    rw [h x (List.mem_cons_self ..), smallAll_of fun d hd => h d (List.mem_cons_of_mem _ hd)]; rfl
theorem smallL_of {ds : List PyData} (hl : ds.length ≤ 100000) (h : ∀ d ∈ ds, smallD d = true) : smallD (.list ds) = true := by
  simp only [smallD]
  rw [decide_eq_true hl, smallAll_of h]; rfl
theorem smallT_of {ds : List PyData} (hl : ds.length ≤ 100000) (h : ∀ d ∈ ds, smallD d = true) : smallD (.tuple ds) = true := by
  simp only [smallD]
  rw [decide_eq_true hl, smallAll_of h]; rfl
/-! ### == of data -/
theorem dpAll_map {K : PySem.W.Frag} {H : Hp} {α : Type} {f : α → V} {g : α → PyData} : ∀ {xs : List α}, (∀ a ∈ xs, Dp K H (f a) (g a)) → DpAll K H (xs.map f) (xs.map g)
  | [], _ => .nil
  | a :: r, h => .cons (h a (List.mem_cons_self ..)) (dpAll_map fun b hb => h b (List.mem_cons_of_mem _ hb))
mutual
theorem dp_same {K : PySem.W.Frag} {H H' : Hp} (s : Same H H') : ∀ {v : V} {d : PyData}, Dp K H v d → Dp K H' v d
  | _, _, .non => .non
  | _, _, .bl b => .bl b
  | _, _, .int i => .int i
  | _, _, .str x => .str x
  | _, _, .lst h a => .lst (s.seq h) (dpAll_same s a)
  | _, _, .tup h a => .tup (same_tup s h) (dpAll_same s a)
theorem dpAll_same {K : PySem.W.Frag} {H H' : Hp} (s : Same H H') : ∀ {vs : List V} {ds : List PyData}, DpAll K H vs ds → DpAll K H' vs ds
  | _, _, .nil => .nil
  | _, _, .cons h a => .cons (dp_same s h) (dpAll_same s a)
end
theorem dpAll_len {K : PySem.W.Frag} {H : Hp} : ∀ {vs : List V} {ds : List PyData}, DpAll K H vs ds → vs.length = ds.length
  | _, _, .nil => rfl
  | _, _, .cons _ a => by rw [List.length_cons, List.length_cons, dpAll_len a]
theorem dpAll_get {K : PySem.W.Frag} {H : Hp} : ∀ {vs : List V} {ds : List PyData} {i : Nat} {d : PyData}, DpAll K H vs ds → ds[i]? = some d → ∃ v, vs[i]? = some v ∧ Dp K H v d
  | _, _, _, _, .nil, e => by simp at e
  | _, _, 0, _, .cons h _, e => by simp at e; subst e; exact ⟨_, rfl, h⟩
  | _, _, i + 1, _, .cons _ a, e => by
    obtain ⟨v, e1, e2⟩ := dpAll_get (i := i) a (by simpa using e)
    exact ⟨v, by simpa using e1, e2⟩
theorem depth_in : ∀ {ds : List PyData} {d : PyData}, d ∈ ds → d.depth ≤ PyData.depthAll ds
  | [], _, h => nomatch h
  | x :: r, d, h => by
    simp only [PyData.depthAll]
    rcases List.mem_cons.mp h with e | e
    · rw [e]; exact Nat.le_max_left _ _
    · exact Nat.le_trans (depth_in e) (Nat.le_max_right _ _)
theorem canAll_of : ∀ {ds : List PyData}, (∀ d ∈ ds, d.canLay0 = true) → PyData.canLayAll0 ds = true
  | [], _ => by simp only [PyData.canLayAll0]
  | d :: r, h => by
    simp only [PyData.canLayAll0]
    rw [h d (List.mem_cons_self ..), canAll_of fun b hb => h b (List.mem_cons_of_mem _ hb)]; rfl
theorem depthAll_of {k : Nat} : ∀ {ds : List PyData}, (∀ d ∈ ds, d.depth ≤ k) → PyData.depthAll ds ≤ k
  | [], _ => by simp only [PyData.depthAll]; omega
  | d :: r, h => by
    simp only [PyData.depthAll]
    exact Nat.max_le.mpr ⟨h d (List.mem_cons_self ..), depthAll_of fun b hb => h b (List.mem_cons_of_mem _ hb)⟩
theorem shaped_list {ds : List PyData} (k : Nat) (hk : k ≤ 63) (h : ∀ d ∈ ds, d.canLay0 = true ∧ d.depth ≤ k) : SeqAt.shaped (.list ds) = true := by
  unfold SeqAt.shaped
  refine Bool.and_eq_true_iff.mpr ⟨?_, decide_eq_true ?_⟩
  · simp only [PyData.canLay0]
    exact canAll_of fun d hd => (h d hd).1
  · have := depthAll_of fun d hd => (h d hd).2
    simp only [PyData.depth]
    omega
theorem shaped_tuple {ds : List PyData} (k : Nat) (hk : k ≤ 63) (h : ∀ d ∈ ds, d.canLay0 = true ∧ d.depth ≤ k) : SeqAt.shaped (.tuple ds) = true := by
  unfold SeqAt.shaped
  refine Bool.and_eq_true_iff.mpr ⟨?_, decide_eq_true ?_⟩
  · simp only [PyData.canLay0]
    exact canAll_of fun d hd => (h d hd).1
  · have := depthAll_of fun d hd => (h d hd).2
    simp only [PyData.depth]
    omega
theorem shaped_ints (ns : List Int) : SeqAt.shaped (.list (ns.map PyData.int)) = true := shaped_list 0 (by decide) fun d hd => by
  obtain ⟨n, _, rfl⟩ := List.mem_map.mp hd
  exact ⟨by simp only [PyData.canLay0], by simp only [PyData.depth]; omega⟩
theorem eqv_nil (ds : List PyData) : PyData.eqv (.list ds) (.list []) = ds.isEmpty := by
  cases ds with
  | nil => simp only [PyData.eqv, PyData.eqvAll]; rfl
  | cons d r => simp only [PyData.eqv, PyData.eqvAll]; rfl
theorem cut_last {xs : List V} : cutV xs none (some (-1)) = xs.dropLast := by
  unfold cutV
  rw [HT.sIx_none]
  have e : HT.sIx xs.length xs.length (some (-1)) = xs.length - 1 := by
    unfold HT.sIx
    simp only
    rw [if_pos (show (-1 : Int) < 0 by decide)]
    omega
  rw [e, List.drop_zero, Nat.sub_zero, List.dropLast_eq_take]
/-! ### texts of signs -/
theorem joinL_nil : ∀ ps : List (List Nat), TL.joinL [] ps = ps.flatten
  | [] => rfl
  | [p] => by simp [TL.joinL]
  | p :: q :: r => by
    show p ++ ([] ++ TL.joinL [] (q :: r)) = _
    rw [joinL_nil (q :: r)]; simp
theorem tl_signs (cs : List Nat) : TL.tl (Txt.join (Str.ofString "") (cs.map fun c => (⟨#[c]⟩ : Str))) = cs := by
  rw [TL.join_eq, TL.tl_join, show TL.tl (Str.ofString "") = [] by decide +kernel, joinL_nil, List.map_map]
  induction cs with
  | nil => rfl
  | cons c r ih =>
    show [c] ++ _ = _
    rw [ih]; rfl
/-! ### a block cut in two: R is what is known between -/
def tCutE (t u : TS) : TS := fun D σ H => ∃ R : L2.St → Hp → Prop, t { D with nx := R } σ H ∧ ∀ σ' H', R σ' H' → u D σ' H'
theorem pss_cutE {X : Cx} {st : Stmt} {rest : List Stmt} {t u : TS} (h1 : PS X st t) (h2 : PSs X rest u) : PSs X (st :: rest) (tCutE t u) := by
  refine ⟨fun pins s σ H D I ⟨R, h, hr⟩ => ?_⟩
  refine wpAny_execs_cons (thn (h1.run pins s σ H { D with nx := R } I h) fun f s1 q => ?_)
  cases f with
  | next =>
    obtain ⟨σ', H', I', q⟩ := q
    exact h2.run pins s1 σ' H' D I' (hr σ' H' q)
  | ret v => exact q
  | brk => exact q
  | cont => exact q
theorem newF {H H3 : Hp} {p : Addr} {o : HO} (hH : upd H p o = H3) (hp : H p = none) : Same H H3 ∧ H3 p = some o := by
  subst hH
  exact ⟨same_put (Same.refl _) hp, upd_same⟩
/-! ### a heap without one object -/
def offA (p : Addr) (H : Hp) : Hp := fun b => if b = p then none else H b
theorem offA_ne {p b : Addr} {H : Hp} (h : b ≠ p) : offA p H b = H b := if_neg h
theorem offA_upd {p : Addr} {H : Hp} {o : HO} : offA p (upd H p o) = offA p H := by
  funext b; unfold offA upd
  split <;> rfl
theorem offA_same {p : Addr} {H : Hp} : Same (offA p H) H := fun b o h => by
  unfold offA at h
  split at h
  · cases h
  · exact h
theorem offA_mono {p : Addr} {H H' : Hp} (s : Same H H') : Same (offA p H) (offA p H') := fun b o h => by
  unfold offA at h ⊢
  split at h
  · cases h
  · rename_i n; rw [if_neg n]; exact s b o h
theorem dpAll_snoc {K : PySem.W.Frag} {H : Hp} {v : V} {d : PyData} (h1 : Dp K H v d) : ∀ {vs : List V} {ds : List PyData}, DpAll K H vs ds → DpAll K H (vs ++ [v]) (ds ++ [d])
  | _, _, .nil => .cons h1 .nil
  | _, _, .cons a b => .cons a (dpAll_snoc h1 b)
theorem ext_off {S : Addr → Prop} {p : Addr} {H H' : Hp} (s : Ext S H H') : Ext S (offA p H) (offA p H') := fun b o n h => by
  unfold offA at h ⊢
  split at h
  · cases h
  · rename_i z; rw [if_neg z]; exact s b o n h
/-- a comprehension: what is known of the heap without the new list goes with what is gathered -/
theorem lc_accH {J : It} {n : Nat} {G : Hp → Prop} {Y : Nat → Hp → V → Hp → Prop} (w : Walk J n G Y) {g : TG} {tt : TT} {te : TE} {vs : List Nat} {σ : L2.St} {H1 : Hp} {Q : VK} (S : Addr → Prop) (Jv : Nat → List V → Hp → Prop)
    (hn : n < sizeLine) (nD : ∀ D, H1 D = none → ¬ S D) (h0 : Jv 0 [] H1) (hG : ∀ H D i acc, H1 D = none → Ext S H1 H → Jv i acc (offA D H) → G H)
    (hs : ∀ D i x H H' acc (R : Option V → Hp → Prop), H1 D = none → H D = some (.lst acc) → i < n → Ext S H1 H → Jv i acc (offA D H) → Y i H x H' →
      (∀ H2, Ext S H H2 → Jv (i + 1) acc (offA D H2) → R none H2) → (∀ y H2, Ext S H H2 → Jv (i + 1) (acc ++ [y]) (offA D H2) → R (some y) H2) →
      g x (wipe σ vs) H' fun σ2 H2 => wipe σ2 vs = wipe σ vs ∧ tt σ2 H2 fun b H3 => if b = true then te σ2 H3 (fun y H4 => R (some y) H4) else R none H3)
    (hd : ∀ D acc H, H1 D = none → acc.length ≤ n → Ext S H1 H → Jv n acc (offA D H) → H D = some (.lst acc) → Q (.ref D) H) : LcG J g tt te vs σ H1 Q := by
  intro D fD
  have nD := nD D fD
  have e0 : offA D (upd H1 D (.lst [])) = H1 := by
    rw [offA_upd]; funext b; unfold offA
    split
    · rename_i e; rw [e, fD]
    · rfl
  refine lc_it w (fun i H => ∃ acc, Jv i acc (offA D H) ∧ acc.length ≤ i ∧ Ext S H1 H ∧ H D = some (.lst acc)) ⟨[], by rw [e0]; exact h0, Nat.le_refl _, (Ext.refl S H1).put (.inl fD), upd_same⟩ (fun i H _ ⟨acc, j, _, e, _⟩ => hG H D i acc fD e j) (fun i x H H' hi hP hy => ?_)
    (fun H ⟨acc, p, l, e, hD⟩ => hd D acc H fD l e p hD)
  obtain ⟨acc, p, l, e, hD⟩ := hP
  refine hs D i x H H' acc (fun o H4 => match o with
    | some y => ∃ acc, H4 D = some (.lst acc) ∧ acc.length < sizeLine ∧ ∃ acc', Jv (i + 1) acc' (offA D (upd H4 D (.lst (acc ++ [y])))) ∧ acc'.length ≤ i + 1 ∧ Ext S H1 (upd H4 D (.lst (acc ++ [y]))) ∧ (upd H4 D (.lst (acc ++ [y]))) D = some (.lst acc')
    | none => ∃ acc', Jv (i + 1) acc' (offA D H4) ∧ acc'.length ≤ i + 1 ∧ Ext S H1 H4 ∧ H4 D = some (.lst acc')) fD hD hi e p hy (fun H2 e2 p2 => ?_) (fun y H2 e2 p2 => ?_)
  · exact ⟨acc, p2, Nat.le_succ_of_le l, e.trans e2, e2 D _ nD hD⟩
  · exact ⟨acc, e2 D _ nD hD, Nat.lt_of_le_of_lt (Nat.le_trans l (Nat.le_of_lt hi)) hn, acc ++ [y], by rw [offA_upd]; exact p2, by rw [List.length_append]; exact Nat.succ_le_succ l, (e.trans e2).put (.inl fD), upd_same⟩
/-! ### tuples at addresses -/
def TupsAt (H : Hp) : List Addr → List (List V) → Prop
  | [], [] => True
  | t :: ts, x :: xs => H t = some (.tup x) ∧ TupsAt H ts xs
  | _, _ => False
theorem TupsAt.mono {H H' : Hp} (e : ∀ t x, H t = some (.tup x) → H' t = some (.tup x)) : ∀ {ts : List Addr} {xs : List (List V)}, TupsAt H ts xs → TupsAt H' ts xs
  | [], [], _ => trivial
  | _ :: _, _ :: _, h => ⟨e _ _ h.1, TupsAt.mono e h.2⟩
  | [], _ :: _, h => h.elim
  | _ :: _, [], h => h.elim
theorem TupsAt.snoc {H : Hp} {t : Addr} {x : List V} (h1 : H t = some (.tup x)) : ∀ {ts : List Addr} {xs : List (List V)}, TupsAt H ts xs → TupsAt H (ts ++ [t]) (xs ++ [x])
  | [], [], _ => ⟨h1, trivial⟩
  | _ :: _, _ :: _, h => ⟨h.1, TupsAt.snoc h1 h.2⟩
  | [], _ :: _, h => h.elim
  | _ :: _, [], h => h.elim
theorem TupsAt.len {H : Hp} : ∀ {ts : List Addr} {xs : List (List V)}, TupsAt H ts xs → ts.length = xs.length
  | [], [], _ => rfl
  | _ :: _, _ :: _, h => by rw [List.length_cons, List.length_cons, TupsAt.len h.2]
  | [], _ :: _, h => h.elim
  | _ :: _, [], h => h.elim
theorem TupsAt.get {H : Hp} : ∀ {ts : List Addr} {xs : List (List V)} {i : Nat} {t : Addr}, TupsAt H ts xs → ts[i]? = some t → ∃ x, xs[i]? = some x ∧ H t = some (.tup x)
  | [], [], _, _, _, e => by simp at e
  | _ :: _, x :: _, 0, _, h, e => by simp at e; subst e; exact ⟨x, rfl, h.1⟩
  | _ :: _, _ :: _, i + 1, _, h, e => by
    obtain ⟨x, e1, e2⟩ := TupsAt.get (i := i) h.2 (by simpa using e)
    exact ⟨x, by simpa using e1, e2⟩
  | [], _ :: _, _, _, h, _ => h.elim
  | _ :: _, [], _, _, h, _ => h.elim
theorem TupsAt.dp {K : PySem.W.Frag} {H : Hp} {α : Type} {f : α → List V} {d : α → PyData} (hf : ∀ t a, H t = some (.tup (f a)) → Dp K H (.ref t) (d a)) : ∀ {ts : List Addr} {as : List α}, TupsAt H ts (as.map f) → DpAll K H (ts.map V.ref) (as.map d)
  | [], [], _ => .nil
  | _ :: _, _ :: _, h => .cons (hf _ _ h.1) (TupsAt.dp hf h.2)
  | [], _ :: _, h => h.elim
  | _ :: _, [], h => h.elim
theorem walk_tups {K : PySem.W.Frag} {D : Addr} {α : Type} {us : List Addr} {as : List α} (hl : us.length = as.length) : Walk (Itl K D) (us.zip as).length (fun H => SqL K H D (us.map V.ref)) (fun j H x H' => H' = H ∧ ∃ y, (us.zip as)[j]? = some y ∧ x = .ref y.1) := by
  have w := walk_listm (K := K) (a := D) us V.ref
  have el : (us.zip as).length = us.length := by rw [List.length_zip]; omega
  rw [el]
  refine w.mono (fun H h => h) (fun i H x H' hi _ y => ⟨y.1, ?_⟩)
  obtain ⟨t, e1, e2⟩ := y.2
  have hi2 : i < as.length := by omega
  refine ⟨(t, as[i]), List.getElem?_zip_eq_some.mpr ⟨e1, List.getElem?_eq_getElem hi2⟩, e2⟩
theorem TupsAt.zat {H : Hp} {α : Type} {f : α → List V} {us : List Addr} {as : List α} {j : Nat} {y : Addr × α} (h : TupsAt H us (as.map f)) (hy : (us.zip as)[j]? = some y) : H y.1 = some (.tup (f y.2)) ∧ y.2 ∈ as := by
  obtain ⟨h1, h2⟩ := List.getElem?_zip_eq_some.mp hy
  obtain ⟨x, e1, e2⟩ := h.get h1
  rw [List.getElem?_map, h2] at e1
  cases e1
  exact ⟨e2, List.mem_of_getElem? h2⟩
theorem zip_snd_map {α β : Type} {us : List Addr} {as : List α} (hl : us.length = as.length) (f : α → β) : (us.zip as).map (fun q => f q.2) = as.map f := by
  have : as = (us.zip as).map Prod.snd := by rw [List.map_snd_zip (by omega)]
  conv => rhs; rw [this, List.map_map]
  rfl
end Hk

set_option Elab.async false
set_option linter.all false
set_option maxRecDepth 100000
set_option maxHeartbeats 4000000
/-! An if whose two sides are told of by what is known there. -/
namespace Hk
open PySem PySem.Spec PyProof.Rows L2
def tIfE (c : TT) (t u : TS) : TS := fun D σ H => ∃ RA RB : Hp → Prop, c σ H (fun b H1 => if b = true then RA H1 else RB H1) ∧ (∀ H1, RA H1 → t D σ H1) ∧ ∀ H1, RB H1 → u D σ H1
theorem ps_ifE {X : Cx} {c : Expr} {a b : List Stmt} {tc : TT} {t u : TS} {pos : Pos} (hc : PT X c tc) (ha : PSs X a t) (hb : PSs X b u) : PS X (.If c a b pos) (tIfE tc t u) := by
  refine ⟨fun pins s σ H D I ⟨RA, RB, h, hA, hB⟩ => ?_⟩
  refine wpAny_If (thn (hc.run pins s σ H _ I h) fun d s1 ⟨H1, I1, q1⟩ => ?_)
  cases d with
  | true => exact ha.run pins s1 σ H1 D I1 (hA H1 q1)
  | false => exact hb.run pins s1 σ H1 D I1 (hB H1 q1)
end Hk

set_option Elab.async false
set_option linter.all false
set_option maxRecDepth 100000
set_option maxHeartbeats 4000000
/-! Lines and patterns, in plain Lean. -/
namespace Hk
open PySem PySem.Spec PyProof.Rows L2 TL
abbrev letters : Str := "abcdefghijklmnopqrstuvwxyz"
def isWord (z : Str) : Bool := decide (1 ≤ z.length) && (decide (z.length ≤ 4) && (tl z).all fun c => decide (c ∈ tl letters))
def isLine (z : Str) : Bool := decide ((wds z).length ≤ 6) && (wds z).all isWord
/-- without the last one, if that is # -/
def cut (ws : List Str) : List Str := if ws.getLast? = some ("#" : Str) then ws.dropLast else ws
def starOr (z : Str) : Bool := decide (z = ("*" : Str)) || isWord z
def isPat (z : Str) : Bool := decide ((cut (wds z)).length ≤ 6) && (cut (wds z)).all starOr
/-- a pattern's words for lines of n -/
def ofLen (p : Str) (n : Int) : Option (List Str) :=
  let ws := wds p
  let us := if ws.getLast? = some ("#" : Str) then ws.dropLast ++ List.replicate (n - ws.dropLast.length).toNat ("*" : Str) else ws
  if (us.length : Int) = n then some us else none
def fit1 (q : Str × Str) : Bool := decide (q.1 = ("*" : Str)) || decide (q.1 = q.2)
def doesFit (p l : Str) : Bool := match ofLen p (wds l).length with
  | none => false
  | some ws => (ws.zip (wds l)).all fit1
theorem wds_ne (z : Str) : wds z ≠ [] := by
  intro h
  have e := split_spl z "." (by decide +kernel) (kind_ok (by decide +kernel))
  have h2 : (Txt.split z (".": Str)).map tl = [] := by
    show (wds z).map tl = []
    rw [h]; rfl
  rw [h2] at e
  have : ∀ (acc l : List Nat), spl (tl (".": Str)) 0 acc l ≠ [] := by
    intro acc l
    induction l generalizing acc with
    | nil => rw [spl_nil]; simp
    | cons c r ih =>
      cases q : pre (tl (".": Str)) (c :: r) with
      | true => rw [spl_hit q]; simp
      | false => rw [spl_miss q]; exact ih _
  exact this _ _ e.symm
theorem split_len_le (z y : Str) (hy : tl y ≠ []) (hk : ¬ Builtin.Str.strKind z < Builtin.Str.strKind y) : (Txt.split z y).length ≤ z.length + 1 := by
  have e := congrArg List.length (split_spl z y hy hk)
  rw [List.length_map] at e
  rw [e]
  have main : ∀ (k : Nat) (l acc : List Nat), l.length ≤ k → (spl (tl y) 0 acc l).length ≤ l.length + 1 := by
    intro k
    induction k with
    | zero =>
      intro l acc h
      have : l = [] := List.eq_nil_of_length_eq_zero (by omega)
      subst this
      rw [spl_nil]; simp
    | succ k ih =>
      intro l acc h
      cases l with
      | nil => rw [spl_nil]; simp
      | cons c r =>
        cases q : pre (tl y) (c :: r) with
        | true =>
          rw [spl_hit q, spl_pass]
          have := ih (r.drop ((tl y).length - 1)) [] (by simp at h; rw [List.length_drop]; omega)
          rw [List.length_drop] at this
          simp only [List.length_cons]
          omega
        | false =>
          rw [spl_miss q]
          have := ih r (acc ++ [c]) (by simpa using h)
          simp only [List.length_cons]
          omega
  have := main _ (tl z) [] (Nat.le_refl _)
  rw [len_tl]; exact this
theorem wds_len (z : Str) : (wds z).length ≤ z.length + 1 := split_len_le z "." (by decide +kernel) (kind_ok (by decide +kernel))
theorem wds_join {ws : List Str} (hne : ws ≠ []) (h : ∀ p ∈ ws, 46 ∉ tl p) : wds (Txt.join "." ws) = ws :=
  split_join (y := ".") (s := 46) (S := []) (by decide +kernel) (by decide +kernel) hne h
/-- every word that a text is cut into is as long as the text at most -/
theorem split_each_le (z y : Str) (hy : tl y ≠ []) (hk : ¬ Builtin.Str.strKind z < Builtin.Str.strKind y) : ∀ w ∈ Txt.split z y, w.length ≤ z.length := by
  intro w hw
  have e := split_spl z y hy hk
  have hm : tl w ∈ spl (tl y) 0 [] (tl z) := by
    rw [← e]; exact List.mem_map.mpr ⟨w, hw, rfl⟩
  have main : ∀ (k : Nat) (l acc : List Nat), l.length ≤ k → ∀ x ∈ spl (tl y) 0 acc l, x.length ≤ acc.length + l.length := by
    intro k
    induction k with
    | zero =>
      intro l acc h x hx
      have : l = [] := List.eq_nil_of_length_eq_zero (by omega)
      subst this
      rw [spl_nil] at hx
      simp at hx; subst hx; simp
    | succ k ih =>
      intro l acc h x hx
      cases l with
      | nil => rw [spl_nil] at hx; simp at hx; subst hx; simp
      | cons c r =>
        cases q : pre (tl y) (c :: r) with
        | true =>
          rw [spl_hit q, spl_pass] at hx
          rcases List.mem_cons.mp hx with rfl | hx
          · simp
          · have := ih (r.drop ((tl y).length - 1)) [] (by simp at h; rw [List.length_drop]; omega) x hx
            rw [List.length_drop] at this
            simp only [List.length_cons, List.length_nil] at this ⊢
            omega
        | false =>
          rw [spl_miss q] at hx
          have := ih r (acc ++ [c]) (by simpa using h) x hx
          simp only [List.length_cons, List.length_append, List.length_nil] at this ⊢
          omega
  have := main _ (tl z) [] (Nat.le_refl _) _ hm
  rw [len_tl w, len_tl z]
  simpa using this
theorem wds_each (z : Str) : ∀ w ∈ wds z, w.length ≤ z.length := split_each_le z "." (by decide +kernel) (kind_ok (by decide +kernel))
/-- .. and of its signs -/
theorem split_mem (z y : Str) (hy : tl y ≠ []) (hk : ¬ Builtin.Str.strKind z < Builtin.Str.strKind y) : ∀ w ∈ Txt.split z y, ∀ c ∈ tl w, c ∈ tl z := by
  intro w hw
  have e := split_spl z y hy hk
  have hm : tl w ∈ spl (tl y) 0 [] (tl z) := by
    rw [← e]; exact List.mem_map.mpr ⟨w, hw, rfl⟩
  have main : ∀ (k : Nat) (l acc : List Nat), l.length ≤ k → ∀ x ∈ spl (tl y) 0 acc l, ∀ c ∈ x, c ∈ acc ∨ c ∈ l := by
    intro k
    induction k with
    | zero =>
      intro l acc h x hx
      have : l = [] := List.eq_nil_of_length_eq_zero (by omega)
      subst this
      rw [spl_nil] at hx
      simp at hx; subst hx; exact fun c hc => .inl hc
    | succ k ih =>
      intro l acc h x hx
      cases l with
      | nil => rw [spl_nil] at hx; simp at hx; subst hx; exact fun c hc => .inl hc
      | cons c r =>
        cases q : pre (tl y) (c :: r) with
        | true =>
          rw [spl_hit q, spl_pass] at hx
          rcases List.mem_cons.mp hx with rfl | hx
          · exact fun c hc => .inl hc
          · have := ih (r.drop ((tl y).length - 1)) [] (by simp at h; rw [List.length_drop]; omega) x hx
            intro d hd
            rcases this d hd with z | z
            · cases z
            · exact .inr (List.mem_cons_of_mem _ (List.mem_of_mem_drop z))
        | false =>
          rw [spl_miss q] at hx
          have := ih r (acc ++ [c]) (by simpa using h) x hx
          intro d hd
          rcases this d hd with z | z
          · rcases List.mem_append.mp z with z | z
            · exact .inl z
            · rw [List.mem_singleton.mp z]; exact .inr (List.mem_cons_self ..)
          · exact .inr (List.mem_cons_of_mem _ z)
  intro c hc
  rcases main _ (tl z) [] (Nat.le_refl _) _ hm c hc with z | z
  · cases z
  · exact z
theorem strOk_iff {z : Str} : PyData.strOk z = true ↔ ∀ c ∈ tl z, c < 1114112 := by
  unfold PyData.strOk
  rw [Array.all_eq_true_iff_forall_mem]
  constructor
  · intro h c hc
    have := h c (Array.mem_toList_iff.mp hc)
    simpa using this
  · intro h c hc
    have := h c (Array.mem_toList_iff.mpr hc)
    simpa using this
theorem split_ok {z y : Str} (hy : tl y ≠ []) (hk : ¬ Builtin.Str.strKind z < Builtin.Str.strKind y) (h : PyData.strOk z = true) : ∀ w ∈ Txt.split z y, PyData.strOk w = true := fun w hw =>
  strOk_iff.mpr fun c hc => strOk_iff.mp h c (split_mem z y hy hk w hw c hc)
theorem shaped_strs {us : List Str} (h : ∀ z ∈ us, PyData.strOk z = true) : SeqAt.shaped (.list (us.map PyData.str)) = true := by
  unfold SeqAt.shaped
  refine Bool.and_eq_true_iff.mpr ⟨?_, decide_eq_true ?_⟩
  · simp only [PyData.canLay0]
    rw [canLayAll_strs', List.all_eq_true]; exact h
  · have : ∀ us : List Str, PyData.depthAll (us.map PyData.str) ≤ 0 := fun us => by
      induction us with
      | nil => simp only [List.map_nil, PyData.depthAll]; omega
      | cons a r ih =>
        simp only [List.map_cons, PyData.depthAll, PyData.depth]
        exact Nat.max_le.mpr ⟨Nat.le_refl _, ih⟩
    have := this us
    simp only [PyData.depth]
    omega
theorem sum_le {ws : List Str} {k : Nat} (h : ∀ w ∈ ws, w.length ≤ k) : (ws.map (·.length)).sum ≤ ws.length * k := by
  induction ws with
  | nil => simp
  | cons a r ih =>
    have h1 := h a (List.mem_cons_self ..)
    have h2 := ih fun w hw => h w (List.mem_cons_of_mem _ hw)
    simp only [List.map_cons, List.sum_cons, List.length_cons]
    rw [Nat.add_mul]; omega
theorem sum_one (cs : List Nat) : ((cs.map fun c => (⟨#[c]⟩ : Str)).map (·.length)).sum = cs.length := by
  induction cs with
  | nil => rfl
  | cons a r ih =>
    simp only [List.map_cons, List.sum_cons, List.length_cons]
    rw [ih]
    show 1 + r.length = _
    omega
theorem joinL_len (S : List Nat) : ∀ ps : List (List Nat), (joinL S ps).length ≤ (ps.map List.length).sum + ps.length * S.length
  | [] => by simp [joinL]
  | [p] => by simp [joinL]
  | p :: q :: r => by
    have := joinL_len S (q :: r)
    show (p ++ (S ++ joinL S (q :: r))).length ≤ _
    simp only [List.length_append, List.map_cons, List.sum_cons, List.length_cons] at this ⊢
    rw [Nat.add_mul _ 1, Nat.one_mul]
    omega
theorem join_len (s : Str) (ws : List Str) : (Txt.join s ws).length ≤ (ws.map (·.length)).sum + ws.length * s.length := by
  have := joinL_len (tl s) (ws.map tl)
  rw [len_tl (Txt.join s ws), join_eq, tl_join, len_tl s]
  rw [List.map_map, List.length_map] at this
  have e : (ws.map (List.length ∘ tl)) = ws.map (·.length) := List.map_congr_left fun w _ => (len_tl w).symm
  rw [e] at this
  exact this
theorem joinD_len {ws : List Str} {k : Nat} (h : ∀ w ∈ ws, w.length ≤ k) : (Txt.join "." ws).length ≤ ws.length * (k + 1) := by
  have h1 := join_len "." ws
  have h2 := sum_le h
  have e : ("." : Str).length = 1 := by decide +kernel
  rw [e] at h1
  rw [Nat.mul_add]
  omega
theorem letters_in : ∀ c ∈ tl letters, 97 ≤ c ∧ c ≤ 122 := by decide +kernel
theorem word_signs {z : Str} (h : isWord z = true) : 1 ≤ z.length ∧ z.length ≤ 4 ∧ ∀ c ∈ tl z, 97 ≤ c ∧ c ≤ 122 := by
  unfold isWord at h
  simp only [Bool.and_eq_true, decide_eq_true_eq, List.all_eq_true] at h
  exact ⟨h.1, h.2.1, fun c hc => letters_in c (h.2.2 c hc)⟩
theorem star_signs {z : Str} (h : starOr z = true) : z.length ≤ 4 ∧ (∀ c ∈ tl z, c = 42 ∨ (97 ≤ c ∧ c ≤ 122)) ∧ z ≠ ("#" : Str) := by
  unfold starOr at h
  rcases Bool.or_eq_true_iff.mp h with h | h
  · have e := of_decide_eq_true h
    subst e
    refine ⟨by decide +kernel, ?_, by decide +kernel⟩
    have : tl ("*" : Str) = [42] := by decide +kernel
    rw [this]
    intro c hc; left; simpa using hc
  · obtain ⟨h1, h2, h3⟩ := word_signs h
    refine ⟨h2, fun c hc => .inr (h3 c hc), fun e => ?_⟩
    subst e
    have := h3 35 (by decide +kernel)
    omega
theorem word_star {z : Str} (h : isWord z = true) : starOr z = true := by unfold starOr; rw [h]; simp
theorem star_nodot {z : Str} (h : starOr z = true) : 46 ∉ tl z := fun hc => by
  rcases (star_signs h).2.1 46 hc with e | e
  · cases e
  · omega
/-- a pattern of such words; with # behind -/
theorem isPat_join {us : List Str} (hne : us ≠ []) (hl : us.length ≤ 6) (h : ∀ u ∈ us, starOr u = true) : isPat (Txt.join "." us) = true := by
  have e : wds (Txt.join "." us) = us := wds_join hne fun p hp => star_nodot (h p hp)
  unfold isPat
  rw [e]
  have ec : cut us = us := by
    unfold cut
    refine if_neg fun z => ?_
    have := List.mem_of_getLast? z
    exact (star_signs (h _ this)).2.2 rfl
  rw [ec, decide_eq_true hl, List.all_eq_true.mpr h]; rfl
theorem isPat_hash {us : List Str} (hl : us.length ≤ 6) (h : ∀ u ∈ us, starOr u = true) : isPat (Txt.join "." (us ++ [("#" : Str)])) = true := by
  have e : wds (Txt.join "." (us ++ [("#" : Str)])) = us ++ [("#" : Str)] := wds_join (by simp) fun p hp => by
    rcases List.mem_append.mp hp with hp | hp
    · exact star_nodot (h p hp)
    · rw [List.mem_singleton.mp hp]; decide +kernel
  unfold isPat
  rw [e]
  have ec : cut (us ++ [("#" : Str)]) = us := by
    unfold cut
    rw [if_pos (by simp)]
    simp
  rw [ec, decide_eq_true hl, List.all_eq_true.mpr h]; rfl
theorem isLine_join {us : List Str} (hne : us ≠ []) (hl : us.length ≤ 6) (h : ∀ u ∈ us, isWord u = true) : isLine (Txt.join "." us) = true := by
  have e : wds (Txt.join "." us) = us := wds_join hne fun p hp => star_nodot (word_star (h p hp))
  unfold isLine
  rw [e, decide_eq_true hl, List.all_eq_true.mpr h]; rfl
/-- words of few letters, one to four of them each -/
def fewWord (z : Str) : Prop := 1 ≤ z.length ∧ z.length ≤ 4 ∧ ∀ c ∈ tl z, c = 97 ∨ c = 98 ∨ c = 122
theorem few_word {z : Str} (h : fewWord z) : isWord z = true := by
  unfold isWord
  rw [decide_eq_true h.1, decide_eq_true h.2.1, Bool.true_and, Bool.true_and, List.all_eq_true]
  intro c hc
  refine decide_eq_true ?_
  rcases h.2.2 c hc with e | e | e
  · rw [e]; decide +kernel
  · rw [e]; decide +kernel
  · rw [e]; decide +kernel
end Hk

set_option Elab.async false
set_option linter.all false
set_option maxRecDepth 100000
set_option maxHeartbeats 4000000
/-! Functions as values: closures that outlive the frame that made them. -/
namespace Hk
open PySem PySem.Spec PyProof.Rows L2 LamX NdefX
/-! ### cells that are tracked -/
/-- the cell at c holds v; its object is ob -/
def CellO (c : Addr) (v : V) (ob : Obj) : HO := .frz ob (.ext fun h => ∃ u, L2.RelV v u ∧ h.IsCell c (some u))
def IsC (H : Hp) (c : Addr) (v : V) : Prop := ∃ ob, H c = some (CellO c v ob)
theorem IsC.ext {H H' : Hp} {c : Addr} {v : V} (h : IsC H c v) (e : ∀ ob, H c = some (CellO c v ob) → H' c = some (CellO c v ob)) : IsC H' c v := h.elim fun ob q => ⟨ob, e ob q⟩
theorem cellO_ok {P : Program} {w : World} {H : Hp} {h : Heap} {c : Addr} {v : V} {u : Value} {ob : Obj} (r : L2.RelV v u) (e : h.get? c = some ob) (d : ob.data = .cell (some u)) : ObjOk P w H h c (CellO c v ob) :=
  ⟨e, ⟨u, r, ob, e, d⟩, ⟨ob, e⟩, fun h1 h2 ⟨u, r, o, e, d⟩ st => ⟨u, r, o, st _ e, d⟩⟩
theorem cellO_at {P : Program} {w : World} {H : Hp} {h : Heap} {c : Addr} {v : V} {ob : Obj} (x : ObjOk P w H h c (CellO c v ob)) : h.get? c = some ob ∧ ∃ u, L2.RelV v u ∧ ob.data = .cell (some u) := by
  obtain ⟨e, ⟨u, r, o, e2, d⟩, _⟩ := x
  rw [e] at e2
  cases e2
  exact ⟨e, u, r, d⟩
/-- is one of the cells of cl -/
def InC (cl : List (Str × Addr)) (a : Addr) : Prop := ∃ y, cl.lookup y = some a
open Classical in
/-- H without these cells -/
noncomputable def delC (cl : List (Str × Addr)) (H : Hp) : Hp := fun a => if InC cl a then none else H a
open Classical in
/-- H with these cells as they are in G -/
noncomputable def putC (cl : List (Str × Addr)) (G H : Hp) : Hp := fun a => if InC cl a then G a else H a
theorem delC_in {cl : List (Str × Addr)} {H : Hp} {a : Addr} (h : InC cl a) : delC cl H a = none := by unfold delC; exact if_pos h
theorem delC_out {cl : List (Str × Addr)} {H : Hp} {a : Addr} (h : ¬ InC cl a) : delC cl H a = H a := by unfold delC; exact if_neg h
theorem putC_in {cl : List (Str × Addr)} {G H : Hp} {a : Addr} (h : InC cl a) : putC cl G H a = G a := by unfold putC; exact if_pos h
theorem putC_out {cl : List (Str × Addr)} {G H : Hp} {a : Addr} (h : ¬ InC cl a) : putC cl G H a = H a := by unfold putC; exact if_neg h
/-- the captured names fr, each in a cell of its own that holds what ws says -/
structure CapsAt (cl : List (Str × Addr)) (fr : List Str) (ws : List V) (H : Hp) : Prop where
  len : ws.length = fr.length
  inj : ∀ x y c, cl.lookup x = some c → cl.lookup y = some c → x = y
  only : ∀ y c, cl.lookup y = some c → y ∈ fr
  has : ∀ (i : Nat) (y : Str), fr[i]? = some y → ∃ c v, cl.lookup y = some c ∧ ws[i]? = some v ∧ IsC H c v
theorem CapsAt.tr {cl : List (Str × Addr)} {fr : List Str} {ws : List V} {H : Hp} (C : CapsAt cl fr ws H) {a : Addr} (h : InC cl a) : ∃ v, IsC H a v := by
  obtain ⟨y, e⟩ := h
  obtain ⟨i, hi⟩ := List.mem_iff_getElem?.mp (C.only y a e)
  obtain ⟨c, v, e1, _, e3⟩ := C.has i y hi
  rw [e] at e1
  cases e1
  exact ⟨v, e3⟩
theorem CapsAt.mono {cl : List (Str × Addr)} {fr : List Str} {ws : List V} {H H' : Hp} (C : CapsAt cl fr ws H) (e : ∀ a, InC cl a → ∀ v, IsC H a v → IsC H' a v) : CapsAt cl fr ws H' :=
  ⟨C.len, C.inj, C.only, fun i y h => by
    obtain ⟨c, v, e1, e2, e3⟩ := C.has i y h
    exact ⟨c, v, e1, e2, e c ⟨y, e1⟩ v e3⟩⟩
/-- what is no locked thing is none of the cells -/
theorem CapsAt.out {cl : List (Str × Addr)} {fr : List Str} {ws : List V} {H : Hp} (C : CapsAt cl fr ws H) {a : Addr} {o : HO} (h : H a = some o) (n : ∀ ob u, o ≠ .frz ob u) : ¬ InC cl a := fun z => by
  obtain ⟨v, ob, e⟩ := C.tr z
  rw [h] at e
  exact n _ _ (Option.some.inj e)
theorem CapsAt.outN {cl : List (Str × Addr)} {fr : List Str} {ws : List V} {H : Hp} (C : CapsAt cl fr ws H) {a : Addr} (h : H a = none) : ¬ InC cl a := fun z => by
  obtain ⟨v, ob, e⟩ := C.tr z
  rw [h] at e
  cases e
theorem CapsAt.del {cl : List (Str × Addr)} {fr : List Str} {ws : List V} {H : Hp} (C : CapsAt cl fr ws H) {a : Addr} {o : HO} (h : H a = some o) (n : ∀ ob u, o ≠ .frz ob u) : delC cl H a = some o := by rw [delC_out (C.out h n)]; exact h
section
variable {P : Program} {w : World} {cl : List (Str × Addr)} {fr : List Str} {ws : List V} {H H' : Hp} {h h' B : Heap} {fs : List Addr}
theorem CapsAt.hokDel (C : CapsAt cl fr ws H) (hok : HOk P w H h) : HOk P w (delC cl H) h := fun a o e => by
  have na : ¬ InC cl a := fun z => by rw [delC_in z] at e; cases e
  rw [delC_out na] at e
  exact (hok a o e).stay (fun _ _ _ q => q) (fun b q => C.del q (fun _ _ z => by cases z)) fun b xs q => C.del q (fun _ _ z => by cases z)
/-- behind the body: the cells are as they were -/
theorem CapsAt.hokPut (C : CapsAt cl fr ws H) (hok0 : HOk P w H h) (hok : HOk P w H' h') (kp : ∀ a, InC cl a → ∀ o, h.get? a = some o → h'.get? a = some o) (fr0 : ∀ a, InC cl a → H' a = none) : HOk P w (putC cl H H') h' := fun a o e => by
  by_cases z : InC cl a
  · rw [putC_in z] at e
    obtain ⟨v, ob, e2⟩ := C.tr z
    rw [e] at e2
    cases e2
    obtain ⟨e3, u, r, d⟩ := cellO_at (hok0 a _ e)
    exact cellO_ok r (kp a z _ e3) d
  · rw [putC_out z] at e
    have st : ∀ b o, H' b = some o → putC cl H H' b = some o := fun b o q => by
      rw [putC_out (fun z => by rw [fr0 b z] at q; cases q)]; exact q
    exact (hok a o e).stay (fun _ _ _ q => q) (fun b q => st b _ q) fun b xs q => st b _ q
theorem CapsAt.un (C : CapsAt cl fr ws H) (u : Un fs [] (delC cl H) H' h h') (ex : ∀ a, InC cl a → ∃ o, h.get? a = some o) : Un fs [] H (putC cl H H') h h' where
  keep := fun b o e n => u.keep b o e (by rw [delC_out (C.outN n)]; exact n)
  slot := fun b o e n => u.slot b o e (by rw [delC_out (C.outN n)]; exact n)
  free := fun b o e n z => by rw [putC_out (C.outN n)]; exact u.free b o e (by rw [delC_out (C.outN n)]; exact n) z
  there := u.there
  tups := fun b xs e => by
    have q := C.out e (fun _ _ z => by cases z)
    rw [putC_out q]; exact u.tups b xs (by rw [delC_out q]; exact e)
  frzs := fun b o x e => by
    by_cases z : InC cl b
    · rw [putC_in z]; exact e
    · rw [putC_out z]; exact u.frzs b o x (by rw [delC_out z]; exact e)
  tbls := fun b ps e => by
    have q := C.out e (fun _ _ z => by cases z)
    rw [putC_out q]; exact u.tbls b ps (by rw [delC_out q]; exact e)
theorem CapsAt.ub (C : CapsAt cl fr ws H) (u : UB fs (delC cl H) H' h B h') : UB fs H (putC cl H H') h B h' where
  keep := fun b o e n => u.keep b o e (by rw [delC_out (C.outN n)]; exact n)
  slot := u.slot
  free := fun b o e n => by rw [putC_out (C.outN n)]; exact u.free b o e (by rw [delC_out (C.outN n)]; exact n)
  there := u.there
  tups := fun b xs e => by
    have q := C.out e (fun _ _ z => by cases z)
    rw [putC_out q]; exact u.tups b xs (by rw [delC_out q]; exact e)
  frzs := fun b o x e => by
    by_cases z : InC cl b
    · rw [putC_in z]; exact e
    · rw [putC_out z]; exact u.frzs b o x (by rw [delC_out z]; exact e)
  tbls := fun b ps e => by
    have q := C.out e (fun _ _ z => by cases z)
    rw [putC_out q]; exact u.tbls b ps (by rw [delC_out q]; exact e)
end
/-! ### a function value's promise -/
/-- called at level k, the function at f keeps the promise sp -/
def Act (P : Program) (w : World) (K : PySem.W.Frag) (mg : Str → Option Value) (base : Heap) (k : Nat) (f : Addr) (sp : Sp) : Prop :=
  ∀ (A : Around) (outer : List Env) (s : Shared) (H : Hp) (us : List Value) (vs : List V) (Q : VK) (E : XK), Room k A → Env0 P w K mg base A outer s H → Vals vs us → sp vs H Q E →
    PySem.W.FnAt f s.heap ∧ codeAny (model P w) A (.call (.ref f) ⟨us, []⟩) (CR (L2.CX P w) outer P w H s Q E) s
section
variable {P : Program} {w : World} {K : PySem.W.Frag} {mg : Str → Option Value} {base : Heap} {j k : Nat} {f : Addr} {sp sp' : Sp}
theorem Act.mono (a : Act P w K mg base j f sp) (h : j ≤ k) : Act P w K mg base k f sp := fun A outer s H us vs Q E hr => a A outer s H us vs Q E (hr.mono h)
theorem Act.imp (a : Act P w K mg base k f sp) (h : ∀ vs H Q E, sp' vs H Q E → sp vs H Q E) : Act P w K mg base k f sp' := fun A outer s H us vs Q E hr e0 r q => a A outer s H us vs Q E hr e0 r (h _ _ _ _ q)
theorem CR.weak {outer : List Env} {H : Hp} {s s' : Shared} {Q : VK} {E : XK} {r : Result} (h : CR CX0 outer P w H s Q E r s') : CR (L2.CX P w) outer P w H s Q E r s' := by
  cases r with
  | ok fl =>
    cases fl with
    | ret u => exact h
    | next => exact False.elim h
    | brk => exact False.elim h
    | cont => exact False.elim h
  | error e => exact False.elim h
/-- the promise of a closure, over the heap with its cells: spN is told of the heap without them -/
def spClo (f : Addr) (F : NF) (fr : List Str) (spN : List (Option V) → Sp) : Sp := fun vs H Q E => ∃ ws, H f = some (FnO f F) ∧ H F.c = some (CodeO F.c F.qual) ∧ CapsAt F.cl fr ws H ∧
  spN (ws.map some) vs (delC F.cl H) (fun v H' => (∀ a, InC F.cl a → H' a = none) → Q v (putC F.cl H H')) (fun cls d H' => (∀ a, InC F.cl a → H' a = none) → E cls d (putC F.cl H H'))
theorem fnO_nf {f : Addr} {F : NF} (ob : Obj) (u : HO) : FnO f F ≠ .frz ob u := fun z => by unfold FnO at z; cases z
theorem codeO_nf {f : Addr} {q : Str} (ob : Obj) (u : HO) : CodeO f q ≠ .frz ob u := fun z => by unfold CodeO at z; cases z
/-- what a run over the heap without the cells gives over the heap with them -/
theorem capsRun {cl : List (Str × Addr)} {fr : List Str} {ws : List V} {A : Around} {outer : List Env} {s : Shared} {H : Hp} {Q : VK} {E : XK} {c : Code} (C : CapsAt cl fr ws H) (e0 : Env0 P w K mg base A outer s H)
    (h : Env0 P w K mg base A outer s (delC cl H) → CellsAt cl fr (ws.map some) s.heap (delC cl H) → codeAny (model P w) A c (CR (L2.CX P w) outer P w (delC cl H) s (fun v H' => (∀ a, InC cl a → H' a = none) → Q v (putC cl H H')) (fun cls d H' => (∀ a, InC cl a → H' a = none) → E cls d (putC cl H H'))) s) :
    codeAny (model P w) A c (CR (L2.CX P w) outer P w H s Q E) s := by
  have at_ : ∀ a, InC cl a → ∃ v ob, H a = some (CellO a v ob) ∧ s.heap.get? a = some ob := fun a z => by
    obtain ⟨v, ob, e⟩ := C.tr z
    exact ⟨v, ob, e, (cellO_at (e0.hok a _ e)).1⟩
  have nfs : ∀ a, InC cl a → a ∉ frs outer := fun a z hb => by
    obtain ⟨v, ob, e, _⟩ := at_ a z
    rw [e0.frf a hb] at e
    cases e
  have e1 : Env0 P w K mg base A outer s (delC cl H) := ⟨e0.frames, e0.mod, fun b o e => ⟨(e0.bs b o e).1, by rw [delC_out (C.outN (e0.bs b o e).2)]; exact (e0.bs b o e).2⟩, e0.bsz, e0.funs, fun b hb => by rw [delC_out (C.outN (e0.frf b hb))]; exact e0.frf b hb, C.hokDel e0.hok, e0.bare⟩
  have C1 : CellsAt cl fr (ws.map some) s.heap (delC cl H) := by
    refine ⟨by rw [List.length_map]; exact C.len, fun y c e => ⟨delC_in ⟨y, e⟩, ?_⟩, C.inj, fun i y e => ?_⟩
    · obtain ⟨v, ob, q1, q2⟩ := at_ c ⟨y, e⟩
      obtain ⟨_, u, _, d⟩ := cellO_at (e0.hok c _ q1)
      exact ⟨some u, ob, q2, d⟩
    · obtain ⟨c, v, q1, q2, ob, q3⟩ := C.has i y e
      refine ⟨c, q1, fun v' hv => ?_⟩
      rw [List.getElem?_map, q2] at hv
      cases hv
      obtain ⟨q4, u, r, d⟩ := cellO_at (e0.hok c _ q3)
      exact ⟨u, r, ob, q4, d⟩
  refine codeAny_mono (h e1 C1) fun r s' hq => ?_
  cases r with
  | ok fl =>
    cases fl with
    | ret u =>
      obtain ⟨v, H', os, bare, un, hok, rv, q⟩ := (show CE outer P w (delC cl H) s _ u s' from hq)
      have f0 : ∀ a, InC cl a → H' a = none := fun a z => by
        obtain ⟨v, ob, _, q2⟩ := at_ a z
        exact un.free a ob q2 (delC_in z) (by simp)
      exact ⟨v, putC cl H H', os, bare, C.un un (fun a z => (at_ a z).elim fun v ⟨ob, _, q⟩ => ⟨ob, q⟩), C.hokPut e0.hok hok (fun a z o e => un.keep a o e (delC_in z) (nfs a z) (by simp)) f0, rv, q f0⟩
    | next => exact False.elim hq
    | brk => exact False.elim hq
    | cont => exact False.elim hq
  | error e =>
    obtain ⟨a, B, H', cls, d, e1, fl, hok, ub, na, os, bare, q⟩ := (show L2.CX P w outer (delC cl H) s _ e s' from hq)
    have f0 : ∀ a, InC cl a → H' a = none := fun a z => by
      obtain ⟨v, ob, _, q2⟩ := at_ a z
      exact ub.free a ob q2 (delC_in z)
    have kp : ∀ a, InC cl a → ∀ o, s.heap.get? a = some o → B.get? a = some o := fun a z o e => ub.keep a o e (delC_in z) (nfs a z)
    refine ⟨a, B, putC cl H H', cls, d, e1, fl, C.hokPut e0.hok hok kp f0, C.ub ub, ?_, os, bare, q f0⟩
    have nz : ¬ InC cl a := fun z => by
      obtain ⟨v, ob, _, q2⟩ := at_ a z
      have := kp a z ob q2
      rw [fl.2.1] at this
      cases this
    rw [putC_out nz]
    exact na
theorem act_clo {F : NF} {ps fr : List Str} {spN : List (Option V) → Sp} (N : NOk P w K mg base (L2.CX P w) k f F ps fr spN) : Act P w K mg base k f (spClo f F fr spN) := fun A outer s H us vs Q E hr e0 r h => by
  obtain ⟨ws, hf, hc, C, q⟩ := h
  obtain ⟨od, sl, doc, pm, ctv, ho⟩ := fnO_at e0.hok hf
  refine ⟨⟨_, od, _, sl, ho⟩, capsRun C e0 fun e1 C1 => ?_⟩
  exact N.run A outer s (delC F.cl H) us vs (ws.map some) _ _ hr e1 (C.del hf fnO_nf) (C.del hc codeO_nf) C1 r q
/-- a def of the top is a function value, too -/
theorem act_fn {fd : FuncData} {ps : List Str} (F : FnOk P w K mg base (L2.CX P w) k f fd ps sp) (hb : Binds K fd ps []) (hk : ∃ oc od fd' sl, K.lookup f = some ⟨oc, od, .func fd', sl⟩) : Act P w K mg base k f sp := fun A outer s H us vs Q E hr e0 r h => by
  have KX : K.In s.heap := e0.mod.kin.keeps fun b o e => (e0.bs b o e).1
  obtain ⟨oc, od, fd', sl, lk⟩ := hk
  refine ⟨⟨oc, od, fd', sl, KX _ _ lk⟩, ?_⟩
  have hl : (us ++ ([] : List Value)).length = ps.length := by rw [List.append_nil, ← r.length]; exact F.len _ _ _ _ h
  have := hb s us KX hl
  rw [List.append_nil] at this
  exact F.run A outer s H ⟨us, []⟩ us vs Q E hr e0 this r h
end
/-! ### calls of a function value that a name holds -/
def tCallV (P : Program) (w : World) (K : PySem.W.Frag) (mg : Str → Option Value) (base : Heap) (k i : Nat) (E : XK) (t : TA) : TE := fun σ H Q => ∃ f sp, σ[i]? = some (some (.ref f)) ∧ Act P w K mg base k f sp ∧ t σ H fun vs H1 => sp vs H1 Q E
section
variable {X : Cx} {k i : Nat} {x : Str} {E : XK} {t : TA} {e : Expr} {es : List Expr} {p pos : Pos}
theorem run_act {pins : List (Addr × Obj)} {σ : L2.St} {H : Hp} {s : Shared} {Q : VK} {f : Addr} {sp : Sp} {us : List Value} {vs : List V} (a : Act X.prog X.w X.K X.mg X.base k f sp) (hr : Room k X.A) (hx : Passes (L2.CX X.prog X.w) X E) (I : Inv X pins σ H s) (r : Vals vs us) (q : sp vs H Q E) :
    PySem.W.FnAt f s.heap ∧ wpAny (model X.prog X.w) X.A (call (.ref f) us) (EP X pins σ Q) X.xe s := by
  obtain ⟨z, c⟩ := a X.A X.stack s H us vs Q E hr I.env0 r q
  refine ⟨z, wpAny_call (codeAny_mono c fun r s' hq => ?_)⟩
  cases r with
  | error e => exact hx pins σ H s e s' I hq
  | ok fl =>
    cases fl with
    | ret u => exact I.after hq
    | next => exact False.elim hq
    | brk => exact False.elim hq
    | cont => exact False.elim hq
theorem pe_callV (hr : Room k X.A) (hx : Passes (L2.CX X.prog X.w) X E) (hN : X.N[i]? = some x) (hv : Vis X.env.scope x) (ha : PA X (e :: es) t)
    (hd : (x == ("__debug__" : Str)) = false := by decide) (hcd : (x == ("__classdict__" : Str)) = false := by decide)
    (he : starEach (e :: es) X.env = (false, eval e X.env) :: starEach es X.env := by rfl) (hpl : (backTo pos (starEach es X.env)).any (·.1) = false := by rfl) :
    PE X (.Call (.Name x p) (e :: es) [] pos) (tCallV X.prog X.w X.K X.mg X.base k i E t) := by
  refine ⟨fun pins s σ H Q I h => ?_⟩
  obtain ⟨f, sp, hs, ac, ht⟩ := h
  refine wpAny_Call_Name_kw (thn ((pe_var (pos := p) hN hv hd hcd).run pins s σ H (fun v H1 => v = .ref f ∧ H1 = H) I ⟨.ref f, hs, rfl, rfl⟩) fun u s1 ⟨v, H1, I1, r1, q1⟩ => ?_)
  obtain ⟨ev, eH⟩ := q1
  subst ev
  rw [eH] at I1
  obtain rfl : u = Value.ref f := r1
  have h := thn (ha.run pos pins s1 σ H _ I1 ht) fun us s2 ⟨vs, H2, I2, r, q⟩ => run_act ac hr hx I2 r q
  show wpAny _ _ (callWith pos (.ref f) [] (backTo pos (starEach (e :: es) X.env)) []) _ _ _
  rw [he] at h ⊢
  exact PySem.W.callWith_of (by show ((false || (backTo pos (starEach es X.env)).any (·.1)) || false) = false; rw [hpl]; rfl) PySem.W.keeps_F (PySem.Calls.evalArgs_plain h)
theorem pe_callV0 (hr : Room k X.A) (hx : Passes (L2.CX X.prog X.w) X E) (hN : X.N[i]? = some x) (hv : Vis X.env.scope x)
    (hd : (x == ("__debug__" : Str)) = false := by decide) (hcd : (x == ("__classdict__" : Str)) = false := by decide) :
    PE X (.Call (.Name x p) [] [] pos) (tCallV X.prog X.w X.K X.mg X.base k i E tNil) := by
  refine ⟨fun pins s σ H Q I h => ?_⟩
  obtain ⟨f, sp, hs, ac, q⟩ := h
  refine wpAny_Call_Name_kw (thn ((pe_var (pos := p) hN hv hd hcd).run pins s σ H (fun v H1 => v = .ref f ∧ H1 = H) I ⟨.ref f, hs, rfl, rfl⟩) fun u s1 ⟨v, H1, I1, r1, q1⟩ => ?_)
  obtain ⟨ev, eH⟩ := q1
  subst ev
  rw [eH] at I1
  obtain rfl : u = Value.ref f := r1
  obtain ⟨z, c⟩ := run_act ac hr hx I1 .nil q
  exact PySem.W.callWith_F0 (first := []) z c
end
end Hk

set_option Elab.async false
set_option linter.all false
set_option maxRecDepth 100000
set_option maxHeartbeats 4000000
/-! Lambdas, with or without a default; what a live frame's cells hold, told to a callee. -/
namespace Hk
open PySem PySem.Spec PySem.W PySem.Calls PyProof.Rows L2 LamX NdefX
/-- a lambda's words; dT: the tuple of its defaults -/
structure LF where
  qual : Str
  params : Arguments
  body : Expr
  scope : Scope
  cl : List (Str × Addr)
  c : Addr
  dT : Option Addr
def dVof : Option Addr → Value
  | none => .none
  | some T => .ref T
abbrev lamFd (qual : Str) (params : Arguments) (body : Expr) (scope : Scope) (cl : List (Str × Addr)) (dV pm cdv ctv : Value) : FuncData :=
  { name := "<lambda>", qualname := qual, params := params, body := .expr body, scope := scope, globals := mainGlobals, closure := cl, defaults := dV, kwdefaults := .none, doc := .none, pyModule := pm, annotations := none, code := cdv, closureTuple := ctv, builtins := builtinsNs }
abbrev LF.fd (L : LF) (pm ctv : Value) : FuncData := lamFd L.qual L.params L.body L.scope L.cl (dVof L.dT) pm (.ref L.c) ctv
def LamO (f : Addr) (L : LF) : HO := .ext fun h => ∃ (od : Option Addr) (sl : Array (Option Value)) (pm ctv : Value), h.get? f = some (⟨.type "function", od, .func (L.fd pm ctv), sl⟩ : Obj)
theorem lamO_ne {f : Addr} {L : LF} (ps : Array Value) : LamO f L ≠ .tbl ps := fun z => by unfold LamO at z; cases z
theorem lamO_nf {f : Addr} {L : LF} (ob : Obj) (u : HO) : LamO f L ≠ .frz ob u := fun z => by unfold LamO at z; cases z
theorem lamO_at {P : Program} {w : World} {H : Hp} {h : Heap} {f : Addr} {L : LF} (hok : HOk P w H h) (e : H f = some (LamO f L)) : ∃ (od : Option Addr) (sl : Array (Option Value)) (pm ctv : Value), h.get? f = some (⟨.type "function", od, .func (L.fd pm ctv), sl⟩ : Obj) := by
  obtain ⟨z, _, _⟩ := hok f _ e
  exact z
section
variable {M : Model} {A : Around} {E : Value → Shared → Prop} {s : Shared} {name qual : Str} {params : Arguments} {body : Expr} {scope : Scope} {env : Env} {c P : Addr} {ps : Array Value} {pos : Pos} {firstLine : Nat} {mg : Str → Option Value}
  {clos : List (Str × Addr)} {Q : Value → Shared → Prop} {dV : Value}
theorem lam_tail (hcl : closureFor scope env = pure clos) (hge0 : env.globals = mainGlobals) (hg : s.heap.Ns mainGlobals mg) (hcode : env.code = .ref c) (C : CodeHd s.heap c P) (hP : s.heap.get? P = some (tabObj ps)) (ht : TriplesOk ps.toList)
    (hnf : codeAmong pos ps.toList = none) (hgP : mainGlobals ≠ P) (hb : s.heap.BuiltinsAt mg P)
    (h : ∀ c' ctv h' tk, Heap.ExtBut P s.heap h' → s.heap.objs.size ≤ c' → c' < h'.objs.size → h'.CodeRec (.ref c') qual → h'.get? P = some (tabObj (ps ++ #[rawInt pos.line, rawInt pos.col, .ref c'])) →
      Q (.ref h'.objs.size) { s with heap := h'.push { cls := .type "function", data := .func (lamFd qual params body scope clos dV ((mg "__name__").getD .none) (.ref c') ctv) }, toks := tk }) :
    wpAny M A (makeTail "<lambda>" qual params (.expr body) scope env dV .none none pos firstLine) Q E s := by
  obtain ⟨bm, ob, hbm, hne0, _, hneP, hbo, hcls, hdict, hdata⟩ := hb
  unfold makeTail
  rw [hcl, hge0]
  refine wpAny_bind (wpAny_pure ?_)
  cases clos with
  | nil =>
    simp only [List.isEmpty_nil, if_true]
    refine wpAny_bind (wpAny_pure ?_)
    refine wpAny_bind (wpAny_functionCodeX hcode (C.code hP ht) (C.tab hP) hnf fun c' h' tk hx hge hlt _ hrec htb _ => ?_)
    have hg' := hg.extBut hx hgP
    refine wpAny_bind (wpAny_builtinsFor hg' hbm hne0 (hx _ _ hneP hbo) hcls hdict hdata ?_)
    refine wpAny_bind (wpAny_nsGet hg' ?_)
    exact wpAny_bind (wpAny_pure (wpAny_newObj_type (h c' .none h' tk hx hge hlt hrec htb.2) (by size_fits)))
  | cons q r =>
    simp only [List.isEmpty_cons, Bool.false_eq_true, if_false]
    refine wpAny_bind (wpAny_newTextTuple ?_)
    refine wpAny_bind (wpAny_functionCodeX hcode ((C.keeps fun b o e => Heap.get?_push_of_some _ e).code (Heap.get?_push_of_some _ hP) ht) ((C.keeps fun b o e => Heap.get?_push_of_some _ e).tab (Heap.get?_push_of_some _ hP)) hnf fun c' h' tk hx hge hlt _ hrec htb _ => ?_)
    have hg' := (hg.push _).extBut hx hgP
    have hx' : Heap.ExtBut P s.heap h' := fun b o hb' e => hx b o hb' (Heap.get?_push_of_some _ e)
    have hge' : s.heap.objs.size ≤ c' := Nat.le_trans (by rw [Heap.size_push]; omega) hge
    refine wpAny_bind (wpAny_builtinsFor hg' hbm hne0 (hx' _ _ hneP hbo) hcls hdict hdata ?_)
    refine wpAny_bind (wpAny_nsGet hg' ?_)
    exact wpAny_bind (wpAny_pure (wpAny_newObj_type (h c' _ h' tk hx' hge' hlt hrec htb.2) (by size_fits)))
theorem lam_tailHit {cv : Value} (hcl : closureFor scope env = pure clos) (hge0 : env.globals = mainGlobals) (hg : s.heap.Ns mainGlobals mg) (hcode : env.code = .ref c) (C : CodeHd s.heap c P) (hP : s.heap.get? P = some (tabObj ps)) (ht : TriplesOk ps.toList)
    (hf : codeAmong pos ps.toList = some cv) (hb : s.heap.BuiltinsAt mg P)
    (h : ∀ (ctv : Value) (h' : Heap) (tk : Tok), (∀ b o, s.heap.get? b = some o → h'.get? b = some o) → s.heap.objs.size ≤ h'.objs.size →
      Q (.ref h'.objs.size) { s with heap := h'.push { cls := .type "function", data := .func (lamFd qual params body scope clos dV ((mg "__name__").getD .none) cv ctv) }, toks := tk }) :
    wpAny M A (makeTail "<lambda>" qual params (.expr body) scope env dV .none none pos firstLine) Q E s := by
  obtain ⟨bm, ob, hbm, hne0, _, hneP, hbo, hcls, hdict, hdata⟩ := hb
  unfold makeTail
  rw [hcl, hge0]
  refine wpAny_bind (wpAny_pure ?_)
  cases clos with
  | nil =>
    simp only [List.isEmpty_nil, if_true]
    refine wpAny_bind (wpAny_pure ?_)
    refine wpAny_bind (wpAny_functionCode_hit hcode (C.code hP ht) hf ?_)
    refine wpAny_bind (wpAny_builtinsFor hg hbm hne0 hbo hcls hdict hdata ?_)
    refine wpAny_bind (wpAny_nsGet hg ?_)
    exact wpAny_bind (wpAny_pure (wpAny_newObj_type (h .none s.heap s.toks (fun _ _ e => e) (Nat.le_refl _)) (by size_fits)))
  | cons q r =>
    simp only [List.isEmpty_cons, Bool.false_eq_true, if_false]
    refine wpAny_bind (wpAny_newTextTuple ?_)
    refine wpAny_bind (wpAny_functionCode_hit hcode ((C.keeps fun b o e => Heap.get?_push_of_some _ e).code (Heap.get?_push_of_some _ hP) ht) hf ?_)
    refine wpAny_bind (wpAny_builtinsFor (hg.push _) hbm hne0 (Heap.get?_push_of_some _ hbo) hcls hdict hdata ?_)
    refine wpAny_bind (wpAny_nsGet (hg.push _) ?_)
    have hsz : ∀ oT : Obj, s.heap.objs.size ≤ (s.heap.push oT).objs.size := fun oT => by rw [Heap.size_push]; omega
    exact wpAny_bind (wpAny_pure (wpAny_newObj_type (h _ _ s.toks (fun b o e => Heap.get?_push_of_some _ e) (hsz _)) (by size_fits)))
end
/-! ### tables: one function tells the names of all code objects by their places -/
def Tabs1 (Ts : List Addr) (nm : Nat → Nat → Str) (H : Hp) : Prop := ∀ P ∈ Ts, TabN H P nm
theorem Tabs1.ext {Ts : List Addr} {nm : Nat → Nat → Str} {H H' : Hp} (t : Tabs1 Ts nm H) (e : ∀ b o, H b = some o → H' b = some o) : Tabs1 Ts nm H' := fun p hp => (t p hp).ext e
section
variable {X : Cx} {pins : List (Addr × Obj)} {σ : L2.St} {H : Hp} {s : Shared}
theorem inv_lam {L : LF} {o : Obj} {t' : Nat} {pm ctv : Value} (I : Inv X pins σ H s) (ho : o = { cls := .type "function", data := .func (L.fd pm ctv) }) :
    Inv X pins σ (upd H s.heap.objs.size (LamO s.heap.objs.size L)) { s with heap := s.heap.push o, toks := t' } := by
  subst ho
  refine I.laid (a := s.heap.objs.size) (fun b u e => Heap.get?_push_of_some _ e) (Nat.le_refl _) ?_
  have e : (s.heap.push ({ cls := .type "function", data := .func (L.fd pm ctv) } : Obj)).get? s.heap.objs.size = some ({ cls := .type "function", data := .func (L.fd pm ctv) } : Obj) := Heap.get?_push_size _ rfl
  exact ⟨⟨_, _, pm, ctv, e⟩, ⟨_, e⟩, fun h1 h2 ⟨od, sl, p, t, z⟩ st => ⟨od, sl, p, t, st _ z⟩⟩
/-- the lambda's object is made: its code object is new, or found in the table -/
theorem lam_new {Ts : List Addr} {nm : Nat → Nat → Str} {c P : Addr} {params : Arguments} {body : Expr} {scope : Scope} {pos : Pos} {dT : Option Addr} {firstLine : Nat} {E : Value → Shared → Prop} {Q : Value → Shared → Prop} (I : Inv X pins σ H s) (TB : TabB X.base X.mg c P) (hcode : X.env.code = .ref c)
    (hm : P ∈ Ts) (hn : nm pos.line pos.col = X.env.qual ++ "<lambda>") (hT : Tabs1 Ts nm H) (hfree : ∀ y ∈ scope.names, y.2 = .free → ∃ c, X.env.cells.lookup y.1 = some c)
    (h : ∀ (f c' : Addr) (H1 : Hp) (s' : Shared), Inv X pins σ H1 s' → (∀ b o, H b = some o → b ∉ Ts → H1 b = some o) → (∀ b, H1 b = Option.none → H b = Option.none) → Tabs1 Ts nm H1 → H f = none → H1 f = some (LamO f ⟨X.env.qual ++ "<lambda>", params, body, scope, cloFrom X.env.cells scope.names [], c', dT⟩) → H1 c' = some (CodeO c' (X.env.qual ++ "<lambda>")) → Q (.ref f) s') :
    wpAny (model X.prog X.w) X.A (makeTail "<lambda>" (X.env.qual ++ "<lambda>") params (.expr body) scope X.env (dVof dT) .none none pos firstLine) Q E s := by
  obtain ⟨ps, hP, ht, ha⟩ := hT P hm
  have bP : s.heap.BuiltinsAt X.mg P := TB.bm.keeps I.bk
  have hP' : s.heap.get? P = some { cls := .none, data := .fields ps } := I.hok P _ hP
  cases hc : codeAmong pos ps.toList with
  | none =>
    refine lam_tail (mg := X.mg) (c := c) (P := P) (ps := ps) (closure_ok hfree) I.ok.glob (I.mod.glob.keeps I.bk) hcode (TB.code.keeps I.bk) hP' ht hc TB.gP bP fun c' ctv h' tk hx hge hlt hrec htb => ?_
    obtain ⟨c2, oc, vs, t, e2, hoc, hd, hv⟩ := hrec
    cases e2
    have nC : H c' = none := I.hok.fresh hge
    have I1 := inv_table (t' := tk) (more := #[rawInt pos.line, rawInt pos.col, .ref c']) (h' := h') I hP (fun b o hb e => hx b o hb e) htb hge ⟨oc, vs, t, hoc, hd, hv⟩
    have hE : ∀ b o, H b = some o → b ≠ P → upd (upd H P (.tbl (ps ++ #[rawInt pos.line, rawInt pos.col, .ref c']))) c' (CodeO c' (X.env.qual ++ "<lambda>")) b = some o := fun b o e n => by
      rw [upd_ne (ne_of_none e nC), upd_ne n]
      exact e
    have neP : ∀ b q, H b = some (CodeO b q) → b ≠ P := fun b q e z => by
      rw [z, hP] at e
      exact codeO_ne ps (Option.some.inj e).symm
    have eL : (ps ++ #[rawInt pos.line, rawInt pos.col, .ref c']).toList = ps.toList ++ [rawInt pos.line, rawInt pos.col, .ref c'] := by simp
    have T1 : Tabs1 Ts nm (upd (upd H P (.tbl (ps ++ #[rawInt pos.line, rawInt pos.col, .ref c']))) c' (CodeO c' (X.env.qual ++ "<lambda>"))) := fun p hp => by
      by_cases hb : p = P
      · rw [hb]
        refine ⟨_, by rw [upd_ne (ne_of_none hP nC), upd_same], by rw [eL]; exact PySem.TriplesOk_snoc _ _ _ _ ht, fun p' cv hcv => ?_⟩
        rw [eL] at hcv
        rcases among_app2 _ ht hcv with z | ⟨z, z1, z2⟩
        · obtain ⟨c0, e1, e2⟩ := ha p' cv z
          exact ⟨c0, e1, hE _ _ e2 (neP _ _ e2)⟩
        · refine ⟨c', z, ?_⟩
          rw [← z1, ← z2, hn]
          exact upd_same
      · obtain ⟨ps', a1, a2, a3⟩ := hT p hp
        refine ⟨ps', by rw [upd_ne (ne_of_none a1 nC), upd_ne hb]; exact a1, a2, fun p' cv hcv => ?_⟩
        obtain ⟨c0, e1, e2⟩ := a3 p' cv hcv
        exact ⟨c0, e1, hE _ _ e2 (neP _ _ e2)⟩
    have nF := I1.hok.fresh (Nat.le_refl _)
    have I2 := inv_lam (L := ⟨X.env.qual ++ "<lambda>", params, body, scope, cloFrom X.env.cells scope.names [], c', dT⟩) (t' := tk) (pm := (X.mg "__name__").getD .none) (ctv := ctv) I1 rfl
    refine h h'.objs.size c' _ _ I2 (fun b o e n => ?_) (fun b e => upd_none (upd_none (upd_none e))) (T1.ext fun b o e => ?_) (I.hok.fresh (Nat.le_trans hge (Nat.le_of_lt hlt))) upd_same ?_
    · have e1 := hE b o e (fun z => n (by rw [z]; exact hm))
      exact (upd_ne (ne_of_none e1 nF)).trans e1
    · exact (upd_ne (ne_of_none e nF)).trans e
    · exact (upd_ne (Nat.ne_of_lt hlt)).trans upd_same
  | some cv =>
    obtain ⟨c', e, hco⟩ := ha pos cv hc
    subst e
    rw [hn] at hco
    refine lam_tailHit (mg := X.mg) (c := c) (P := P) (ps := ps) (closure_ok hfree) I.ok.glob (I.mod.glob.keeps I.bk) hcode (TB.code.keeps I.bk) hP' ht hc bP fun ctv h' tk hx hsz => ?_
    have I1 : Inv X pins σ H { s with heap := h', toks := tk } := I.kept hx
    have nF : H h'.objs.size = none := I1.hok.fresh (Nat.le_refl _)
    have I2 := inv_lam (L := ⟨X.env.qual ++ "<lambda>", params, body, scope, cloFrom X.env.cells scope.names [], c', dT⟩) (t' := tk) (pm := (X.mg "__name__").getD .none) (ctv := ctv) I1 rfl
    refine h h'.objs.size c' _ _ I2 (fun b o e n => ?_) (fun b e => upd_none e) (hT.ext fun b o e => ?_) nF upd_same ?_
    · exact (upd_ne (ne_of_none e nF)).trans e
    · exact (upd_ne (ne_of_none e nF)).trans e
    · exact (upd_ne (ne_of_none hco nF)).trans hco
end
/-- the reading of a lambda: a new function; mk: its words, by its code object -/
def tLam1 (Ts : List Addr) (nm : Nat → Nat → Str) (mk : Addr → LF) : TE := fun σ H Q => Tabs1 Ts nm H ∧ ∀ (f c' : Addr) (H1 : Hp), (∀ b o, H b = some o → b ∉ Ts → H1 b = some o) → (∀ b, H1 b = Option.none → H b = Option.none) → Tabs1 Ts nm H1 → H f = none → H1 f = some (LamO f (mk c')) → H1 c' = some (CodeO c' (mk c').qual) → Q (.ref f) H1
section
variable {X : Cx} {Ts : List Addr} {nm : Nat → Nat → Str} {c P : Addr} {params : Arguments} {body d : Expr} {scope : Scope} {pos : Pos} {td : TE}
theorem pe_lam (TB : TabB X.base X.mg c P) (hcode : X.env.code = .ref c) (hm : P ∈ Ts) (hn : nm pos.line pos.col = X.env.qual ++ "<lambda>") (hfree : ∀ y ∈ scope.names, y.2 = .free → X.env.scope.names.lookup y.1 = some .cell ∨ X.env.scope.names.lookup y.1 = some .free)
    (hdef : defaultsOf params X.env = ([], [])) : PE X (.Lambda params body scope pos) (tLam1 Ts nm fun c' => ⟨X.env.qual ++ "<lambda>", params, body, scope, cloFrom X.env.cells scope.names [], c', none⟩) := by
  refine ⟨fun pins s σ H Q I h => ?_⟩
  obtain ⟨hT, h⟩ := h
  refine kla_eval hdef ?_
  rw [makeFunction_eq]
  simp only [List.zip_nil_right, List.filterMap_nil, List.isEmpty_nil, if_true, pure_bind]
  have hfr : ∀ y ∈ scope.names, y.2 = .free → ∃ c, X.env.cells.lookup y.1 = some c := fun y hy e => (hfree y hy e).elim (fun z => I.ok.has _ (.inl z)) fun z => I.ok.has _ (.inr z)
  exact lam_new (dT := none) I TB hcode hm hn hT hfr fun f c' H1 s' I1 e1 e2 T1 f0 f1 c1 => ⟨.ref f, H1, I1, rfl, h f c' H1 e1 e2 T1 f0 f1 c1⟩
end
end Hk

set_option Elab.async false
set_option linter.all false
set_option maxRecDepth 100000
set_option maxHeartbeats 4000000
namespace Hk
open PySem PySem.Spec PySem.W PySem.Calls PyProof.Rows L2 LamX NdefX
/-! ### a lambda with a default -/
section
variable {X : Cx} {Ts : List Addr} {nm : Nat → Nat → Str} {c P : Addr} {params : Arguments} {body d : Expr} {scope : Scope} {pos : Pos} {td : TE}
/-- .. the tuple of its one default at T -/
def tLamD (Ts : List Addr) (nm : Nat → Nat → Str) (mk : Addr → Addr → LF) (td : TE) : TE := fun σ H Q => td σ H fun v H0 => ∀ T, H0 T = none → tLam1 Ts nm (mk T) σ (upd H0 T (.tup [v])) Q
theorem pe_lamD (TB : TabB X.base X.mg c P) (hcode : X.env.code = .ref c) (hm : P ∈ Ts) (hn : nm pos.line pos.col = X.env.qual ++ "<lambda>") (hfree : ∀ y ∈ scope.names, y.2 = .free → X.env.scope.names.lookup y.1 = some .cell ∨ X.env.scope.names.lookup y.1 = some .free)
    (hd : PE X d td) (hdef : defaultsOf params X.env = ([eval d X.env], [])) : PE X (.Lambda params body scope pos) (tLamD Ts nm (fun T c' => ⟨X.env.qual ++ "<lambda>", params, body, scope, cloFrom X.env.cells scope.names [], c', some T⟩) td) := by
  refine ⟨fun pins s σ H Q I h => ?_⟩
  rw [arm_eval_Lambda, hdef]
  refine wpAny_bind ?_
  show wpAny _ _ (evalAll [eval d X.env]) _ _ _
  unfold evalAll
  refine wpAny_bind (thn (hd.run pins s σ H _ I h) fun u s1 ⟨v, H1, I1, r1, q1⟩ => ?_)
  refine wpAny_bind (wpAny_holding (wpAny_pure (wpAny_pure ?_)))
  refine wpAny_bind (wpAny_holding (wpAny_pure ?_))
  rw [makeFunction_eq]
  simp only [List.zip_nil_right, List.filterMap_nil, List.isEmpty_nil, List.isEmpty_cons, Bool.false_eq_true, if_false, if_true, pure_bind]
  refine wpAny_bind (wpAny_newTextTuple ?_)
  have I2 : Inv X pins σ (upd H1 s1.heap.objs.size (.tup [v])) { s1 with heap := s1.heap.push { cls := .type "tuple", data := .seq [u].toArray } } := by
    refine I1.laid (a := s1.heap.objs.size) (t' := s1.toks) (fun b u e => Heap.get?_push_of_some _ e) (Nat.le_refl _) ?_
    exact ⟨by show 1 ≤ sizeLine; decide, [u], .cons r1 .nil, IsTup.new s1.heap _⟩
  obtain ⟨hT, h⟩ := q1 s1.heap.objs.size (I1.hok.fresh (Nat.le_refl _))
  have hfr : ∀ y ∈ scope.names, y.2 = .free → ∃ c, X.env.cells.lookup y.1 = some c := fun y hy e => (hfree y hy e).elim (fun z => I.ok.has _ (.inl z)) fun z => I.ok.has _ (.inr z)
  exact lam_new (dT := some s1.heap.objs.size) I2 TB hcode hm hn hT hfr fun f c' H1 s' I1 e1 e2 T1 f0 f1 c1 => ⟨.ref f, H1, I1, rfl, h f c' H1 e1 e2 T1 f0 f1 c1⟩
end
/-! ### a lambda's promise by its body -/
abbrev LF.nf (L : LF) : NF := ⟨"<lambda>", L.qual, L.params, [], L.scope, L.cl, L.c⟩
def DtOk (H : Hp) (dT : Option Addr) (dvs : List V) : Prop := match dT with
  | none => dvs = []
  | some T => H T = some (.tup dvs)
def spLam (f : Addr) (L : LF) (fr : List Str) (dvs : List V) (spN : List (Option V) → Sp) : Sp := fun vs H Q E => ∃ ws, H f = some (LamO f L) ∧ H L.c = some (CodeO L.c L.qual) ∧ CapsAt L.cl fr ws H ∧ DtOk H L.dT dvs ∧
  spN (ws.map some) (vs ++ dvs) (delC L.cl H) (fun v H' => (∀ a, InC L.cl a → H' a = none) → Q v (putC L.cl H H')) (fun cls d H' => (∀ a, InC L.cl a → H' a = none) → E cls d (putC L.cl H H'))
section
variable {P : Program} {w : World} {K : PySem.W.Frag} {mg : Str → Option Value} {base : Heap} {N ps fr : List Str} {L : LF} {f : Addr} {k : Nat} {spN : List (Option V) → Sp}
theorem act_lamB {dvs : List V} (S : NScope N ps fr L.scope) (len : ∀ ws vs H Q E, spN ws vs H Q E → vs.length = ps.length)
    (hb : ∀ (s : Shared) (H : Hp) (pm ctv : Value) (us : List Value), HOk P w H s.heap → DtOk H L.dT dvs → us.length + dvs.length = ps.length → ∃ ds, Vals dvs ds ∧ BindsTo s (L.fd pm ctv) ⟨us, []⟩ (ps.zip (us ++ ds)))
    (hbody : ∀ (A : Around) (outer : List Env) (s : Shared) (H : Hp) (vs : List V) (ws : List (Option V)) (Q : VK) (E : XK), Room k (A.deeper (envF L.nf f s.heap.objs.size)) → ws.length = fr.length → spN ws vs H Q E →
      ∃ te, PE (ncx (L2.CX P w) P w K mg base N L.nf f A outer s H E) L.body te ∧ te (startF N vs ws) H Q) :
    Act P w K mg base (k + 1) f (spLam f L fr dvs spN) := fun A outer s H us vs Q E hr e0 r h => by
  obtain ⟨ws, hf, hc, C, hd, q⟩ := h
  have lim : s.heap.NoLimit := e0.mod.nolimit.keeps fun b o e => (e0.bs b o e).1
  obtain ⟨od, sl, pm, ctv, ho⟩ := lamO_at e0.hok hf
  refine ⟨⟨_, od, _, sl, ho⟩, capsRun C e0 fun e1 C1 => ?_⟩
  have hl := len _ _ _ _ _ q
  obtain ⟨ds, rd, bd⟩ := hb s H pm ctv us e0.hok hd (by rw [← hl, List.length_append, ← r.length])
  have r2 : Vals (vs ++ dvs) (us ++ ds) := r.append rd
  refine kla_callFunE hr.depth ho rfl S.co S.gen rfl (codeO_at e0.hok hc) (bd _ _ _ _ ?_)
  refine wpAny_newFunctionEnv S.nocell (fun ⟨n, _⟩ hy => S.par n (List.of_mem_zip hy).1) (fun h₁ hns hsb => ⟨lim.fresh _ hsb, ?_⟩) S.kind
  show codeAny _ _ (.expr L.body (envF L.nf f s.heap.objs.size)) _ _
  have kp : ∀ b o, s.heap.get? b = some o → h₁.get? b = some o := fun b o e => hsb.extBut b o (Nat.ne_of_lt (Heap.lt_size e)) (Heap.get?_push_of_some _ e)
  obtain ⟨te, ht, hq⟩ := hbody A outer s (delC L.cl H) (vs ++ dvs) (ws.map some) _ _ (hr.deeper _) C1.len q
  have I := inv_startN (CX := L2.CX P w) (F := L.nf) (f := f) (A := A) (E := fun cls d H' => (∀ a, InC L.cl a → H' a = none) → E cls d (putC L.cl H H')) (tk := s.toks + (ps.zip (us ++ ds)).length) S hr.hd e1 hl r2 C1 hns kp
  refine kla_codeExpr (wpAny_mono (ht.run [] _ _ _ _ I hq) (fun v s' hs => ?_) fun e s' hs => hs)
  obtain ⟨v, H', J, rv, q⟩ := hs
  exact ⟨v, H', J.os, J.bare, J.base, J.hok, rv, q⟩
/-- .. without a default -/
theorem act_lam (S : NScope N ps fr L.scope) (hdT : L.dT = none) (len : ∀ ws vs H Q E, spN ws vs H Q E → vs.length = ps.length)
    (hb : ∀ (pm ctv : Value) (us : List Value), us.length = ps.length → bindArgs (L.fd pm ctv) ⟨us, []⟩ = pure (ps.zip us))
    (hbody : ∀ (A : Around) (outer : List Env) (s : Shared) (H : Hp) (vs : List V) (ws : List (Option V)) (Q : VK) (E : XK), Room k (A.deeper (envF L.nf f s.heap.objs.size)) → ws.length = fr.length → spN ws vs H Q E →
      ∃ te, PE (ncx (L2.CX P w) P w K mg base N L.nf f A outer s H E) L.body te ∧ te (startF N vs ws) H Q) :
    Act P w K mg base (k + 1) f (spLam f L fr [] spN) := act_lamB S len (fun s H pm ctv us _ _ hl => ⟨[], .nil, by
      rw [List.append_nil]; exact .of_eq (hb pm ctv us (by simpa using hl))⟩) hbody
/-- .. with one, that is not given -/
theorem act_lamD {T : Addr} {dv : V} {x : Str} (S : NScope N [x] fr L.scope) (hdT : L.dT = some T) (len : ∀ ws vs H Q E, spN ws vs H Q E → vs.length = 1)
    (hb : ∀ (pm ctv u : Value), ∃ k, bindArgs (L.fd pm ctv) ⟨[], []⟩ = seqItems? (.ref T) >>= k ∧ k (some #[u]) = pure [(x, u)])
    (hbody : ∀ (A : Around) (outer : List Env) (s : Shared) (H : Hp) (vs : List V) (ws : List (Option V)) (Q : VK) (E : XK), Room k (A.deeper (envF L.nf f s.heap.objs.size)) → ws.length = fr.length → spN ws vs H Q E →
      ∃ te, PE (ncx (L2.CX P w) P w K mg base N L.nf f A outer s H E) L.body te ∧ te (startF N vs ws) H Q) :
    Act P w K mg base (k + 1) f (spLam f L fr [dv] spN) := act_lamB S len (fun s H pm ctv us hok hd hl => by
      have e0 : us = [] := List.eq_nil_of_length_eq_zero (by simpa using hl)
      subst e0
      rw [hdT] at hd
      obtain ⟨_, its, rv, o, ho, hcls⟩ := (show ObjOk P w H s.heap T (.tup [dv]) from hok T _ hd)
      obtain ⟨u, rfl⟩ : ∃ u, its = [u] := by
        have := rv.length
        match its, this with
        | [u], _ => exact ⟨u, rfl⟩
      obtain ⟨kk, e1, e2⟩ := hb pm ctv u
      refine ⟨[u], rv, ?_⟩
      obtain ⟨n, hdat⟩ := hcls.2
      refine .of_defaults (T := T) (k := kk) (by show dVof L.dT = _; rw [hdT]; rfl) ho hdat ?_ e2
      rw [e1]
      show _ = seqItems? (dVof L.dT) >>= kk
      rw [hdT]; rfl) hbody
end
end Hk

set_option Elab.async false
set_option linter.all false
set_option maxRecDepth 100000
set_option maxHeartbeats 4000000
namespace Hk
open PySem PySem.Spec PySem.W PySem.Calls PyProof.Rows L2 LamX NdefX
/-! ### what a live frame's cells hold, told to a callee -/
def Kc (sc : Scope) (y : Str) : Prop := sc.names.lookup y = some .cell ∨ sc.names.lookup y = some .free
def CellAt (cm : List (Str × Addr)) (sc : Scope) (N : List Str) (σ : L2.St) (a : Addr) (v : V) : Prop := ∃ (i : Nat) (y : Str), N[i]? = some y ∧ cm.lookup y = some a ∧ σ[i]? = some (some v) ∧ Kc sc y
open Classical in
noncomputable def cellV (cm : List (Str × Addr)) (sc : Scope) (N : List Str) (σ : L2.St) (a : Addr) : Option V := if h : ∃ v, CellAt cm sc N σ a v then some h.choose else none
noncomputable def exC (cm : List (Str × Addr)) (sc : Scope) (N : List Str) (σ : L2.St) (obs : Addr → Obj) (H : Hp) : Hp := fun a => match cellV cm sc N σ a with
  | some v => some (CellO a v (obs a))
  | none => H a
theorem cellV_some {cm : List (Str × Addr)} {sc : Scope} {N : List Str} {σ : L2.St} {a : Addr} {v : V} (h : cellV cm sc N σ a = some v) : CellAt cm sc N σ a v := by
  unfold cellV at h
  split at h
  · rename_i q; cases h; exact q.choose_spec
  · cases h
theorem cell_uniq {cm : List (Str × Addr)} {sc : Scope} {N : List Str} {σ : L2.St} {a : Addr} {v v' : V} (nd : N.Nodup) (inj : ∀ x y c, cm.lookup x = some c → cm.lookup y = some c → x = y) (h : CellAt cm sc N σ a v) (h' : CellAt cm sc N σ a v') : v = v' := by
  obtain ⟨i, y, e1, e2, e3, _⟩ := h
  obtain ⟨j, z, d1, d2, d3, _⟩ := h'
  have e := inj _ _ _ e2 d2
  subst e
  have hi := (List.getElem?_eq_some_iff.mp e1)
  have hj := (List.getElem?_eq_some_iff.mp d1)
  have : i = j := (List.getElem_inj nd).mp (hi.2.trans hj.2.symm)
  subst this
  rw [e3] at d3
  exact Option.some.inj (Option.some.inj d3)
theorem cellV_at {cm : List (Str × Addr)} {sc : Scope} {N : List Str} {σ : L2.St} {a : Addr} {v : V} (nd : N.Nodup) (inj : ∀ x y c, cm.lookup x = some c → cm.lookup y = some c → x = y) (h : CellAt cm sc N σ a v) : cellV cm sc N σ a = some v := by
  unfold cellV
  have q : ∃ v, CellAt cm sc N σ a v := ⟨v, h⟩
  rw [dif_pos q, cell_uniq nd inj q.choose_spec h]
theorem cellV_out {cm : List (Str × Addr)} {sc : Scope} {N : List Str} {σ : L2.St} {a : Addr} (h : ¬ InC cm a) : cellV cm sc N σ a = none := by
  cases e : cellV cm sc N σ a with
  | none => rfl
  | some v =>
    obtain ⟨i, y, _, e2, _⟩ := cellV_some e
    exact absurd ⟨y, e2⟩ h
theorem exC_out {cm : List (Str × Addr)} {sc : Scope} {N : List Str} {σ : L2.St} {obs : Addr → Obj} {H : Hp} {a : Addr} (h : ¬ InC cm a) : exC cm sc N σ obs H a = H a := by unfold exC; rw [cellV_out h]
theorem exC_some {cm : List (Str × Addr)} {sc : Scope} {N : List Str} {σ : L2.St} {obs : Addr → Obj} {H : Hp} {a : Addr} {v : V} (h : cellV cm sc N σ a = some v) : exC cm sc N σ obs H a = some (CellO a v (obs a)) := by unfold exC; rw [h]
theorem exC_none {cm : List (Str × Addr)} {sc : Scope} {N : List Str} {σ : L2.St} {obs : Addr → Obj} {H : Hp} {a : Addr} (h : cellV cm sc N σ a = none) : exC cm sc N σ obs H a = H a := by unfold exC; rw [h]
/-- what is known of a frame's cells -/
structure CEnv (cm : List (Str × Addr)) (sc : Scope) (N : List Str) (H : Hp) : Prop where
  nd : N.Nodup
  inj : ∀ x y c, cm.lookup x = some c → cm.lookup y = some c → x = y
  free : ∀ a, InC cm a → H a = none
  has : ∀ y, (sc.names.lookup y = some .cell ∨ sc.names.lookup y = some .free) → ∃ c, cm.lookup y = some c
theorem CEnv.out {cm : List (Str × Addr)} {sc : Scope} {N : List Str} {H : Hp} (C : CEnv cm sc N H) {a : Addr} {o : HO} (h : H a = some o) : ¬ InC cm a := fun z => by rw [C.free a z] at h; cases h
theorem CEnv.same {cm : List (Str × Addr)} {sc : Scope} {N : List Str} {σ : L2.St} {obs : Addr → Obj} {H : Hp} (C : CEnv cm sc N H) : Same H (exC cm sc N σ obs H) := fun a o h => by rw [exC_out (C.out h)]; exact h
/-- a function that this frame made finds its cells -/
theorem CEnv.caps {cm : List (Str × Addr)} {sc : Scope} {N : List Str} {σ : L2.St} {obs : Addr → Obj} {H H' : Hp} {scope : Scope} {fr : List Str} {ws : List V} {js : List Nat} (C : CEnv cm sc N H) (hb : ndefB sc scope fr = true)
    (honly : ∀ y ∈ scope.names, y.2 = .free → y.1 ∈ fr) (hjs : js.map (fun j => N[j]?) = fr.map some) (hws : js.map (fun j => σ[j]?) = ws.map (fun v => some (some v)))
    (hs : ∀ a o, exC cm sc N σ obs H a = some o → InC cm a → H' a = some o) : CapsAt (cloFrom cm scope.names []) fr ws H' := by
  have hf : ∀ y ∈ scope.names, y.2 = .free → ∃ c, cm.lookup y.1 = some c := fun y hy e => C.has y.1 (ndef_free hb y hy e)
  refine ⟨?_, fun x y c e1 e2 => C.inj x y c (clo_cm hf e1) (clo_cm hf e2), fun y c e => ?_, fun i y hi => ?_⟩
  · have h1 := congrArg List.length hjs
    have h2 := congrArg List.length hws
    simp only [List.length_map] at h1 h2
    omega
  · rcases cloFrom_mem (PySem.mem_of_lookup e) with hm | ⟨h1, h2⟩
    · cases hm
    · exact honly (y, .free) h1 rfl
  · have hy := List.mem_of_getElem? hi
    have hfree := ndef_fr hb y hy
    obtain ⟨c, hc⟩ := hf (y, .free) hfree rfl
    have h1 := congrArg (fun l => l[i]?) hjs
    simp only [List.getElem?_map, hi, Option.map_some] at h1
    have h2 := congrArg (fun l => l[i]?) hws
    simp only [List.getElem?_map] at h2
    cases ej : js[i]? with
    | none => rw [ej] at h1; cases h1
    | some j =>
      rw [ej] at h1 h2
      simp only [Option.map_some, Option.some.injEq] at h1 h2
      cases ew : ws[i]? with
      | none => rw [ew] at h2; cases h2
      | some v =>
        rw [ew] at h2
        simp only [Option.map_some, Option.some.injEq] at h2
        have hv := cellV_at C.nd C.inj (σ := σ) (v := v) ⟨j, y, h1, hc, h2, ndef_free hb (y, .free) hfree rfl⟩
        exact ⟨c, v, clo_has hf hfree hc, rfl, _, hs _ _ (exC_some hv) ⟨y, hc⟩⟩
section
variable {X : Cx} {pins : List (Addr × Obj)} {σ : L2.St} {H : Hp} {s : Shared}
theorem cenv_of (I : Inv X pins σ H s) (nd : X.N.Nodup) : CEnv X.env.cells X.env.scope X.N H := ⟨nd, I.ok.inj, fun a ⟨y, e⟩ => I.freeC y a e, fun y h => I.ok.has y h⟩
/-- the callee runs, told of the cells -/
theorem out_own (I : Inv X pins σ H s) (hfn : ∀ y c, X.env.cells.lookup y = some c → X.fn y = true) : ∀ a, InC X.env.cells a → X.base.get? a = none ∧ a ∉ X.fs := fun a ⟨y, e⟩ => by
  have g : X.s_0.heap.objs.size ≤ a := I.ok.cab y a (hfn y a e) e
  refine ⟨?_, fun hb => ?_⟩
  · cases q : X.base.get? a with
    | none => rfl
    | some o => exact absurd (Nat.lt_of_lt_of_le (Heap.lt_size (I.ok.bs a o q).1) g) (Nat.lt_irrefl _)
  · obtain ⟨_, o, ho, _⟩ := I.ok.funs.mem hb
    exact absurd (Nat.lt_of_lt_of_le (Heap.lt_size ho) g) (Nat.lt_irrefl _)
theorem run_expO {Q : VK} {E : XK} {c : Code} (I : Inv X pins σ H s) (nd : X.N.Nodup) (hout : ∀ a, InC X.env.cells a → X.base.get? a = none ∧ a ∉ X.fs) (hx : Passes (L2.CX X.prog X.w) X E)
    (h : ∀ obs, Env0 X.prog X.w X.K X.mg X.base X.A X.stack s (exC X.env.cells X.env.scope X.N σ obs H) → codeAny (model X.prog X.w) X.A c (CR (L2.CX X.prog X.w) X.stack X.prog X.w (exC X.env.cells X.env.scope X.N σ obs H) s (fun v H' => Q v (delC X.env.cells H')) (fun cls d H' => E cls d (delC X.env.cells H'))) s) :
    codeAny (model X.prog X.w) X.A c (fun r s' => match r with
      | .ok (.ret u) => EP X pins σ Q u s'
      | .ok _ => False
      | .error e => X.xe e s') s := by
  have C := cenv_of I nd
  obtain ⟨obs, hobs⟩ : ∃ obs : Addr → Obj, ∀ a, InC X.env.cells a → s.heap.get? a = some (obs a) := by
    refine ⟨fun a => (s.heap.get? a).getD default, fun a ⟨y, e⟩ => ?_⟩
    obtain ⟨v, o, ho, _⟩ := I.cell y a e
    show s.heap.get? a = some ((s.heap.get? a).getD default)
    rw [ho]; rfl
  have inC : ∀ {a v}, cellV X.env.cells X.env.scope X.N σ a = some v → InC X.env.cells a := fun {a v} e => by
    obtain ⟨i, y, _, e2, _⟩ := cellV_some e
    exact ⟨y, e2⟩
  have okc : ∀ {a v}, cellV X.env.cells X.env.scope X.N σ a = some v → ∃ u, L2.RelV v u ∧ (obs a).data = .cell (some u) := fun {a v} e => by
    obtain ⟨i, y, e1, e2, e3, kc⟩ := cellV_some e
    have ho := hobs a ⟨y, e2⟩
    obtain ⟨m, hn, hl⟩ := I.loc
    obtain ⟨u, r, l⟩ := hl i y v e1 e3 (kc.elim (fun z => .inr (.inl z)) fun z => .inr (.inr z))
    rcases l with ⟨k, _⟩ | ⟨_, c, hc, o, ho', hd'⟩
    · have k' : X.env.scope.names.lookup y = some .local := k
      rcases kc with z | z <;> rw [z] at k' <;> cases k'
    · rw [e2] at hc; cases hc
      rw [ho] at ho'; cases ho'
      exact ⟨u, r, hd'⟩
  have nfr : ∀ a, InC X.env.cells a → a ∉ frs X.stack := fun a z hb => by
    rcases List.mem_cons.mp (I.stkSub a hb) with e | e
    · obtain ⟨y, hy⟩ := z
      exact I.cne y a hy e
    · exact (hout a z).2 e
  have hokX : HOk X.prog X.w (exC X.env.cells X.env.scope X.N σ obs H) s.heap := fun a o e => by
    cases q : cellV X.env.cells X.env.scope X.N σ a with
    | some v =>
      rw [exC_some q] at e
      cases e
      obtain ⟨u, r, d⟩ := okc q
      exact cellO_ok r (hobs a (inC q)) d
    | none =>
      rw [exC_none q] at e
      exact (I.hok a o e).stay (fun _ _ _ q => q) (fun b q => C.same _ _ q) fun b xs q => C.same _ _ q
  have e1 : Env0 X.prog X.w X.K X.mg X.base X.A X.stack s (exC X.env.cells X.env.scope X.N σ obs H) := by
    have e0 := I.env0
    refine ⟨e0.frames, e0.mod, fun b o e => ⟨(e0.bs b o e).1, ?_⟩, e0.bsz, e0.funs, fun b hb => ?_, hokX, e0.bare⟩
    · rw [exC_out (fun z => ?_)]
      · exact (e0.bs b o e).2
      · rw [(hout b z).1] at e; cases e
    · rw [exC_out (fun z => nfr b z hb)]
      exact e0.frf b hb
  refine codeAny_mono (h obs e1) fun r s' hq => ?_
  /- behind it -/
  have cellK : ∀ {H' : Hp} {h' : Heap}, HOk X.prog X.w H' h' → (∀ b o u, exC X.env.cells X.env.scope X.N σ obs H b = some (.frz o u) → H' b = some (.frz o u)) → ∀ a v, cellV X.env.cells X.env.scope X.N σ a = some v → h'.get? a = some (obs a) := fun {H' h'} hok fz a v q => by
    have := fz a _ _ (exC_some q)
    exact (cellO_at (hok a _ (show H' a = some (CellO a v (obs a)) from this))).1
  have hokD : ∀ {H' : Hp} {h' : Heap}, HOk X.prog X.w H' h' → (∀ b o u, exC X.env.cells X.env.scope X.N σ obs H b = some (.frz o u) → H' b = some (.frz o u)) → (∀ b o, s.heap.get? b = some o → exC X.env.cells X.env.scope X.N σ obs H b = none → H' b = none) → HOk X.prog X.w (delC X.env.cells H') h' := fun {H' h'} hok fz fr0 a o e => by
    have na : ¬ InC X.env.cells a := fun z => by rw [delC_in z] at e; cases e
    rw [delC_out na] at e
    have st : ∀ b o, H' b = some o → (∀ ob u, o ≠ .frz ob u) → delC X.env.cells H' b = some o := fun b o q nf => by
      rw [delC_out (fun z => ?_)]
      · exact q
      · cases qq : cellV X.env.cells X.env.scope X.N σ b with
        | some v =>
          have := fz b _ _ (exC_some qq)
          rw [q] at this
          exact nf _ _ (Option.some.inj this)
        | none =>
          have := fr0 b _ (hobs b z) (by rw [exC_none qq]; exact C.free b z)
          rw [q] at this; cases this
    exact (hok a o e).stay (fun _ _ _ q => q) (fun b q => st b _ q (fun _ _ z => by cases z)) fun b xs q => st b _ q (fun _ _ z => by cases z)
  cases r with
  | ok fl =>
    cases fl with
    | ret u =>
      obtain ⟨v, H', os, bare, un, hok, rv, q⟩ := (show CE X.stack X.prog X.w (exC X.env.cells X.env.scope X.N σ obs H) s _ u s' from hq)
      have un2 : Un (frs X.stack) [] H (delC X.env.cells H') s.heap s'.heap := by
        refine ⟨fun b o e n hb hx => ?_, fun b o e n hb hx => ?_, fun b o e n hx => ?_, un.there, fun b xs e => ?_, fun b o x e => ?_, fun b ps e => ?_⟩
        · cases qq : cellV X.env.cells X.env.scope X.N σ b with
          | some w =>
            have h1 := cellK hok un.frzs b w qq
            rw [hobs b (inC qq)] at e
            cases e; exact h1
          | none => exact un.keep b o e (by rw [exC_none qq]; exact n) hb hx
        · exact un.slot b o e (by rw [exC_out (fun z => nfr b z hb)]; exact n) hb hx
        · by_cases z : InC X.env.cells b
          · exact delC_in z
          · rw [delC_out z]; exact un.free b o e (by rw [exC_out z]; exact n) hx
        · rw [delC_out (C.out e)]; exact un.tups b xs (C.same _ _ e)
        · rw [delC_out (C.out e)]; exact un.frzs b o x (C.same _ _ e)
        · rw [delC_out (C.out e)]; exact un.tbls b ps (C.same _ _ e)
      exact I.after ⟨v, delC X.env.cells H', os, bare, un2, hokD hok un.frzs (fun b o e n => un.free b o e n (by simp)), rv, q⟩
    | next => exact False.elim hq
    | brk => exact False.elim hq
    | cont => exact False.elim hq
  | error e =>
    obtain ⟨a, B, H', cls, d, ea, fl, hok, ub, na, os, bare, q⟩ := (show L2.CX X.prog X.w X.stack (exC X.env.cells X.env.scope X.N σ obs H) s _ e s' from hq)
    have ub2 : UB (frs X.stack) H (delC X.env.cells H') s.heap B s'.heap := by
      refine ⟨fun b o e n hb => ?_, ub.slot, fun b o e n => ?_, ub.there, fun b xs e => ?_, fun b o x e => ?_, fun b ps e => ?_⟩
      · cases qq : cellV X.env.cells X.env.scope X.N σ b with
        | some w =>
          have h1 := cellK hok ub.frzs b w qq
          rw [hobs b (inC qq)] at e
          cases e; exact h1
        | none => exact ub.keep b o e (by rw [exC_none qq]; exact n) hb
      · by_cases z : InC X.env.cells b
        · exact delC_in z
        · rw [delC_out z]; exact ub.free b o e (by rw [exC_out z]; exact n)
      · rw [delC_out (C.out e)]; exact ub.tups b xs (C.same _ _ e)
      · rw [delC_out (C.out e)]; exact ub.frzs b o x (C.same _ _ e)
      · rw [delC_out (C.out e)]; exact ub.tbls b ps (C.same _ _ e)
    refine hx pins σ H s e s' I ⟨a, B, delC X.env.cells H', cls, d, ea, fl, hokD hok ub.frzs (fun b o e n => ub.free b o e n), ub2, ?_, os, bare, q⟩
    by_cases z : InC X.env.cells a
    · exact delC_in z
    · rw [delC_out z]; exact na
theorem run_exp {Q : VK} {E : XK} {c : Code} (I : Inv X pins σ H s) (nd : X.N.Nodup) (hfn : ∀ y c, X.env.cells.lookup y = some c → X.fn y = true) (hx : Passes (L2.CX X.prog X.w) X E)
    (h : ∀ obs, Env0 X.prog X.w X.K X.mg X.base X.A X.stack s (exC X.env.cells X.env.scope X.N σ obs H) → codeAny (model X.prog X.w) X.A c (CR (L2.CX X.prog X.w) X.stack X.prog X.w (exC X.env.cells X.env.scope X.N σ obs H) s (fun v H' => Q v (delC X.env.cells H')) (fun cls d H' => E cls d (delC X.env.cells H'))) s) :
    codeAny (model X.prog X.w) X.A c (fun r s' => match r with
      | .ok (.ret u) => EP X pins σ Q u s'
      | .ok _ => False
      | .error e => X.xe e s') s := run_expO I nd (out_own I hfn) hx h
end
/-! ### calls with the cells told -/
/-- f(..) of a def of the top -/
def tCallX (cm : List (Str × Addr)) (sc : Scope) (N : List Str) (sp : Sp) (dvs : List V) (E : XK) (t : TA) : TE := fun σ H Q => t σ H fun vs H1 => CEnv cm sc N H1 → ∀ obs, sp (vs ++ dvs) (exC cm sc N σ obs H1) (fun v H' => Q v (delC cm H')) (fun cls d H' => E cls d (delC cm H'))
section
variable {X : Cx} {k : Nat} {x : Str} {ps : List Str} {dvs : List V} {sp : Sp} {E : XK} {p pos : Pos} {e : Expr} {es : List Expr} {t : TA}
theorem pe_callX (G : Glob X.prog X.w X.K X.mg X.base (L2.CX X.prog X.w) k x ps dvs sp) (hr : Room k X.A) (hg : Gl X x) (hx : Passes (L2.CX X.prog X.w) X E) (nd : X.N.Nodup) (hfn : ∀ y c, X.env.cells.lookup y = some c → X.fn y = true) (ha : PA X (e :: es) t)
    (hdb : (x == ("__debug__" : Str)) = false := by decide) (he : starEach (e :: es) X.env = (false, eval e X.env) :: starEach es X.env := by rfl) (hpl : (backTo pos (starEach es X.env)).any (·.1) = false := by rfl) :
    PE X (.Call (.Name x p) (e :: es) [] pos) (tCallX X.env.cells X.env.scope X.N sp dvs E t) := by
  refine ⟨fun pins s σ H Q I h => ?_⟩
  obtain ⟨f, fd, ds, F, hm, kp, vd, hb⟩ := G.ex
  refine wpAny_Call_Name_kw (ld_glob I hg hm ?_ hdb)
  refine PySem.W.callWith_K (h₀ := X.base) I.ok.mod.kin kp (thn (ha.run pos pins s σ H _ I h) fun us s1 ⟨vs, H1, I1, r, q⟩ => ⟨I1.kIn, ?_⟩) he hpl
  refine wpAny_call (codeAny_mono (run_exp (Q := Q) (E := E) I1 nd hfn hx fun obs e0 => ?_) fun r s' hq => ?_)
  · have r2 : Vals (vs ++ dvs) (us ++ ds) := r.append vd
    have q2 := q (cenv_of I1 nd) obs
    have hl : (us ++ ds).length = ps.length := by rw [← r2.length]; exact F.len _ _ _ _ q2
    exact F.run X.A X.stack s1 _ ⟨us, []⟩ (us ++ ds) (vs ++ dvs) _ _ hr e0 (hb s1 us I1.kIn hl) r2 q2
  · cases r with
    | error e => exact hq
    | ok fl =>
      cases fl with
      | ret u => exact hq
      | next => exact False.elim hq
      | brk => exact False.elim hq
      | cont => exact False.elim hq
end
end Hk

set_option Elab.async false
set_option linter.all false
set_option maxRecDepth 100000
set_option maxHeartbeats 4000000
namespace Hk
open PySem PySem.Spec PyProof.Rows L2 LamX NdefX
section
variable {P : Program} {w : World} {K : PySem.W.Frag} {mg : Str → Option Value} {base : Heap} {k : Nat} {f : Addr} {fd : FuncData} {ps : List Str} {sp : Sp} {x : Str} {dvs : List V}
theorem fn_weak (F : FnOk P w K mg base CX0 k f fd ps sp) : FnOk P w K mg base (L2.CX P w) k f fd ps sp := ⟨F.len, fun A outer s H args us vs Q E hr e0 hb r q => codeAny_mono (F.run A outer s H args us vs Q E hr e0 hb r q) fun r s' h => CR.weak h⟩
theorem Glob.weak (G : Glob P w K mg base CX0 k x ps dvs sp) : Glob P w K mg base (L2.CX P w) k x ps dvs sp := by
  obtain ⟨f, fd, ds, F, r⟩ := G.ex
  exact ⟨f, fd, ds, fn_weak F, r⟩
/-- a def whose code object is told -/
theorem okT {CX : CXT} {qual : Str} {params : Arguments} {body : List Stmt} {scope : Scope} {kws : List (Str × V)} {N : List Str} {p : Str × Option Str} (F : FunD K x qual params body scope dvs kws (He.fAd K p) fd) (S : FnScope N ps scope) (len : ∀ vs H Q E, sp vs H Q E → vs.length = ps.length)
    (hbody : ∀ (A : Around) (outer : List Env) (s : Shared) (H : Hp) (vs : List V) (Q : VK) (E : XK), Room k (A.deeper (envOfC qual scope s.heap.objs.size (He.fAd K p) (.ref (He.codeOf K p)))) → sp vs H Q E →
      ∃ t, PSs (cxOf CX P w K mg base N qual scope (He.fAd K p) (.ref (He.codeOf K p)) A outer s H E) body t ∧ t { nx := fun _ H' => Q .non H', rt := Q } (start N vs) H) : FnOk P w K mg base CX (k + 1) (He.fAd K p) fd ps sp := by
  obtain ⟨oc, od, dV, kV, doc, pm, an, cdv, ct, osl, rfl, lk, hcd, _, _⟩ := F.ex
  obtain ⟨c, rfl⟩ := He.codeIn_ref hcd
  have ec := He.codeOf_eq lk rfl
  rw [ec] at hbody
  exact fn_of lk hcd S len fun A outer s H vs Q E hr hsp => hbody A outer s H vs Q E hr hsp
end
/-! ### a function value called where what is raised is wished for at the slots -/
def tCallVS (P : Program) (w : World) (K : PySem.W.Frag) (mg : Str → Option Value) (base : Heap) (k i : Nat) (E : L2.St → XK) (t : TA) : TE := fun σ H Q => ∃ f sp, σ[i]? = some (some (.ref f)) ∧ Act P w K mg base k f sp ∧ t σ H fun vs H1 => sp vs H1 Q (E σ)
section
variable {X : Cx} {k i : Nat} {x : Str} {E : L2.St → XK} {t : TA} {e : Expr} {es : List Expr} {p pos : Pos}
theorem run_actS {pins : List (Addr × Obj)} {σ : L2.St} {H : Hp} {s : Shared} {Q : VK} {f : Addr} {sp : Sp} {us : List Value} {vs : List V} (a : Act X.prog X.w X.K X.mg X.base k f sp) (hr : Room k X.A) (hx : PassesAt (L2.CX X.prog X.w) X σ (E σ)) (I : Inv X pins σ H s) (r : Vals vs us) (q : sp vs H Q (E σ)) :
    PySem.W.FnAt f s.heap ∧ wpAny (model X.prog X.w) X.A (call (.ref f) us) (EP X pins σ Q) X.xe s := by
  obtain ⟨z, c⟩ := a X.A X.stack s H us vs Q (E σ) hr I.env0 r q
  refine ⟨z, wpAny_call (codeAny_mono c fun r s' hq => ?_)⟩
  cases r with
  | error e => exact hx pins H s e s' I hq
  | ok fl =>
    cases fl with
    | ret u => exact I.after hq
    | next => exact False.elim hq
    | brk => exact False.elim hq
    | cont => exact False.elim hq
theorem pe_callVS0 (hr : Room k X.A) (hx : ∀ σ, PassesAt (L2.CX X.prog X.w) X σ (E σ)) (hN : X.N[i]? = some x) (hv : Vis X.env.scope x)
    (hd : (x == ("__debug__" : Str)) = false := by decide) (hcd : (x == ("__classdict__" : Str)) = false := by decide) :
    PE X (.Call (.Name x p) [] [] pos) (tCallVS X.prog X.w X.K X.mg X.base k i E tNil) := by
  refine ⟨fun pins s σ H Q I h => ?_⟩
  obtain ⟨f, sp, hs, ac, q⟩ := h
  refine wpAny_Call_Name_kw (thn ((pe_var (pos := p) hN hv hd hcd).run pins s σ H (fun v H1 => v = .ref f ∧ H1 = H) I ⟨.ref f, hs, rfl, rfl⟩) fun u s1 ⟨v, H1, I1, r1, q1⟩ => ?_)
  obtain ⟨ev, eH⟩ := q1
  subst ev
  rw [eH] at I1
  obtain rfl : u = Value.ref f := r1
  obtain ⟨z, c⟩ := run_actS ac hr (hx σ) I1 .nil q
  exact PySem.W.callWith_F0 (first := []) z c
theorem pe_callVS0K {P : Program} {w : World} {K : PySem.W.Frag} {mg : Str → Option Value} {base : Heap} (e1 : X.prog = P) (e2 : X.w = w) (e3 : X.K = K) (e4 : X.mg = mg) (e5 : X.base = base) (hr : Room k X.A) (hx : ∀ σ, PassesAt (L2.CX X.prog X.w) X σ (E σ)) (hN : X.N[i]? = some x) (hv : Vis X.env.scope x)
    (hd : (x == ("__debug__" : Str)) = false := by decide) (hcd : (x == ("__classdict__" : Str)) = false := by decide) :
    PE X (.Call (.Name x p) [] [] pos) (tCallVS P w K mg base k i E tNil) := by
  subst e1 e2 e3 e4 e5
  exact pe_callVS0 hr hx hN hv hd hcd
theorem pe_callVK {P : Program} {w : World} {K : PySem.W.Frag} {mg : Str → Option Value} {base : Heap} {E : XK} (e1 : X.prog = P) (e2 : X.w = w) (e3 : X.K = K) (e4 : X.mg = mg) (e5 : X.base = base) (hr : Room k X.A) (hx : Passes (L2.CX X.prog X.w) X E) (hN : X.N[i]? = some x) (hv : Vis X.env.scope x) (ha : PA X (e :: es) t)
    (hd : (x == ("__debug__" : Str)) = false := by decide) (hcd : (x == ("__classdict__" : Str)) = false := by decide)
    (he : starEach (e :: es) X.env = (false, eval e X.env) :: starEach es X.env := by rfl) (hpl : (backTo pos (starEach es X.env)).any (·.1) = false := by rfl) :
    PE X (.Call (.Name x p) (e :: es) [] pos) (tCallV P w K mg base k i E t) := by
  subst e1 e2 e3 e4 e5
  exact pe_callV hr hx hN hv ha hd hcd he hpl
theorem pe_callV0K {P : Program} {w : World} {K : PySem.W.Frag} {mg : Str → Option Value} {base : Heap} {E : XK} (e1 : X.prog = P) (e2 : X.w = w) (e3 : X.K = K) (e4 : X.mg = mg) (e5 : X.base = base) (hr : Room k X.A) (hx : Passes (L2.CX X.prog X.w) X E) (hN : X.N[i]? = some x) (hv : Vis X.env.scope x)
    (hd : (x == ("__debug__" : Str)) = false := by decide) (hcd : (x == ("__classdict__" : Str)) = false := by decide) :
    PE X (.Call (.Name x p) [] [] pos) (tCallV P w K mg base k i E tNil) := by
  subst e1 e2 e3 e4 e5
  exact pe_callV0 hr hx hN hv hd hcd
/-- the exception's class is told -/
def tCls (K : PySem.W.Frag) (cls : Value) (d : Option Addr) (t : Addr → TS) : TS := fun Dn σ H => ∃ D, cls = .ref D ∧ d = none ∧ ExcC K D ∧ t D Dn σ H
theorem pss_cls {cls : Value} {d : Option Addr} {ss : List Stmt} {t : Addr → TS} {K : PySem.W.Frag} (h : ∀ D, cls = .ref D → d = none → ExcC K D → PSs X ss (t D)) : PSs X ss (tCls K cls d t) :=
  ⟨fun pins s σ H Dn I ⟨D, e1, e2, C, q⟩ => (h D e1 e2 C).run pins s σ H Dn I q⟩
theorem call_isEK {K : PySem.W.Frag} {a D : Addr} {oe : Obj} {pn : List (Addr × Obj)} {cls : Value} {d : Option Addr} (hK : X.K = K) (C : ExcC K D) (e1 : cls = .ref D) (e2 : d = none) (hz : Zc cls d oe) (hf : ∃ vs, oe.data = .fields vs) : CallR (X.suite a ((a, oe) :: pn)) (.builtin "isinstance") (rIsE K D a) := by
  subst hK; subst e1; subst e2; exact call_isE C hz hf
end
/-! ### list.count of flat things -/
def rCntF (K : PySem.W.Frag) : V → List V → Hp → VK → Prop := fun x xs H Q => ∃ (p : Addr) (ys : List V) (y : V), x = .ref p ∧ xs = [y] ∧ SqL K H p ys ∧ flatV y = true ∧ ys.all flatV = true ∧ Q (.int (ys.countP (fun z => eqV z y) : Nat)) H
theorem count_eqU {x : V} : ∀ {xs : List V} {us : List Value}, Vals xs us → xs.all flatV = true → us.countP (eqU x) = xs.countP fun y => eqV y x
  | _, _, .nil, _ => rfl
  | y :: xs, u :: us, .cons r t, f => by
    rw [List.all_cons, Bool.and_eq_true] at f
    rw [List.countP_cons, List.countP_cons, eqU_of r f.1, count_eqU t f.2]
theorem mt_countF {X : Cx} {K : PySem.W.Frag} (hK : X.K = K) : MtR X "list.count" (rCntF K) := by
  subst hK
  intro pins s σ H x xs v us Q I rx rxs h
  obtain ⟨p, ys, y, rfl, rfl, hs, fy, fys, q⟩ := h
  cases rx
  cases rxs with
  | cons ry rt =>
    rename_i uy ut
    cases rt
    obtain ⟨its, rv, ⟨⟨cls, dd, data, sl⟩, n, ho, hc, hdn, hd⟩, hlen⟩ := I.list hs
    simp only at hc hd
    subst hc hd
    refine call_meets PySem.F.slot_list_count ⟨_, ho, rfl⟩ PySem.F.entry_list_count (PySem.F.args_list_count_2 _ _)
      (SeqAt.list_countAt p its.toArray n dd sl uy (eqU y)) ⟨ho, fun u' hu' => mem_eqAt ry fy rv fys u' (by simpa using hu'), ?_⟩
    have ec : its.toArray.toList.countP (eqU y) = ys.countP (fun z => eqV z y) := count_eqU rv fys
    refine ⟨.int (ys.countP (fun z => eqV z y) : Nat), H, I.tok _, ⟨s.toks, ?_⟩, q⟩
    show Value.int ((its.toArray.toList.countP (eqU y) : Nat) : Int) s.toks = Value.int ((ys.countP (fun z => eqV z y) : Nat) : Int) s.toks
    rw [ec]
/-! ### facts of exceptions' classes, by one Bool -/
def excB (K : PySem.W.Frag) (x : Str) : Bool :=
  He.eqO (PySem.W.findIn K (.ref (He.ga K x)) "__getattribute__") (some (some (.builtin "BaseException.__getattribute__"))) && (He.eqO (PySem.W.findIn K (.ref (He.ga K x)) "__getattr__") (some none) && (decide (PySem.W.subIn K (.ref (He.ga K x)) (.type "BaseException") = some true) && (PySem.W.hasDictIn K (He.ga K x) &&
  (He.eqO (PySem.W.findIn K (.ref (He.ga K x)) "__class__") (some (some (.builtin "object.__class__"))) && (He.eqO (PySem.W.specialIn K (.builtin "object.__class__") "__get__") (some (some (.builtin "getset_descriptor.__get__"))) && (decide (PySem.W.takesIn K (.builtin "object.__class__") = some true) && decide (PySem.W.mroIn K (He.ga K x) (.type "object") = some true)))))))
theorem excB_ok {K : PySem.W.Frag} {x : Str} (h : excB K x = true) : ExcC K (He.ga K x) := by
  unfold excB at h
  obtain ⟨h1, h⟩ := He.ba h
  obtain ⟨h2, h⟩ := He.ba h
  obtain ⟨h3, h⟩ := He.ba h
  obtain ⟨h4, h⟩ := He.ba h
  obtain ⟨h5, h⟩ := He.ba h
  obtain ⟨h6, h⟩ := He.ba h
  obtain ⟨h7, h8⟩ := He.ba h
  exact ⟨He.eqO_ok h1, He.eqO_ok h2, of_decide_eq_true h3, h4, He.eqO_ok h5, He.eqO_ok h6, of_decide_eq_true h7, of_decide_eq_true h8⟩
/-- isinstance of one of the class x: of the classes ys, in turn -/
def kitsB (K : PySem.W.Frag) (x : Str) (ys : List (Str × Bool)) : Bool := ys.all fun q => decide (PySem.W.kitOne K (.ref (He.ga K x)) (.ref (He.ga K q.1)) = some q.2)
theorem kitsB_ok {K : PySem.W.Frag} {x : Str} {ys : List (Str × Bool)} (h : kitsB K x ys = true) {y : Str} {b : Bool} (hm : (y, b) ∈ ys) : PySem.W.kitOne K (.ref (He.ga K x)) (.ref (He.ga K y)) = some b := of_decide_eq_true (List.all_eq_true.mp h (y, b) hm)
/-- an exception of the class x: caught by HearError, a ValueError, of itself alone among the eleven -/
def own11 : List Str := ["BadLine", "BadPattern", "BadWord", "BadCount", "NoListener", "Busy", "TooDeep", "NotHeld", "NoWork", "BadText", "Halt"]
def refB (K : PySem.W.Frag) (x : Str) : Bool := excB K x && (kitsB K x (own11.map fun y => (y, decide (y = x))) && (decide (PySem.W.kitOne K (.ref (He.ga K x)) (.type "ValueError") = some true) && decide (PySem.W.exmOne K (.ref (He.ga K x)) (.ref (He.ga K "HearError")) = some true)))
section
variable {CX : CXT} {P : Program} {w : World} {K : PySem.W.Frag} {mg : Str → Option Value} {base : Heap} {N : List Str} {qual : Str} {scope : Scope} {f : Addr} {cd : Value} {A : Around} {outer : List Env} {s : Shared} {H : Hp} {E : XK}
theorem cx_cells : (cxOf CX P w K mg base N qual scope f cd A outer s H E).env.cells = cellsFrom (s.heap.objs.size + 1) scope.names [] := rfl
theorem cx_scope : (cxOf CX P w K mg base N qual scope f cd A outer s H E).env.scope = scope := rfl
theorem cx_prog : (cxOf CX P w K mg base N qual scope f cd A outer s H E).prog = P := rfl
theorem cx_w : (cxOf CX P w K mg base N qual scope f cd A outer s H E).w = w := rfl
theorem cx_base : (cxOf CX P w K mg base N qual scope f cd A outer s H E).base = base := rfl
theorem cx_qual : (cxOf CX P w K mg base N qual scope f cd A outer s H E).env.qual = qual ++ (".<locals>." : Str) := rfl
theorem cx_mg : (cxOf CX P w K mg base N qual scope f cd A outer s H E).mg = mg := rfl
theorem cx_N : (cxOf CX P w K mg base N qual scope f cd A outer s H E).N = N := rfl
end
end Hk

set_option Elab.async false
set_option linter.all false
set_option maxRecDepth 100000
set_option maxHeartbeats 4000000
namespace Hk
open PySem PySem.Spec PyProof.Rows L2 LamX NdefX
/-! ### a def within a def -/
section
variable {X : Cx} {pins : List (Addr × Obj)} {σ : L2.St} {H : Hp} {s : Shared}
theorem ndef_new {Ts : List Addr} {nm : Nat → Nat → Str} {c P : Addr} {name : Str} {params : Arguments} {body : List Stmt} {scope : Scope} {pos : Pos} {E : Value → Shared → Prop} {Q : Value → Shared → Prop} (I : Inv X pins σ H s) (TB : TabB X.base X.mg c P) (hcode : X.env.code = .ref c)
    (hm : P ∈ Ts) (hn : nm pos.line pos.col = X.env.qual ++ name) (hT : Tabs1 Ts nm H) (hfree : ∀ y ∈ scope.names, y.2 = .free → ∃ c, X.env.cells.lookup y.1 = some c)
    (h : ∀ (f c' : Addr) (H1 : Hp) (s' : Shared), Inv X pins σ H1 s' → (∀ b o, H b = some o → b ∉ Ts → H1 b = some o) → (∀ b, H1 b = Option.none → H b = Option.none) → Tabs1 Ts nm H1 → H f = none → H1 f = some (FnO f ⟨name, X.env.qual ++ name, params, body, scope, cloFrom X.env.cells scope.names [], c'⟩) → H1 c' = some (CodeO c' (X.env.qual ++ name)) → Q (.ref f) s') :
    wpAny (model X.prog X.w) X.A (makeFunction name (X.env.qual ++ name) params (.stmts body) scope X.env [] [] [] pos pos.line) Q E s := by
  obtain ⟨ps, hP, ht, ha⟩ := hT P hm
  have bP : s.heap.BuiltinsAt X.mg P := TB.bm.keeps I.bk
  have hP' : s.heap.get? P = some { cls := .none, data := .fields ps } := I.hok P _ hP
  cases hc : codeAmong pos ps.toList with
  | none =>
    refine PySem.W.makeFunction_K (mg := X.mg) (c := c) (P := P) (ps := ps) (closure_ok hfree) I.ok.glob (I.mod.glob.keeps I.bk) hcode (TB.code.keeps I.bk) hP' ht hc TB.gP bP fun c' ctv doc h' tk hx hge hlt hrec htb => ?_
    obtain ⟨c2, oc, vs, t, e2, hoc, hd, hv⟩ := hrec
    cases e2
    have nC : H c' = none := I.hok.fresh hge
    have I1 := inv_table (t' := tk) (more := #[rawInt pos.line, rawInt pos.col, .ref c']) (h' := h') I hP (fun b o hb e => hx b o hb e) htb hge ⟨oc, vs, t, hoc, hd, hv⟩
    have hE : ∀ b o, H b = some o → b ≠ P → upd (upd H P (.tbl (ps ++ #[rawInt pos.line, rawInt pos.col, .ref c']))) c' (CodeO c' (X.env.qual ++ name)) b = some o := fun b o e n => by
      rw [upd_ne (ne_of_none e nC), upd_ne n]
      exact e
    have neP : ∀ b q, H b = some (CodeO b q) → b ≠ P := fun b q e z => by
      rw [z, hP] at e
      exact codeO_ne ps (Option.some.inj e).symm
    have eL : (ps ++ #[rawInt pos.line, rawInt pos.col, .ref c']).toList = ps.toList ++ [rawInt pos.line, rawInt pos.col, .ref c'] := by simp
    have T1 : Tabs1 Ts nm (upd (upd H P (.tbl (ps ++ #[rawInt pos.line, rawInt pos.col, .ref c']))) c' (CodeO c' (X.env.qual ++ name))) := fun p hp => by
      by_cases hb : p = P
      · rw [hb]
        refine ⟨_, by rw [upd_ne (ne_of_none hP nC), upd_same], by rw [eL]; exact PySem.TriplesOk_snoc _ _ _ _ ht, fun p' cv hcv => ?_⟩
        rw [eL] at hcv
        rcases among_app2 _ ht hcv with z | ⟨z, z1, z2⟩
        · obtain ⟨c0, e1, e2⟩ := ha p' cv z
          exact ⟨c0, e1, hE _ _ e2 (neP _ _ e2)⟩
        · refine ⟨c', z, ?_⟩
          rw [← z1, ← z2, hn]
          exact upd_same
      · obtain ⟨ps', a1, a2, a3⟩ := hT p hp
        refine ⟨ps', by rw [upd_ne (ne_of_none a1 nC), upd_ne hb]; exact a1, a2, fun p' cv hcv => ?_⟩
        obtain ⟨c0, e1, e2⟩ := a3 p' cv hcv
        exact ⟨c0, e1, hE _ _ e2 (neP _ _ e2)⟩
    have nF := I1.hok.fresh (Nat.le_refl _)
    have I2 := inv_fn (F := ⟨name, X.env.qual ++ name, params, body, scope, cloFrom X.env.cells scope.names [], c'⟩) (t' := tk) (doc := doc) (pm := (X.mg "__name__").getD .none) (ctv := ctv) I1 rfl
    refine h h'.objs.size c' _ _ I2 (fun b o e n => ?_) (fun b e => upd_none (upd_none (upd_none e))) (T1.ext fun b o e => ?_) (I.hok.fresh (Nat.le_trans hge (Nat.le_of_lt hlt))) upd_same ?_
    · have e1 := hE b o e (fun z => n (by rw [z]; exact hm))
      exact (upd_ne (ne_of_none e1 nF)).trans e1
    · exact (upd_ne (ne_of_none e nF)).trans e
    · exact (upd_ne (Nat.ne_of_lt hlt)).trans upd_same
  | some cv =>
    obtain ⟨c', e, hco⟩ := ha pos cv hc
    subst e
    rw [hn] at hco
    refine PySem.W.makeFunction_hit (mg := X.mg) (c := c) (P := P) (ps := ps) (closure_ok hfree) I.ok.glob (I.mod.glob.keeps I.bk) hcode (TB.code.keeps I.bk) hP' ht hc bP fun ctv doc h' tk hx hsz => ?_
    have I1 : Inv X pins σ H { s with heap := h', toks := tk } := I.kept hx
    have nF : H h'.objs.size = none := I1.hok.fresh (Nat.le_refl _)
    have I2 := inv_fn (F := ⟨name, X.env.qual ++ name, params, body, scope, cloFrom X.env.cells scope.names [], c'⟩) (t' := tk) (doc := doc) (pm := (X.mg "__name__").getD .none) (ctv := ctv) I1 rfl
    refine h h'.objs.size c' _ _ I2 (fun b o e n => ?_) (fun b e => upd_none e) (hT.ext fun b o e => ?_) nF upd_same ?_
    · exact (upd_ne (ne_of_none e nF)).trans e
    · exact (upd_ne (ne_of_none e nF)).trans e
    · exact (upd_ne (ne_of_none hco nF)).trans hco
end
def tNdef1 (Ts : List Addr) (nm : Nat → Nat → Str) (i : Nat) (mk : Addr → NF) : TS := fun D σ H => Tabs1 Ts nm H ∧ ∀ (f c' : Addr) (H1 : Hp), (∀ b o, H b = some o → b ∉ Ts → H1 b = some o) → (∀ b, H1 b = Option.none → H b = Option.none) → Tabs1 Ts nm H1 → H f = none → H1 f = some (FnO f (mk c')) → H1 c' = some (CodeO c' (mk c').qual) → D.nx (σ.set i (some (.ref f))) H1
section
variable {X : Cx}
theorem ps_ndef1 {Ts : List Addr} {nm : Nat → Nat → Str} {c P : Addr} {name : Str} {params : Arguments} {body : List Stmt} {scope : Scope} {pos : Pos} {i : Nat} (TB : TabB X.base X.mg c P) (hcode : X.env.code = .ref c) (hm : P ∈ Ts) (hn : nm pos.line pos.col = X.env.qual ++ name)
    (hfree : ∀ y ∈ scope.names, y.2 = .free → X.env.scope.names.lookup y.1 = some .cell ∨ X.env.scope.names.lookup y.1 = some .free) (hd0 : params.defaults = []) (hk0 : params.kw_defaults = []) (ha : annTrees params none X.env = [])
    (hN : X.N.Nodup) (hi : X.N[i]? = some name) (hx : Loc X.env.scope name) (hf : X.fn name = true ∨ X.env.scope.names.lookup name = some .local) :
    PS X (.FunctionDef name params body [] none [] scope none name pos) (tNdef1 Ts nm i fun c' => ⟨name, X.env.qual ++ name, params, body, scope, cloFrom X.env.cells scope.names [], c'⟩) := by
  refine ⟨fun pins s σ H D I h => ?_⟩
  obtain ⟨hT, h⟩ := h
  have hq : qualnameIn X.env name name = X.env.qual ++ name := by
    have hk : X.env.kindOf name = some .local ∨ X.env.kindOf name = some .cell := hx
    unfold qualnameIn
    rcases hk with k | k <;> rw [k] <;> first | rfl | exact if_neg (by decide)
  refine PySem.W.nestDef_K hd0 hk0 ha ?_
  rw [hq]
  have hfr : ∀ y ∈ scope.names, y.2 = .free → ∃ c, X.env.cells.lookup y.1 = some c := fun y hy e => (hfree y hy e).elim (fun z => I.ok.has _ (.inl z)) fun z => I.ok.has _ (.inr z)
  refine ndef_new I TB hcode hm hn hT hfr fun f c' H1 s' I1 e1 e2 T1 f0 f1 c1 => ?_
  exact store_ok I1 hN hi hx (v := .ref f) rfl (fun s'' J => ⟨_, H1, J, h f c' H1 e1 e2 T1 f0 f1 c1⟩) hf
end
/-! ### defs whose functions outlive them: at the end their cells are told -/
theorem exp_facts {X : Cx} {pins : List (Addr × Obj)} {σ : L2.St} {H : Hp} {s : Shared} (I : Inv X pins σ H s) (nd : X.N.Nodup) : ∃ obs : Addr → Obj, HOk X.prog X.w (exC X.env.cells X.env.scope X.N σ obs H) s.heap := by
  have C := cenv_of I nd
  obtain ⟨obs, hobs⟩ : ∃ obs : Addr → Obj, ∀ a, InC X.env.cells a → s.heap.get? a = some (obs a) := by
    refine ⟨fun a => (s.heap.get? a).getD default, fun a ⟨y, e⟩ => ?_⟩
    obtain ⟨v, o, ho, _⟩ := I.cell y a e
    show s.heap.get? a = some ((s.heap.get? a).getD default)
    rw [ho]; rfl
  refine ⟨obs, fun a o e => ?_⟩
  cases q : cellV X.env.cells X.env.scope X.N σ a with
  | some v =>
    rw [exC_some q] at e
    cases e
    obtain ⟨i, y, e1, e2, e3, kc⟩ := cellV_some q
    have ho := hobs a ⟨y, e2⟩
    obtain ⟨m, hn, hl⟩ := I.loc
    obtain ⟨u, r, l⟩ := hl i y v e1 e3 (kc.elim (fun z => .inr (.inl z)) fun z => .inr (.inr z))
    rcases l with ⟨k, _⟩ | ⟨_, c, hc, o, ho', hd'⟩
    · have k' : X.env.scope.names.lookup y = some .local := k
      rcases kc with z | z <;> rw [z] at k' <;> cases k'
    · rw [e2] at hc; cases hc
      rw [ho] at ho'; cases ho'
      exact cellO_ok r ho hd'
  | none =>
    rw [exC_none q] at e
    exact (I.hok a o e).stay (fun _ _ _ q => q) (fun b q => C.same _ _ q) fun b xs q => C.same _ _ q
/-- a call's end, of the frame X -/
def EndM (X : Cx) (Q : VK) (fl : Flow) (s' : Shared) : Prop := ∃ u v H', fl = .ret u ∧ s'.os = X.s_0.os ∧ AllBare s'.gens ∧ Un X.fs X.ex X.H_0 H' X.s_0.heap s'.heap ∧ HOk X.prog X.w H' s'.heap ∧ L2.RelV v u ∧ Q v H'
abbrev TM := VK → L2.St → Hp → Prop
structure PM (X : Cx) (ss : List Stmt) (t : TM) : Prop where
  run : ∀ (pins : List (Addr × Obj)) (s : Shared) (σ : L2.St) (H : Hp) (Q : VK), Inv X pins σ H s → t Q σ H → wpAny (model X.prog X.w) X.A (execs ss X.env) (EndM X Q) X.xe s
def tMseq (t : TS) (u : TM) : TM := fun Q σ H => t { nx := fun σ' H' => u Q σ' H', rt := Q } σ H
def tMret (cm : List (Str × Addr)) (sc : Scope) (N : List Str) (te : TE) : TM := fun Q σ H => te σ H fun v H1 => CEnv cm sc N H1 → ∀ obs, Q v (exC cm sc N σ obs H1)
section
variable {X : Cx}
theorem pm_cons {st : Stmt} {ss : List Stmt} {t : TS} {u : TM} (h1 : PS X st t) (h2 : PM X ss u) : PM X (st :: ss) (tMseq t u) := by
  refine ⟨fun pins s σ H Q I h => ?_⟩
  refine wpAny_execs_cons (thn (h1.run pins s σ H _ I h) fun f s1 q => ?_)
  cases f with
  | next =>
    obtain ⟨σ', H', I', q⟩ := q
    exact h2.run pins s1 σ' H' Q I' q
  | ret u =>
    obtain ⟨v, σ', H', J, rv, q⟩ := q
    exact ⟨u, v, H', rfl, J.os, J.bare, J.base, J.hok, rv, q⟩
  | brk =>
    obtain ⟨_, _, _, q⟩ := q
    exact False.elim q
  | cont =>
    obtain ⟨_, _, _, q⟩ := q
    exact False.elim q
theorem un_ex {pins : List (Addr × Obj)} {σ : L2.St} {H : Hp} {s : Shared} {obs : Addr → Obj} (I : Inv X pins σ H s) (nd : X.N.Nodup) (hfn : ∀ y c, X.env.cells.lookup y = some c → X.fn y = true) : Un X.fs X.ex X.H_0 (exC X.env.cells X.env.scope X.N σ obs H) X.s_0.heap s.heap := by
  have C := cenv_of I nd
  have u := I.base
  refine ⟨u.keep, u.slot, fun b o e n z => ?_, u.there, fun b xs e => C.same _ _ (u.tups b xs e), fun b o x e => C.same _ _ (u.frzs b o x e), fun b ps e => ?_⟩
  · rw [exC_out (fun z => ?_)]
    · exact u.free b o e n z
    · obtain ⟨y, hy⟩ := z
      exact absurd (Nat.lt_of_lt_of_le (Heap.lt_size e) (I.ok.cab y b (hfn y b hy) hy)) (Nat.lt_irrefl _)
  · obtain ⟨more, q⟩ := u.tbls b ps e
    exact ⟨more, C.same _ _ q⟩
theorem pm_ret {e : Expr} {te : TE} {pos : Pos} (he : PE X e te) (nd : X.N.Nodup) (hfn : ∀ y c, X.env.cells.lookup y = some c → X.fn y = true) : PM X [.Return (some e) pos] (tMret X.env.cells X.env.scope X.N te) := by
  refine ⟨fun pins s σ H Q I h => ?_⟩
  refine wpAny_execs_cons (wpAny_Return_some (thn (he.run pins s σ H _ I h) fun u s1 ⟨v, H1, I1, r1, q1⟩ => ?_))
  obtain ⟨obs, hok⟩ := exp_facts I1 nd
  exact ⟨u, v, _, rfl, I1.os, I1.bare, un_ex I1 nd hfn, hok, r1, q1 (cenv_of I1 nd) obs⟩
end
section
variable {P : Program} {w : World} {K : PySem.W.Frag} {mg : Str → Option Value} {base : Heap} {k : Nat} {fd : FuncData} {ps : List Str} {sp : Sp} {x : Str} {dvs : List V}
/-- a def by such a body -/
theorem okM {CX : CXT} {qual : Str} {params : Arguments} {body : List Stmt} {scope : Scope} {kws : List (Str × V)} {N : List Str} {p : Str × Option Str} (F : FunD K x qual params body scope dvs kws (He.fAd K p) fd) (S : FnScope N ps scope) (len : ∀ vs H Q E, sp vs H Q E → vs.length = ps.length)
    (hbody : ∀ (A : Around) (outer : List Env) (s : Shared) (H : Hp) (vs : List V) (Q : VK) (E : XK), Room k (A.deeper (envOfC qual scope s.heap.objs.size (He.fAd K p) (.ref (He.codeOf K p)))) → sp vs H Q E →
      ∃ t, PM (cxOf CX P w K mg base N qual scope (He.fAd K p) (.ref (He.codeOf K p)) A outer s H E) body t ∧ t Q (start N vs) H) : FnOk P w K mg base CX (k + 1) (He.fAd K p) fd ps sp := by
  obtain ⟨oc, od, dV, kV, doc, pm, an, cdv, ct, osl, rfl, lk, hcd, _, _⟩ := F.ex
  obtain ⟨c, rfl⟩ := He.codeIn_ref hcd
  have ec := He.codeOf_eq lk rfl
  rw [ec] at hbody
  refine ⟨len, fun A outer s H args us vs Q E hr e0 hb r hsp => ?_⟩
  have hl := len _ _ _ _ hsp
  have KX : K.In s.heap := e0.mod.kin.keeps fun b o e => (e0.bs b o e).1
  have lim : s.heap.NoLimit := e0.mod.nolimit.keeps fun b o e => (e0.bs b o e).1
  have hkind : ∀ y ∈ ps.zip us, scope.names.lookup y.1 = some .local ∨ (scope.names.lookup y.1 = some .cell ∧ ((cellsFrom (s.heap.objs.size + 1) scope.names []).lookup y.1).isSome = true) := fun ⟨n, v⟩ hy => by
    rcases S.par n (List.of_mem_zip hy).1 with q | q
    · exact .inl q
    · exact .inr ⟨q, PySem.W.cellsFrom_some _ _ _ (.inl q)⟩
  refine codeAny_call_function hr.depth (KX _ _ lk) rfl S.co S.gen rfl (PySem.W.codeRec_of KX hcd) (hb _ _ _ _ ?_)
  refine wpAny_newFunctionEnv_cells S.kind hkind fun env he s1 x => ?_
  subst he
  refine ⟨lim.keeps x.toInCall.keep, codeAny_func ?_⟩
  obtain ⟨t, ht, hq⟩ := hbody A outer s H vs Q E (hr.deeper _) hsp
  have I : Inv (cxOf CX P w K mg base N qual scope (He.fAd K p) (.ref c) A outer s H E) [] (L2.start N vs) H s1 := inv_start S hr.hd e0 hl r x
  refine wpAny_mono (ht.run [] s1 (L2.start N vs) H Q I hq) (fun fl s' hs => ?_) fun e s' hs => hs
  obtain ⟨u, v, H', rfl, os, bare, un, hok, rv, q⟩ := hs
  exact ⟨v, H', os, bare, un, hok, rv, q⟩
end
/-! ### a lambda of a live frame, called by a callee -/
/-- what stands in the body's heap, what stood in the caller's -/
theorem body_in {cm cl : List (Str × Addr)} {sc : Scope} {N : List Str} {σ : L2.St} {obs : Addr → Obj} {H : Hp} (C : CEnv cm sc N H) (hcl : ∀ y c, cl.lookup y = some c → cm.lookup y = some c) : Same H (delC cl (exC cm sc N σ obs H)) := fun a o h => by
  rw [delC_out (fun z => by obtain ⟨y, e⟩ := z; exact C.out h ⟨y, hcl y a e⟩)]
  exact C.same _ _ h
/-- the heap behind the call, from the body's -/
theorem body_out {S : Addr → Prop} {cm cl : List (Str × Addr)} {sc : Scope} {N : List Str} {σ : L2.St} {obs : Addr → Obj} {H H' H2 : Hp} (C : CEnv cm sc N H) (hcl : ∀ y c, cl.lookup y = some c → cm.lookup y = some c)
    (e : Ext S (delC cl (exC cm sc N σ obs H)) H') (e2 : ∀ b o, ¬ S b → putC cl (exC cm sc N σ obs H) H' b = some o → H2 b = some o) : Ext S H (delC cm H2) := fun a o n h => by
  have na : ¬ InC cm a := C.out h
  have nl : ¬ InC cl a := fun ⟨y, q⟩ => na ⟨y, hcl y a q⟩
  rw [delC_out na]
  exact e2 a o n (by rw [putC_out nl]; exact e a o n (body_in C hcl a o h))
theorem act_use {P : Program} {w : World} {K : PySem.W.Frag} {mg : Str → Option Value} {base : Heap} {k : Nat} {f : Addr} {L : LF} {fr : List Str} {dvs : List V} {spN : List (Option V) → Sp} {H : Hp} {R : Sp → Prop} (hf : H f = some (LamO f L)) (a : Act P w K mg base k f (spLam f L fr dvs spN)) (h : R (spLam f L fr dvs spN)) : ∃ sp, Act P w K mg base k f sp ∧ R sp := ⟨_, a, h⟩
theorem fin_same {cm cl : List (Str × Addr)} {sc : Scope} {N : List Str} {σ : L2.St} {obs : Addr → Obj} {H H' H2 : Hp} (C : CEnv cm sc N H) (hcl : ∀ y c, cl.lookup y = some c → cm.lookup y = some c)
    (e : Same (delC cl (exC cm sc N σ obs H)) H') (e2 : Same (putC cl (exC cm sc N σ obs H) H') H2) : Same H (delC cm H2) :=
  (body_out (S := No) C hcl (.of_same e) fun b o _ h => e2 b o h).same
theorem Tabs1.nt {Ts : List Addr} {nm : Nat → Nat → Str} {H : Hp} (t : Tabs1 Ts nm H) {b : Addr} {o : HO} (h : H b = some o) (n : ∀ ps, o ≠ .tbl ps) : b ∉ Ts := fun hb => by
  obtain ⟨ps, e, _⟩ := t b hb
  rw [h] at e
  exact n ps (Option.some.inj e)
theorem Tabs1.ext2 {Ts : List Addr} {nm : Nat → Nat → Str} {H H' : Hp} (t : Tabs1 Ts nm H) (h1 : ∀ b ps, H b = some (.tbl ps) → H' b = some (.tbl ps)) (h2 : ∀ c q, H c = some (CodeO c q) → H' c = some (CodeO c q)) : Tabs1 Ts nm H' := fun p hp => by
  obtain ⟨ps, a1, a2, a3⟩ := t p hp
  refine ⟨ps, h1 _ _ a1, a2, fun pos cv hc => ?_⟩
  obtain ⟨c, e1, e2⟩ := a3 pos cv hc
  exact ⟨c, e1, h2 _ _ e2⟩
theorem clo_sub {cm : List (Str × Addr)} {sc : Scope} {N : List Str} {H : Hp} {scope : Scope} {fr : List Str} (C : CEnv cm sc N H) (hb : ndefB sc scope fr = true) : ∀ y c, (cloFrom cm scope.names []).lookup y = some c → cm.lookup y = some c :=
  fun y c e => clo_cm (fun y hy e => C.has y.1 (ndef_free hb y hy e)) e
end Hk

set_option Elab.async false
set_option linter.all false
set_option maxRecDepth 100000
set_option maxHeartbeats 4000000
/-! Calls over a heap without some cells; a lambda over the heap without any cell of the frame that made it. -/
namespace Hk
open PySem PySem.Spec PyProof.Rows L2 LamX NdefX
structure CsAt (cl : List (Str × Addr)) (H : Hp) : Prop where
  tr_ : ∀ a, InC cl a → ∃ v, IsC H a v
theorem CsAt.tr {cl : List (Str × Addr)} {H : Hp} (C : CsAt cl H) {a : Addr} (h : InC cl a) : ∃ v, IsC H a v := C.tr_ a h
theorem CapsAt.cs {cl : List (Str × Addr)} {fr : List Str} {ws : List V} {H : Hp} (C : CapsAt cl fr ws H) : CsAt cl H := ⟨fun a z => C.tr z⟩
theorem CsAt.out {cl : List (Str × Addr)} {H : Hp} (C : CsAt cl H) {a : Addr} {o : HO} (h : H a = some o) (n : ∀ ob u, o ≠ .frz ob u) : ¬ InC cl a := fun z => by
  obtain ⟨v, ob, e⟩ := C.tr z
  rw [h] at e
  exact n _ _ (Option.some.inj e)
theorem CsAt.outN {cl : List (Str × Addr)} {H : Hp} (C : CsAt cl H) {a : Addr} (h : H a = none) : ¬ InC cl a := fun z => by
  obtain ⟨v, ob, e⟩ := C.tr z
  rw [h] at e
  cases e
theorem CsAt.del {cl : List (Str × Addr)} {H : Hp} (C : CsAt cl H) {a : Addr} {o : HO} (h : H a = some o) (n : ∀ ob u, o ≠ .frz ob u) : delC cl H a = some o := by rw [delC_out (C.out h n)]; exact h
section
variable {P : Program} {w : World} {cl : List (Str × Addr)} {H H' : Hp} {h h' B : Heap} {fs : List Addr}
theorem CsAt.hokDel (C : CsAt cl H) (hok : HOk P w H h) : HOk P w (delC cl H) h := fun a o e => by
  have na : ¬ InC cl a := fun z => by rw [delC_in z] at e; cases e
  rw [delC_out na] at e
  exact (hok a o e).stay (fun _ _ _ q => q) (fun b q => C.del q (fun _ _ z => by cases z)) fun b xs q => C.del q (fun _ _ z => by cases z)
/-- behind the body: the cells are as they were -/
theorem CsAt.hokPut (C : CsAt cl H) (hok0 : HOk P w H h) (hok : HOk P w H' h') (kp : ∀ a, InC cl a → ∀ o, h.get? a = some o → h'.get? a = some o) (fr0 : ∀ a, InC cl a → H' a = none) : HOk P w (putC cl H H') h' := fun a o e => by
  by_cases z : InC cl a
  · rw [putC_in z] at e
    obtain ⟨v, ob, e2⟩ := C.tr z
    rw [e] at e2
    cases e2
    obtain ⟨e3, u, r, d⟩ := cellO_at (hok0 a _ e)
    exact cellO_ok r (kp a z _ e3) d
  · rw [putC_out z] at e
    have st : ∀ b o, H' b = some o → putC cl H H' b = some o := fun b o q => by
      rw [putC_out (fun z => by rw [fr0 b z] at q; cases q)]; exact q
    exact (hok a o e).stay (fun _ _ _ q => q) (fun b q => st b _ q) fun b xs q => st b _ q
theorem CsAt.un (C : CsAt cl H) (u : Un fs [] (delC cl H) H' h h') (ex : ∀ a, InC cl a → ∃ o, h.get? a = some o) : Un fs [] H (putC cl H H') h h' where
  keep := fun b o e n => u.keep b o e (by rw [delC_out (C.outN n)]; exact n)
  slot := fun b o e n => u.slot b o e (by rw [delC_out (C.outN n)]; exact n)
  free := fun b o e n z => by rw [putC_out (C.outN n)]; exact u.free b o e (by rw [delC_out (C.outN n)]; exact n) z
  there := u.there
  tups := fun b xs e => by
    have q := C.out e (fun _ _ z => by cases z)
    rw [putC_out q]; exact u.tups b xs (by rw [delC_out q]; exact e)
  frzs := fun b o x e => by
    by_cases z : InC cl b
    · rw [putC_in z]; exact e
    · rw [putC_out z]; exact u.frzs b o x (by rw [delC_out z]; exact e)
  tbls := fun b ps e => by
    have q := C.out e (fun _ _ z => by cases z)
    rw [putC_out q]; exact u.tbls b ps (by rw [delC_out q]; exact e)
theorem CsAt.ub (C : CsAt cl H) (u : UB fs (delC cl H) H' h B h') : UB fs H (putC cl H H') h B h' where
  keep := fun b o e n => u.keep b o e (by rw [delC_out (C.outN n)]; exact n)
  slot := u.slot
  free := fun b o e n => by rw [putC_out (C.outN n)]; exact u.free b o e (by rw [delC_out (C.outN n)]; exact n)
  there := u.there
  tups := fun b xs e => by
    have q := C.out e (fun _ _ z => by cases z)
    rw [putC_out q]; exact u.tups b xs (by rw [delC_out q]; exact e)
  frzs := fun b o x e => by
    by_cases z : InC cl b
    · rw [putC_in z]; exact e
    · rw [putC_out z]; exact u.frzs b o x (by rw [delC_out z]; exact e)
  tbls := fun b ps e => by
    have q := C.out e (fun _ _ z => by cases z)
    rw [putC_out q]; exact u.tbls b ps (by rw [delC_out q]; exact e)

end
section
variable {P : Program} {w : World} {K : PySem.W.Frag} {mg : Str → Option Value} {base : Heap} {k : Nat} {f : Addr} {sp : Sp}
/-- what a run over the heap without the cells gives over the heap with them -/
theorem csRun {cl : List (Str × Addr)} {A : Around} {outer : List Env} {s : Shared} {H : Hp} {Q : VK} {E : XK} {c : Code} (C : CsAt cl H) (e0 : Env0 P w K mg base A outer s H)
    (h : Env0 P w K mg base A outer s (delC cl H) → codeAny (model P w) A c (CR (L2.CX P w) outer P w (delC cl H) s (fun v H' => (∀ a, InC cl a → H' a = none) → Q v (putC cl H H')) (fun cls d H' => (∀ a, InC cl a → H' a = none) → E cls d (putC cl H H'))) s) :
    codeAny (model P w) A c (CR (L2.CX P w) outer P w H s Q E) s := by
  have at_ : ∀ a, InC cl a → ∃ v ob, H a = some (CellO a v ob) ∧ s.heap.get? a = some ob := fun a z => by
    obtain ⟨v, ob, e⟩ := C.tr z
    exact ⟨v, ob, e, (cellO_at (e0.hok a _ e)).1⟩
  have nfs : ∀ a, InC cl a → a ∉ frs outer := fun a z hb => by
    obtain ⟨v, ob, e, _⟩ := at_ a z
    rw [e0.frf a hb] at e
    cases e
  have e1 : Env0 P w K mg base A outer s (delC cl H) := ⟨e0.frames, e0.mod, fun b o e => ⟨(e0.bs b o e).1, by rw [delC_out (C.outN (e0.bs b o e).2)]; exact (e0.bs b o e).2⟩, e0.bsz, e0.funs, fun b hb => by rw [delC_out (C.outN (e0.frf b hb))]; exact e0.frf b hb, C.hokDel e0.hok, e0.bare⟩
  refine codeAny_mono (h e1) fun r s' hq => ?_
  cases r with
  | ok fl =>
    cases fl with
    | ret u =>
      obtain ⟨v, H', os, bare, un, hok, rv, q⟩ := (show CE outer P w (delC cl H) s _ u s' from hq)
      have f0 : ∀ a, InC cl a → H' a = none := fun a z => by
        obtain ⟨v, ob, _, q2⟩ := at_ a z
        exact un.free a ob q2 (delC_in z) (by simp)
      exact ⟨v, putC cl H H', os, bare, C.un un (fun a z => (at_ a z).elim fun v ⟨ob, _, q⟩ => ⟨ob, q⟩), C.hokPut e0.hok hok (fun a z o e => un.keep a o e (delC_in z) (nfs a z) (by simp)) f0, rv, q f0⟩
    | next => exact False.elim hq
    | brk => exact False.elim hq
    | cont => exact False.elim hq
  | error e =>
    obtain ⟨a, B, H', cls, d, e1, fl, hok, ub, na, os, bare, q⟩ := (show L2.CX P w outer (delC cl H) s _ e s' from hq)
    have f0 : ∀ a, InC cl a → H' a = none := fun a z => by
      obtain ⟨v, ob, _, q2⟩ := at_ a z
      exact ub.free a ob q2 (delC_in z)
    have kp : ∀ a, InC cl a → ∀ o, s.heap.get? a = some o → B.get? a = some o := fun a z o e => ub.keep a o e (delC_in z) (nfs a z)
    refine ⟨a, B, putC cl H H', cls, d, e1, fl, C.hokPut e0.hok hok kp f0, C.ub ub, ?_, os, bare, q f0⟩
    have nz : ¬ InC cl a := fun z => by
      obtain ⟨v, ob, _, q2⟩ := at_ a z
      have := kp a z ob q2
      rw [fl.2.1] at this
      cases this
    rw [putC_out nz]
    exact na

/-- a call over a heap without some cells -/
def spF (sp : Sp) : Sp := fun vs H Q E => ∃ cl, CsAt cl H ∧ sp vs (delC cl H) (fun v H' => (∀ a, InC cl a → H' a = none) → Q v (putC cl H H')) (fun c d H' => (∀ a, InC cl a → H' a = none) → E c d (putC cl H H'))
theorem FnOk.framed {fd : FuncData} {ps : List Str} (F : FnOk P w K mg base (L2.CX P w) k f fd ps sp) : FnOk P w K mg base (L2.CX P w) k f fd ps (spF sp) :=
  ⟨fun vs H Q E ⟨cl, C, q⟩ => F.len _ _ _ _ q, fun A outer s H args us vs Q E hr e0 hb r ⟨cl, C, q⟩ => csRun C e0 fun e1 => F.run A outer s (delC cl H) args us vs _ _ hr e1 hb r q⟩
theorem csEnv {cl : List (Str × Addr)} {A : Around} {outer : List Env} {s : Shared} {H : Hp} (C : CsAt cl H) (e0 : Env0 P w K mg base A outer s H) : Env0 P w K mg base A outer s (delC cl H) :=
  ⟨e0.frames, e0.mod, fun b o e => ⟨(e0.bs b o e).1, by rw [delC_out (C.outN (e0.bs b o e).2)]; exact (e0.bs b o e).2⟩, e0.bsz, e0.funs, fun b hb => by rw [delC_out (C.outN (e0.frf b hb))]; exact e0.frf b hb, C.hokDel e0.hok, e0.bare⟩
theorem Act.framed (a : Act P w K mg base k f sp) : Act P w K mg base k f (spF sp) := fun A outer s H us vs Q E hr e0 r ⟨cl, C, q⟩ =>
  ⟨(a A outer s (delC cl H) us vs _ _ hr (csEnv C e0) r q).1, csRun C e0 fun e1 => (a A outer s (delC cl H) us vs _ _ hr e1 r q).2⟩
end
section
variable {X : Cx} {pins : List (Addr × Obj)} {σ : L2.St} {H : Hp} {s : Shared}
theorem run_expUO {Q : VK} {E : XK} {c : Code} (I : Inv X pins σ H s) (nd : X.N.Nodup) (hout : ∀ a, InC X.env.cells a → X.base.get? a = none ∧ a ∉ X.fs) (hx : Passes (L2.CX X.prog X.w) X E)
    (h : ∀ obs, Env0 X.prog X.w X.K X.mg X.base X.A X.stack s (exC X.env.cells X.env.scope X.N σ obs H) → codeAny (model X.prog X.w) X.A c (CR (L2.CX X.prog X.w) X.stack X.prog X.w (exC X.env.cells X.env.scope X.N σ obs H) s (fun v H' => (∀ b, InC X.env.cells b → exC X.env.cells X.env.scope X.N σ obs H b = none → H' b = none) → Q v (delC X.env.cells H')) (fun cls d H' => (∀ b, InC X.env.cells b → exC X.env.cells X.env.scope X.N σ obs H b = none → H' b = none) → E cls d (delC X.env.cells H'))) s) :
    codeAny (model X.prog X.w) X.A c (fun r s' => match r with
      | .ok (.ret u) => EP X pins σ Q u s'
      | .ok _ => False
      | .error e => X.xe e s') s := by
  have C := cenv_of I nd
  obtain ⟨obs, hobs⟩ : ∃ obs : Addr → Obj, ∀ a, InC X.env.cells a → s.heap.get? a = some (obs a) := by
    refine ⟨fun a => (s.heap.get? a).getD default, fun a ⟨y, e⟩ => ?_⟩
    obtain ⟨v, o, ho, _⟩ := I.cell y a e
    show s.heap.get? a = some ((s.heap.get? a).getD default)
    rw [ho]; rfl
  have inC : ∀ {a v}, cellV X.env.cells X.env.scope X.N σ a = some v → InC X.env.cells a := fun {a v} e => by
    obtain ⟨i, y, _, e2, _⟩ := cellV_some e
    exact ⟨y, e2⟩
  have okc : ∀ {a v}, cellV X.env.cells X.env.scope X.N σ a = some v → ∃ u, L2.RelV v u ∧ (obs a).data = .cell (some u) := fun {a v} e => by
    obtain ⟨i, y, e1, e2, e3, kc⟩ := cellV_some e
    have ho := hobs a ⟨y, e2⟩
    obtain ⟨m, hn, hl⟩ := I.loc
    obtain ⟨u, r, l⟩ := hl i y v e1 e3 (kc.elim (fun z => .inr (.inl z)) fun z => .inr (.inr z))
    rcases l with ⟨k, _⟩ | ⟨_, c, hc, o, ho', hd'⟩
    · have k' : X.env.scope.names.lookup y = some .local := k
      rcases kc with z | z <;> rw [z] at k' <;> cases k'
    · rw [e2] at hc; cases hc
      rw [ho] at ho'; cases ho'
      exact ⟨u, r, hd'⟩
  have nfr : ∀ a, InC X.env.cells a → a ∉ frs X.stack := fun a z hb => by
    rcases List.mem_cons.mp (I.stkSub a hb) with e | e
    · obtain ⟨y, hy⟩ := z
      exact I.cne y a hy e
    · exact (hout a z).2 e
  have hokX : HOk X.prog X.w (exC X.env.cells X.env.scope X.N σ obs H) s.heap := fun a o e => by
    cases q : cellV X.env.cells X.env.scope X.N σ a with
    | some v =>
      rw [exC_some q] at e
      cases e
      obtain ⟨u, r, d⟩ := okc q
      exact cellO_ok r (hobs a (inC q)) d
    | none =>
      rw [exC_none q] at e
      exact (I.hok a o e).stay (fun _ _ _ q => q) (fun b q => C.same _ _ q) fun b xs q => C.same _ _ q
  have e1 : Env0 X.prog X.w X.K X.mg X.base X.A X.stack s (exC X.env.cells X.env.scope X.N σ obs H) := by
    have e0 := I.env0
    refine ⟨e0.frames, e0.mod, fun b o e => ⟨(e0.bs b o e).1, ?_⟩, e0.bsz, e0.funs, fun b hb => ?_, hokX, e0.bare⟩
    · rw [exC_out (fun z => ?_)]
      · exact (e0.bs b o e).2
      · rw [(hout b z).1] at e; cases e
    · rw [exC_out (fun z => nfr b z hb)]
      exact e0.frf b hb
  refine codeAny_mono (h obs e1) fun r s' hq => ?_
  /- behind it -/
  have cellK : ∀ {H' : Hp} {h' : Heap}, HOk X.prog X.w H' h' → (∀ b o u, exC X.env.cells X.env.scope X.N σ obs H b = some (.frz o u) → H' b = some (.frz o u)) → ∀ a v, cellV X.env.cells X.env.scope X.N σ a = some v → h'.get? a = some (obs a) := fun {H' h'} hok fz a v q => by
    have := fz a _ _ (exC_some q)
    exact (cellO_at (hok a _ (show H' a = some (CellO a v (obs a)) from this))).1
  have hokD : ∀ {H' : Hp} {h' : Heap}, HOk X.prog X.w H' h' → (∀ b o u, exC X.env.cells X.env.scope X.N σ obs H b = some (.frz o u) → H' b = some (.frz o u)) → (∀ b o, s.heap.get? b = some o → exC X.env.cells X.env.scope X.N σ obs H b = none → H' b = none) → HOk X.prog X.w (delC X.env.cells H') h' := fun {H' h'} hok fz fr0 a o e => by
    have na : ¬ InC X.env.cells a := fun z => by rw [delC_in z] at e; cases e
    rw [delC_out na] at e
    have st : ∀ b o, H' b = some o → (∀ ob u, o ≠ .frz ob u) → delC X.env.cells H' b = some o := fun b o q nf => by
      rw [delC_out (fun z => ?_)]
      · exact q
      · cases qq : cellV X.env.cells X.env.scope X.N σ b with
        | some v =>
          have := fz b _ _ (exC_some qq)
          rw [q] at this
          exact nf _ _ (Option.some.inj this)
        | none =>
          have := fr0 b _ (hobs b z) (by rw [exC_none qq]; exact C.free b z)
          rw [q] at this; cases this
    exact (hok a o e).stay (fun _ _ _ q => q) (fun b q => st b _ q (fun _ _ z => by cases z)) fun b xs q => st b _ q (fun _ _ z => by cases z)
  cases r with
  | ok fl =>
    cases fl with
    | ret u =>
      obtain ⟨v, H', os, bare, un, hok, rv, q⟩ := (show CE X.stack X.prog X.w (exC X.env.cells X.env.scope X.N σ obs H) s _ u s' from hq)
      have un2 : Un (frs X.stack) [] H (delC X.env.cells H') s.heap s'.heap := by
        refine ⟨fun b o e n hb hx => ?_, fun b o e n hb hx => ?_, fun b o e n hx => ?_, un.there, fun b xs e => ?_, fun b o x e => ?_, fun b ps e => ?_⟩
        · cases qq : cellV X.env.cells X.env.scope X.N σ b with
          | some w =>
            have h1 := cellK hok un.frzs b w qq
            rw [hobs b (inC qq)] at e
            cases e; exact h1
          | none => exact un.keep b o e (by rw [exC_none qq]; exact n) hb hx
        · exact un.slot b o e (by rw [exC_out (fun z => nfr b z hb)]; exact n) hb hx
        · by_cases z : InC X.env.cells b
          · exact delC_in z
          · rw [delC_out z]; exact un.free b o e (by rw [exC_out z]; exact n) hx
        · rw [delC_out (C.out e)]; exact un.tups b xs (C.same _ _ e)
        · rw [delC_out (C.out e)]; exact un.frzs b o x (C.same _ _ e)
        · rw [delC_out (C.out e)]; exact un.tbls b ps (C.same _ _ e)
      exact I.after ⟨v, delC X.env.cells H', os, bare, un2, hokD hok un.frzs (fun b o e n => un.free b o e n (by simp)), rv, q fun b z n => un.free b _ (hobs b z) n (by simp)⟩
    | next => exact False.elim hq
    | brk => exact False.elim hq
    | cont => exact False.elim hq
  | error e =>
    obtain ⟨a, B, H', cls, d, ea, fl, hok, ub, na, os, bare, q⟩ := (show L2.CX X.prog X.w X.stack (exC X.env.cells X.env.scope X.N σ obs H) s _ e s' from hq)
    have ub2 : UB (frs X.stack) H (delC X.env.cells H') s.heap B s'.heap := by
      refine ⟨fun b o e n hb => ?_, ub.slot, fun b o e n => ?_, ub.there, fun b xs e => ?_, fun b o x e => ?_, fun b ps e => ?_⟩
      · cases qq : cellV X.env.cells X.env.scope X.N σ b with
        | some w =>
          have h1 := cellK hok ub.frzs b w qq
          rw [hobs b (inC qq)] at e
          cases e; exact h1
        | none => exact ub.keep b o e (by rw [exC_none qq]; exact n) hb
      · by_cases z : InC X.env.cells b
        · exact delC_in z
        · rw [delC_out z]; exact ub.free b o e (by rw [exC_out z]; exact n)
      · rw [delC_out (C.out e)]; exact ub.tups b xs (C.same _ _ e)
      · rw [delC_out (C.out e)]; exact ub.frzs b o x (C.same _ _ e)
      · rw [delC_out (C.out e)]; exact ub.tbls b ps (C.same _ _ e)
    refine hx pins σ H s e s' I ⟨a, B, delC X.env.cells H', cls, d, ea, fl, hokD hok ub.frzs (fun b o e n => ub.free b o e n), ub2, ?_, os, bare, q fun b z n => ub.free b _ (hobs b z) n⟩
    by_cases z : InC X.env.cells a
    · exact delC_in z
    · rw [delC_out z]; exact na
theorem run_expU {Q : VK} {E : XK} {c : Code} (I : Inv X pins σ H s) (nd : X.N.Nodup) (hfn : ∀ y c, X.env.cells.lookup y = some c → X.fn y = true) (hx : Passes (L2.CX X.prog X.w) X E)
    (h : ∀ obs, Env0 X.prog X.w X.K X.mg X.base X.A X.stack s (exC X.env.cells X.env.scope X.N σ obs H) → codeAny (model X.prog X.w) X.A c (CR (L2.CX X.prog X.w) X.stack X.prog X.w (exC X.env.cells X.env.scope X.N σ obs H) s (fun v H' => (∀ b, InC X.env.cells b → exC X.env.cells X.env.scope X.N σ obs H b = none → H' b = none) → Q v (delC X.env.cells H')) (fun cls d H' => (∀ b, InC X.env.cells b → exC X.env.cells X.env.scope X.N σ obs H b = none → H' b = none) → E cls d (delC X.env.cells H'))) s) :
    codeAny (model X.prog X.w) X.A c (fun r s' => match r with
      | .ok (.ret u) => EP X pins σ Q u s'
      | .ok _ => False
      | .error e => X.xe e s') s := run_expUO I nd (out_own I hfn) hx h
end
def tCallXU (cm : List (Str × Addr)) (sc : Scope) (N : List Str) (sp : Sp) (dvs : List V) (E : XK) (t : TA) : TE := fun σ H Q => t σ H fun vs H1 => CEnv cm sc N H1 → ∀ obs, sp (vs ++ dvs) (exC cm sc N σ obs H1) (fun v H' => (∀ b, InC cm b → exC cm sc N σ obs H1 b = none → H' b = none) → Q v (delC cm H')) (fun cls d H' => (∀ b, InC cm b → exC cm sc N σ obs H1 b = none → H' b = none) → E cls d (delC cm H'))
section
variable {X : Cx} {k : Nat} {x : Str} {ps : List Str} {dvs : List V} {sp : Sp} {E : XK} {p pos : Pos} {e : Expr} {es : List Expr} {t : TA}
theorem pe_callXU (G : Glob X.prog X.w X.K X.mg X.base (L2.CX X.prog X.w) k x ps dvs sp) (hr : Room k X.A) (hg : Gl X x) (hx : Passes (L2.CX X.prog X.w) X E) (nd : X.N.Nodup) (hfn : ∀ y c, X.env.cells.lookup y = some c → X.fn y = true) (ha : PA X (e :: es) t)
    (hdb : (x == ("__debug__" : Str)) = false := by decide) (he : starEach (e :: es) X.env = (false, eval e X.env) :: starEach es X.env := by rfl) (hpl : (backTo pos (starEach es X.env)).any (·.1) = false := by rfl) :
    PE X (.Call (.Name x p) (e :: es) [] pos) (tCallXU X.env.cells X.env.scope X.N sp dvs E t) := by
  refine ⟨fun pins s σ H Q I h => ?_⟩
  obtain ⟨f, fd, ds, F, hm, kp, vd, hb⟩ := G.ex
  refine wpAny_Call_Name_kw (ld_glob I hg hm ?_ hdb)
  refine PySem.W.callWith_K (h₀ := X.base) I.ok.mod.kin kp (thn (ha.run pos pins s σ H _ I h) fun us s1 ⟨vs, H1, I1, r, q⟩ => ⟨I1.kIn, ?_⟩) he hpl
  refine wpAny_call (codeAny_mono (run_expU (Q := Q) (E := E) I1 nd hfn hx fun obs e0 => ?_) fun r s' hq => ?_)
  · have r2 : Vals (vs ++ dvs) (us ++ ds) := r.append vd
    have q2 := q (cenv_of I1 nd) obs
    have hl : (us ++ ds).length = ps.length := by rw [← r2.length]; exact F.len _ _ _ _ q2
    exact F.run X.A X.stack s1 _ ⟨us, []⟩ (us ++ ds) (vs ++ dvs) _ _ hr e0 (hb s1 us I1.kIn hl) r2 q2
  · cases r with
    | error e => exact hq
    | ok fl =>
      cases fl with
      | ret u => exact hq
      | next => exact False.elim hq
      | brk => exact False.elim hq
      | cont => exact False.elim hq
end
theorem lookup_filter {p : Str × Addr → Bool} {y : Str} {b : Addr} : ∀ {l : List (Str × Addr)}, l.lookup y = some b → p (y, b) = true → (l.filter p).lookup y = some b
  | (x, a) :: r, h, hp => by
    by_cases e : y = x
    · subst e
      rw [List.lookup_cons_self] at h
      cases h
      rw [List.filter_cons_of_pos hp, List.lookup_cons_self]
    · have e' : (y == x) = false := beq_eq_false_iff_ne.mpr e
      rw [List.lookup_cons, e'] at h
      have ih := lookup_filter h hp
      by_cases hq : p (x, a) = true
      · rw [List.filter_cons_of_pos hq, List.lookup_cons, e']; exact ih
      · rw [List.filter_cons_of_neg hq]; exact ih
/-! ### a lambda called while the frame that made it runs: its body over the heap without cells -/
/-- Hl: the heap behind the call, H' behind the body -/
def OutC (cm : List (Str × Addr)) (X1 Hl H' : Hp) : Prop := ∀ b o, H' b = some o → Hl b = some o ∧ (InC cm b → X1 b = none)
theorem OutC.same {cm : List (Str × Addr)} {X1 Hl H' H2 : Hp} (h : OutC cm X1 Hl H') (s : Same Hl H2) (u : ∀ b, InC cm b → X1 b = none → H2 b = none) : Same H' (delC cm H2) := fun b o e => by
  obtain ⟨h1, h2⟩ := h b o e
  have := s _ _ h1
  rw [delC_out (fun z => by rw [u b z (h2 z)] at this; cases this)]
  exact this
theorem lam_all {P : Program} {w : World} {K : PySem.W.Frag} {mg : Str → Option Value} {base : Heap} {n : Nat} {cm : List (Str × Addr)} {sc : Scope} {N : List Str} {σ : L2.St} {obs : Addr → Obj} {H : Hp} {f : Addr} {L : LF} {fr : List Str} {dvs vs : List V} {spN : List (Option V) → Sp} {ws : List V} {N' ps' : List Str} {R : VK} {RE : XK} (C : CEnv cm sc N H) (hf : H f = some (LamO f L)) (hc : H L.c = some (CodeO L.c L.qual))
    (ac : Act P w K mg base n f (spLam f L fr dvs spN)) (js : List Nat) (hL : L.cl = cloFrom cm L.scope.names []) (hb : ndefB sc L.scope fr = true) (S : NScope N' ps' fr L.scope) (hjs : js.map (fun j => N[j]?) = fr.map some) (hws : js.map (fun j => σ[j]?) = ws.map (fun v => some (some v))) (hdt : DtOk H L.dT dvs)
    (body : ∀ (Q : VK) (E : XK), (∀ v H', R v H' → Q v H') → (∀ c d H', RE c d H' → E c d H') → spN (ws.map some) (vs ++ dvs) H Q E) :
    ∃ sp, Act P w K mg base n f sp ∧ ∀ (Q : VK) (E : XK), (∀ v Hl H', R v H' → OutC cm (exC cm sc N σ obs H) Hl H' → Q v Hl) → (∀ c d Hl H', RE c d H' → OutC cm (exC cm sc N σ obs H) Hl H' → E c d Hl) → sp vs (exC cm sc N σ obs H) Q E := by
  refine ⟨_, ac.framed, fun Q E hq he => ?_⟩
  have caps : CapsAt L.cl fr ws (exC cm sc N σ obs H) := by rw [hL]; exact C.caps hb S.free hjs hws (fun a o h _ => h)
  have hcm : ∀ b, InC L.cl b → InC cm b := fun b ⟨y, e⟩ => ⟨y, by rw [hL] at e; exact clo_sub C hb y b e⟩
  generalize hX : exC cm sc N σ obs H = X1 at caps hq he
  open Classical in
  obtain ⟨cl2, h2⟩ : ∃ cl2 : List (Str × Addr), ∀ b, InC cl2 b ↔ (InC cm b ∧ (∃ v, IsC X1 b v) ∧ ¬ InC L.cl b) := by
    refine ⟨cm.filter fun x => decide (InC cm x.2 ∧ (∃ v, IsC X1 x.2 v) ∧ ¬ InC L.cl x.2), fun b => ⟨fun ⟨y, e⟩ => ?_, fun h => ?_⟩⟩
    · obtain ⟨m1, m2⟩ := List.mem_filter.mp (PySem.mem_of_lookup e)
      exact of_decide_eq_true m2
    · obtain ⟨y, e⟩ := h.1
      exact ⟨y, lookup_filter e (decide_eq_true h)⟩
  have nz2 : ∀ b, InC L.cl b → ¬ InC cl2 b := fun b z y => ((h2 b).mp y).2.2 z
  have nH : ∀ {b o}, H b = some o → ¬ InC cm b := fun {b o} h => C.out h
  have eH : delC L.cl (delC cl2 X1) = H := funext fun b => by
    by_cases z : InC L.cl b
    · rw [delC_in z, C.free b (hcm b z)]
    · rw [delC_out z]
      by_cases z2 : InC cl2 b
      · rw [delC_in z2, C.free b ((h2 b).mp z2).1]
      · rw [delC_out z2, ← hX]
        by_cases z3 : InC cm b
        · cases e : cellV cm sc N σ b with
          | none => rw [exC_none e]
          | some v => exact absurd ((h2 b).mpr ⟨z3, ⟨v, obs b, by rw [← hX, exC_some e]⟩, z⟩) z2
        · rw [exC_out z3]
  have sX : Same H X1 := hX ▸ C.same
  have atX : ∀ {b o}, H b = some o → delC cl2 X1 b = some o := fun {b o} h => by rw [delC_out (fun z => nH h ((h2 b).mp z).1)]; exact sX _ _ h
  refine ⟨cl2, ⟨fun a z => ((h2 a).mp z).2.1⟩, ws, atX hf, atX hc, caps.mono fun b z v ⟨ob, e⟩ => ⟨ob, by rw [delC_out (nz2 b z)]; exact e⟩, ?_, ?_⟩
  · unfold DtOk at hdt ⊢
    cases e : L.dT with
    | none => rw [e] at hdt; exact hdt
    | some T => rw [e] at hdt; exact atX hdt
  · rw [eH]
    have fin : ∀ H', (∀ a, InC L.cl a → H' a = none) → (∀ a, InC cl2 a → putC L.cl (delC cl2 X1) H' a = none) → OutC cm X1 (putC cl2 X1 (putC L.cl (delC cl2 X1) H')) H' := fun H' a1 a2 b o e => by
      have z1 : ¬ InC L.cl b := fun z => by rw [a1 b z] at e; cases e
      have z2 : ¬ InC cl2 b := fun z => by have := a2 b z; rw [putC_out z1, e] at this; cases this
      refine ⟨by rw [putC_out z2, putC_out z1]; exact e, fun z => ?_⟩
      cases q : cellV cm sc N σ b with
      | none => rw [← hX, exC_none q]; exact C.free b z
      | some v => exact absurd ((h2 b).mpr ⟨z, ⟨v, obs b, by rw [← hX, exC_some q]⟩, z1⟩) z2
    exact body _ _ (fun v H' r a1 a2 => hq v _ H' r (fin H' a1 a2)) (fun c d H' r a1 a2 => he c d _ H' r (fin H' a1 a2))
end Hk

set_option Elab.async false
set_option linter.all false
set_option maxRecDepth 100000
set_option maxHeartbeats 4000000
/-! list(zip(xs, ys)) of two lists. -/
namespace PySem.F
theorem zip_no_len : typeLookup (.type "zip") "__len__" = pure none := by rw [typeLookup_type, builtinLookup_eq_fast]; kernel_rfl
theorem zip_no_hint : typeLookup (.type "zip") "__length_hint__" = pure none := by rw [typeLookup_type, builtinLookup_eq_fast]; kernel_rfl
end PySem.F
namespace Hk
open PySem PySem.Spec PyProof.Rows L2 PySem.W PySem.Calls
def pr2 (q : V × V) : List V := [q.1, q.2]
section
variable {X : Cx} {pins : List (Addr × Obj)} {σ : L2.St} {z TI TO i1 i2 a b q : Addr} {xs ys : List V} {H1 : Hp} {A1 : Around}
/-- what is known of the zip, between the draws -/
structure ZS (X : Cx) (pins : List (Addr × Obj)) (H : Hp) (h : Heap) (z TI TO i1 i2 a b : Addr) (i : Nat) : Prop where
  zz : (IsZip h z TI TO .none ∧ ∃ x y, IsPair h TO x y) ∨ ∃ T f u, IsZipHeld h z TI TO T f ∧ H T = some (.tup u)
  ti : IsPair h TI (.ref i1) (.ref i2)
  h1 : h.IsListIter i1 a i
  h2 : h.IsListIter i2 b i
  fp : ∀ c ∈ [z, TI, TO, i1, i2], FpOk X pins H c
  lt : ∀ c ∈ [z, TI, TO, i1, i2], c < h.objs.size
theorem fp_up {H : Hp} {c T : Addr} {o : HO} (f : FpOk X pins H c) (n : c ≠ T) : FpOk X pins (upd H T o) c := ⟨by rw [upd_ne n]; exact f.1, f.2⟩
theorem zl_loop {Rs : Result → Shared → Prop} (D : ZipApart z TI TO i1 i2 a b) (hd : A1.in1.handled = none) (hxs : SqL X.K H1 a xs) (hys : SqL X.K H1 b ys) (hle : (xs.zip ys).length < sizeLine)
    (hdone : ∀ ts H s, Inv X pins σ H s → Same H1 H → H q = some (.lst (ts.map V.ref)) → TupsAt H ts ((xs.zip ys).map pr2) → Rs (.ok (.ret .none)) s) :
    ∀ (m i : Nat) (ts : List Addr) (H : Hp) (s : Shared), i + m = (xs.zip ys).length → Inv X pins σ H s → ZS X pins H s.heap z TI TO i1 i2 a b i → Same H1 H → H1 q = none → H q = some (.lst (ts.map V.ref)) → TupsAt H ts (((xs.zip ys).take i).map pr2) →
      codeAny (model X.prog X.w) A1 (.builtin "list.extend.loop" ⟨[.ref q, .ref z, .none], []⟩) Rs s := by
  intro m
  induction m with
  | zero =>
    intro i ts H s hi I Z sH hq0 hq hts
    refine codeAny_builtin PySem.F.entry_extend_loop ?_
    rw [Around.under_plainId PySem.F.plain_extend_loop _]
    show wpAny _ A1.in1 (pyNext (.ref z) >>= _) _ _ s
    obtain ⟨its, rv, p, _⟩ := I.list (sH.seq hxs)
    obtain ⟨its2, rv2, p2, _⟩ := I.list (sH.seq hys)
    have l1 := rv.length
    have l2 := rv2.length
    have hz : (xs.zip ys).length = min xs.length ys.length := List.length_zip
    have he : its.toArray[i]? = none ∨ its2.toArray[i]? = none := by
      by_cases hc : xs.length ≤ ys.length
      · exact .inl (by simp; omega)
      · exact .inr (by simp; omega)
    have hts' : TupsAt H ts ((xs.zip ys).map pr2) := by
      rw [List.take_of_length_le (by omega)] at hts; exact hts
    refine wpAny_bind ?_
    rcases Z.zz with ⟨hz, x0, y0, hTO⟩ | ⟨T, f, u, hz, hT⟩
    · exact wpAny_pyNext_zip_end hd D hz Z.ti hTO Z.h1 Z.h2 p.isList p2.isList he fun h' hk => wpAny_pure (hdone ts H _ (I.turnedL (t' := s.toks) (ch := [z, TI, TO, i1, i2]) (fun c o hb e =>
        hk c o (fun q' => hb (by simp [q'])) (fun q' => hb (by simp [q'])) (fun q' => hb (by simp [q'])) (fun q' => hb (by simp [q'])) e) Z.fp) sH hq hts')
    · obtain ⟨_, _, _, oT, hoT, _⟩ := I.hok T _ hT
      exact wpAny_pyNext_zip_end_held hd D hz hoT Z.ti Z.h1 Z.h2 p.isList p2.isList he fun h' hk => wpAny_pure (hdone ts H _ (I.turnedL (t' := s.toks) (ch := [z, TI, TO, i1, i2]) (fun c o hb e =>
        hk c o (fun q' => hb (by simp [q'])) (fun q' => hb (by simp [q'])) (fun q' => hb (by simp [q'])) e) Z.fp) sH hq hts')
  | succ m ih =>
    intro i ts H s hi I Z sH hq0 hq hts
    refine codeAny_builtin PySem.F.entry_extend_loop ?_
    rw [Around.under_plainId PySem.F.plain_extend_loop _]
    show wpAny _ A1.in1 (pyNext (.ref z) >>= _) _ _ s
    have hsx := sH.seq hxs
    have hsy := sH.seq hys
    obtain ⟨its, rv, p, _⟩ := I.list hsx
    obtain ⟨its2, rv2, p2, _⟩ := I.list hsy
    have hlt : i < (xs.zip ys).length := by omega
    have hpq : (xs.zip ys)[i]? = some (xs.zip ys)[i] := List.getElem?_eq_getElem hlt
    obtain ⟨hx, hy⟩ := List.getElem?_zip_eq_some.mp hpq
    obtain ⟨u, hu, ru⟩ := rv.get hx
    obtain ⟨u2, hu2, ru2⟩ := rv2.get hy
    have nT : H s.heap.objs.size = none := I.hok.fresh (Nat.le_refl _)
    have nqT : q ≠ s.heap.objs.size := ne_of_none hq nT
    have tl : ts.length = i := by
      have := hts.len
      rw [List.length_map, List.length_take] at this
      omega
    /- behind the draw -/
    have fin : ∀ (h' : Heap), IsPair h' s.heap.objs.size u u2 → (∀ c o, c ∉ [z, TI, TO, i1, i2] → s.heap.get? c = some o → h'.get? c = some o) → (∃ T f w, IsZipHeld h' z TI TO T f ∧ (T = s.heap.objs.size ∨ H T = some (.tup w))) → IsPair h' TI (.ref i1) (.ref i2) → h'.IsListIter i1 a (i + 1) → h'.IsListIter i2 b (i + 1) → h'.objs.size = s.heap.objs.size + 1 →
        wpAny (model X.prog X.w) A1.in1 (updateSeq q (·.push (Value.ref s.heap.objs.size)) >>= fun _ => again (.builtin "list.extend.loop" ⟨[.ref q, .ref z, .none], []⟩))
          (fun fin s' => match fin with | .done f => Rs (.ok f) s' | .again c' => c'.quiet = true ∧ codeAny (model X.prog X.w) A1 c' Rs s') (fun e s' => Rs (.error e) s') { s with heap := h' } := by
      intro h' hp' hk hzz hti hh1 hh2 hsz
      have new : ObjOk X.prog X.w (upd H s.heap.objs.size (.tup (pr2 (xs.zip ys)[i]))) h' s.heap.objs.size (.tup (pr2 (xs.zip ys)[i])) :=
        ⟨by show 2 ≤ sizeLine; decide, [u, u2], .cons ru (.cons ru2 .nil), ⟨_, hp', rfl, _, rfl⟩⟩
      have I1 : Inv X pins σ (upd H s.heap.objs.size (.tup (pr2 (xs.zip ys)[i]))) { s with heap := h' } := I.turnedNew (t' := s.toks) (ch := [z, TI, TO, i1, i2]) hk Z.fp (Nat.le_refl _) new
      have hq1 : upd H s.heap.objs.size (.tup (pr2 (xs.zip ys)[i])) q = some (.lst (ts.map V.ref)) := by rw [upd_ne nqT]; exact hq
      obtain ⟨zz, its3, k3, r3, hl3, e3⟩ := I1.lstM hq1
      have hl4 : its3.length = i := by rw [← hl3, List.length_map, tl]
      refine wpAny_bind (wpAny_updateSeq e3 rfl (wpAny_pure ⟨plainId_quiet PySem.F.plain_extend_loop _, ?_⟩) (by rw [List.size_toArray]; omega) (by show (its3.toArray.push _).size ≤ sizeLine + 1; rw [Array.size_push, List.size_toArray]; omega))
      have I2 := I1.lset (f := (·.push (Value.ref s.heap.objs.size))) (its' := its3 ++ [Value.ref s.heap.objs.size]) (ys := ts.map V.ref ++ [V.ref s.heap.objs.size]) (t' := s.toks) hq1 e3 (by simp) (r3.append (.cons rfl .nil)) (by rw [List.length_append, List.length_map, List.length_singleton]; omega)
      have ztl : ∀ c ∈ [z, TI, TO, i1, i2], c ≠ s.heap.objs.size ∧ c ≠ q := fun c hc => ⟨Nat.ne_of_lt (Z.lt c hc), fun e => by rw [← e, (Z.fp c hc).1] at hq; cases hq⟩
      have kq : ∀ c o, c ≠ q → h'.get? c = some o → (h'.update q (Obj.mapSeq (·.push (Value.ref s.heap.objs.size)))).get? c = some o := fun c o hc e => (Heap.get?_update_other h' _ (Ne.symm hc)).trans e
      have eqT : ts.map V.ref ++ [V.ref s.heap.objs.size] = (ts ++ [s.heap.objs.size]).map V.ref := by rw [List.map_append]; rfl
      rw [eqT] at I2
      have sH2 : Same H1 (upd (upd H s.heap.objs.size (.tup (pr2 (xs.zip ys)[i]))) q (.lst ((ts ++ [s.heap.objs.size]).map V.ref))) := same_put (same_put sH (sH.free nT)) hq0
      refine ih (i + 1) (ts ++ [s.heap.objs.size]) _ _ (by omega) I2 ?_ sH2 hq0 upd_same ?_
      · refine ⟨.inr ?_, ?_, hh1.at fun o e => kq _ o (ztl _ (by simp)).2 e, hh2.at fun o e => kq _ o (ztl _ (by simp)).2 e, fun c hc => fp_up (fp_up (Z.fp c hc) (ztl c hc).1) (ztl c hc).2, fun c hc => ?_⟩
        · obtain ⟨T, f, w, e1, e2⟩ := hzz
          rcases e2 with e2 | e2
          · refine ⟨T, f, pr2 (xs.zip ys)[i], kq _ _ (ztl z (by simp)).2 e1, ?_⟩
            rw [e2, upd_ne nqT.symm]; exact upd_same
          · refine ⟨T, f, w, kq _ _ (ztl z (by simp)).2 e1, ?_⟩
            have n1 : T ≠ s.heap.objs.size := ne_of_none e2 nT
            have n2 : T ≠ q := ne_of e2 hq (fun z => by cases z)
            rw [upd_ne n2, upd_ne n1]; exact e2
        · exact kq _ _ (ztl TI (by simp)).2 hti
        · show c < (h'.update q _).objs.size
          rw [Heap.size_update, hsz]
          exact Nat.lt_succ_of_lt (Z.lt c hc)
      · have et : ((xs.zip ys).take (i + 1)).map pr2 = ((xs.zip ys).take i).map pr2 ++ [pr2 (xs.zip ys)[i]] := by rw [List.take_add_one, hpq, List.map_append]; rfl
        have hn : upd (upd H s.heap.objs.size (.tup (pr2 (xs.zip ys)[i]))) q (.lst ((ts ++ [s.heap.objs.size]).map V.ref)) s.heap.objs.size = some (.tup (pr2 (xs.zip ys)[i])) := by rw [upd_ne nqT.symm]; exact upd_same
        rw [et]
        refine TupsAt.snoc hn (hts.mono fun t x e => ?_)
        have n1 : t ≠ s.heap.objs.size := ne_of_none e nT
        have n2 : t ≠ q := ne_of e hq (fun z => by cases z)
        rw [upd_ne n2, upd_ne n1]; exact e
    refine wpAny_bind ?_
    rcases Z.zz with ⟨hz, x0, y0, hTO⟩ | ⟨T, f, w, hz, hT⟩
    · refine wpAny_pyNext_zip_item D hz Z.ti hTO Z.h1 Z.h2 p.isList p2.isList (x := u) (y := u2) (by simpa using hu) (by simpa using hu2) fun h' z' TO' h1' h2' hT' hsz hk => ?_
      exact fin h' hT' (fun c o hb e => hk c o (fun q' => hb (by simp [q'])) (fun q' => hb (by simp [q'])) (fun q' => hb (by simp [q'])) (fun q' => hb (by simp [q'])) e) ⟨s.heap.objs.size, false, [], z', .inl rfl⟩ (hk _ _ D.TIz D.TITO D.TIi1 D.TIi2 Z.ti) h1' h2' hsz
    · obtain ⟨_, _, _, oT, hoT, _⟩ := I.hok T _ hT
      refine wpAny_pyNext_zip_item_held D hz hoT Z.ti Z.h1 Z.h2 p.isList p2.isList (x := u) (y := u2) (by simpa using hu) (by simpa using hu2) fun h' z' h1' h2' hT' hsz hk => ?_
      exact fin h' hT' (fun c o hb e => hk c o (fun q' => hb (by simp [q'])) (fun q' => hb (by simp [q'])) (fun q' => hb (by simp [q'])) e) ⟨T, true, w, z', .inr hT⟩ (hk _ _ D.TIz D.TIi1 D.TIi2 Z.ti) h1' h2' hsz
/-- list(z), z a zip just made -/
theorem zl_list {Q : VK} {H : Hp} {s : Shared} (hc : X.calm = true) (D : ZipApart z TI TO i1 i2 a b) (I : Inv X pins σ H s) (Z : ZS X pins H s.heap z TI TO i1 i2 a b 0) (hz0 : IsZip s.heap z TI TO .none) (hxs : SqL X.K H a xs) (hys : SqL X.K H b ys) (hle : (xs.zip ys).length < sizeLine)
    (h : ∀ q ts H', H q = none → Same H H' → H' q = some (.lst (ts.map V.ref)) → TupsAt H' ts ((xs.zip ys).map pr2) → Q (.ref q) H') :
    wpAny (model X.prog X.w) X.A (call (.type "list") [.ref z]) (EP X pins σ Q) X.xe s := by
  have hd0 : X.A.handled = none := I.ok.hd hc
  refine callType_codes (Q₁ := fun obj s₁ => obj = .ref s.heap.objs.size ∧ s₁ = { s with heap := s.heap.push { cls := .type "list", data := .seq #[] } }) PySem.F.called_list (PySem.F.typeCall_list_1 _) PySem.F.entry_list_init
    (code_list_new _ ⟨rfl, rfl⟩) fun obj s₁ h₁ => ?_
  obtain ⟨rfl, rfl⟩ := h₁
  have hS : (s.heap.push { cls := .type "list", data := .seq #[] }).get? s.heap.objs.size = some { cls := .type "list", data := .seq #[] } := Heap.get?_push_size _ rfl
  refine ⟨⟨_, hS, rfl⟩, PySem.F.args_list_init_2 _ _, ?_⟩
  have fr : H s.heap.objs.size = none := I.hok.fresh (Nat.le_refl _)
  have I1 : Inv X pins σ (upd H s.heap.objs.size (.lst [])) { s with heap := s.heap.push { cls := .type "list", data := .seq #[] } } := I.lnew (its := []) (t' := s.toks) .nil (Nat.zero_le _)
  show wpAny _ _ (do let old ← Builtin.List.listItems (.ref s.heap.objs.size); Builtin.List.listUpdate (.ref s.heap.objs.size) (fun _ => #[]); letGo old.toList.reverse; Builtin.List.listExtendWith (.ref s.heap.objs.size) (.ref z) .none) _ _ _
  refine wpAny_bind ?_
  unfold Builtin.List.listItems
  refine wpAny_bind (wpAny_seqItems hS rfl (wpAny_pure ?_))
  show wpAny _ _ (updateSeq s.heap.objs.size (fun _ => #[]) >>= fun _ => letGo (#[] : Array Value).toList.reverse >>= fun _ => Builtin.List.listExtendWith (.ref s.heap.objs.size) (.ref z) .none) _ _ _
  refine wpAny_bind (wpAny_updateSeq hS rfl ?_)
  have I2 := I1.lset (f := fun _ => #[]) (its := []) (its' := []) (ys := []) (t' := s.toks) upd_same hS rfl .nil (Nat.zero_le _)
  rw [upd_upd] at I2
  refine wpAny_bind (wpAny_letGo ?_)
  have nzS : s.heap.objs.size ≠ z := Nat.ne_of_gt (Z.lt z (by simp))
  have nS : ∀ c ∈ [z, TI, TO, i1, i2], c ≠ s.heap.objs.size := fun c hc => Nat.ne_of_lt (Z.lt c hc)
  have sH : Same H (upd H s.heap.objs.size (.lst [])) := same_put (Same.refl _) fr
  generalize hs2 : ({ s with heap := (s.heap.push { cls := .type "list", data := .seq #[] }).update s.heap.objs.size (Obj.mapSeq fun _ => (#[] : Array Value)) } : Shared) = s2
  have kz : ∀ c o, c ≠ s.heap.objs.size → s.heap.get? c = some o → s2.heap.get? c = some o := fun c o hc e => by
    rw [← hs2]
    exact (Heap.get?_update_other _ _ (Ne.symm hc)).trans (Heap.get?_push_of_some _ e)
  have I2' : Inv X pins σ (upd H s.heap.objs.size (.lst [])) s2 := by rw [← hs2]; exact I2
  have sz2 : s2.heap.objs.size = s.heap.objs.size + 1 := by rw [← hs2]; show (Heap.update _ _ _).objs.size = _; rw [Heap.size_update, Heap.size_push]
  have hz2 : IsZip s2.heap z TI TO .none := kz _ _ (nS z (by simp)) hz0
  have hTy : s2.TypeIs (.ref z) "zip" := ⟨_, hz2, rfl⟩
  clear hs2 I2 I1
  unfold Builtin.List.listExtendWith
  refine wpAny_bind (wpAny_typeOf hTy ?_)
  have h1 : Builtin.List.listSameRef (.ref s.heap.objs.size) (.ref z) = false := by simp [Builtin.List.listSameRef, nzS]
  have h2 : (Value.type "zip" == Value.type "list") = false := by decide
  have h3 : (Value.type "zip" == Value.type "tuple") = false := by decide
  simp only [h1, h2, h3, Bool.or_false, Bool.false_eq_true, if_false]
  refine wpAny_bind (wpAny_pyIter_zip hz2 ?_)
  refine wpAny_bind (wpAny_holding ?_)
  unfold Builtin.List.listLengthHint
  refine wpAny_bind (wpAny_specialOf hTy PySem.F.zip_no_len ?_)
  show wpAny _ _ (specialOf (Value.ref z) (Str.ofString "__length_hint__") >>= _) _ _ _
  refine wpAny_bind (wpAny_specialOf hTy PySem.F.zip_no_hint ?_)
  refine wpAny_pure ?_
  show wpAny _ _ (rule "list.extend.makes-room" >>= fun _ => Builtin.List.listTouch (.ref s.heap.objs.size) >>= fun _ =>
    again (.builtin "list.extend.loop" ⟨[.ref s.heap.objs.size, .ref z, .none], []⟩)) _ _ _
  refine wpAny_bind (wpAny_rule ?_)
  refine wpAny_bind ?_
  show wpAny _ _ (updateSeq s.heap.objs.size (·.push .none) >>= fun _ => updateSeq s.heap.objs.size (·.pop)) _ _ _
  obtain ⟨z3, its3, k3, r3, hl3, e3⟩ := I2'.lstM upd_same
  cases r3
  refine wpAny_bind (wpAny_updateSeq e3 rfl ?_)
  have I3 := I2'.lset (f := (·.push Value.none)) (its' := [Value.none]) (ys := [.non]) (t' := s2.toks) upd_same e3 (by simp) (.cons rfl .nil) (by rw [List.length_singleton, sizeLine_eq]; decide)
  rw [upd_upd] at I3
  obtain ⟨z4, its4, k4, r4, hl4, e4⟩ := I3.lstM upd_same
  obtain ⟨u4, rfl, ru4⟩ := r4.one
  refine wpAny_updateSeq e4 rfl ?_ (by show 1 ≤ sizeLine; rw [sizeLine_eq]; decide) (by show 0 ≤ sizeLine + 1; exact Nat.zero_le _)
  have I4 := I3.lset (f := (·.pop)) (its := [u4]) (its' := []) (ys := []) (t' := s2.toks) upd_same e4 (by rfl) .nil (Nat.zero_le _)
  rw [upd_upd] at I4
  have kz2 : ∀ c o, c ≠ s.heap.objs.size → s.heap.get? c = some o → ((s2.heap.update s.heap.objs.size (Obj.mapSeq (·.push Value.none))).update s.heap.objs.size (Obj.mapSeq (·.pop))).get? c = some o := fun c o hc e =>
    (Heap.get?_update_other _ _ (Ne.symm hc)).trans ((Heap.get?_update_other _ _ (Ne.symm hc)).trans (kz c o hc e))
  have hTO : ∃ x y, IsPair s.heap TO x y := by
    rcases Z.zz with ⟨_, h⟩ | ⟨T, f, u, h1, _⟩
    · exact h
    · have e := (show s.heap.get? z = _ from hz0).symm.trans (show s.heap.get? z = _ from h1)
      simp [rawInt] at e
  obtain ⟨x0, y0, hTO⟩ := hTO
  refine wpAny_pure ⟨plainId_quiet PySem.F.plain_extend_loop _, ?_⟩
  refine zl_loop (A1 := X.A.in1) (q := s.heap.objs.size) (H1 := H) (xs := xs) (ys := ys) D hd0 hxs hys hle (fun ts H' s' I' sH' hq' ht' => ⟨rfl, .ref s.heap.objs.size, H', I', rfl, h _ ts H' fr sH' hq' ht'⟩) (xs.zip ys).length 0 [] _ _ (Nat.zero_add _) I4 ?_ sH fr upd_same trivial
  refine ⟨.inl ⟨kz2 _ _ (nS z (by simp)) hz0, x0, y0, kz2 _ _ (nS TO (by simp)) hTO⟩, kz2 _ _ (nS TI (by simp)) Z.ti, Z.h1.at fun o e => kz2 _ o (nS i1 (by simp)) e, Z.h2.at fun o e => kz2 _ o (nS i2 (by simp)) e, fun c hc => fp_up (Z.fp c hc) (nS c hc), fun c hc => ?_⟩
  show c < (Heap.update _ _ _).objs.size
  rw [Heap.size_update, Heap.size_update, sz2]
  exact Nat.lt_succ_of_lt (Z.lt c hc)
end
/-- list(zip(e, e2)) -/
def tListZip (K : PySem.W.Frag) (ta : TA) : TE := fun σ H Q => ta σ H fun vs H1 => ∃ a b xs ys, vs = [.ref a, .ref b] ∧ SqL K H1 a xs ∧ SqL K H1 b ys ∧ (xs.zip ys).length < sizeLine ∧
  ∀ q ts H', H1 q = none → Same H1 H' → H' q = some (.lst (ts.map V.ref)) → TupsAt H' ts ((xs.zip ys).map pr2) → Q (.ref q) H'
theorem pe_listZip {X : Cx} {K : PySem.W.Frag} {e e2 : Expr} {ta : TA} {p pos p' pos' : Pos} (hK : X.K = K) (hc : X.calm = true) (hgl : Gl X "list") (hml : X.mg "list" = none) (hg : Gl X "zip") (hm : X.mg "zip" = none) (ha : PA X [e, e2] ta)
    (hs : starEach [e, e2] X.env = (false, eval e X.env) :: starEach [e2] X.env := by rfl) (hpl : (backTo pos (starEach [e2] X.env)).any (·.1) = false := by rfl)
    (hs2 : starEach [.Call (.Name "zip" p) [e, e2] [] pos] X.env = [(false, eval (.Call (.Name "zip" p) [e, e2] [] pos) X.env)] := by rfl) :
    PE X (.Call (.Name "list" p') [.Call (.Name "zip" p) [e, e2] [] pos] [] pos') (tListZip K ta) := by
  subst hK
  refine ⟨fun pins s σ H Q I h => ?_⟩
  have hbl : bootBuiltins (Str.ofString "list") = some (.type "list") := by decide +kernel
  refine wpAny_Call_Name_kw (ld_blt I hgl hml hbl (PyProof.Rows.callWith_type1 (rest := []) ?_ hs2 rfl))
  rw [hs2]
  show wpAny _ _ (spliced [(false, eval (.Call (.Name "zip" p) [e, e2] [] pos) X.env)]) _ _ _
  refine spliced_cons ?_
  refine Call_ (ld_blt I hg hm PyProof.Rows.boot_zip (PyProof.Rows.callWith_type1 (thn (ha.run pos pins s σ H _ I h) fun us s1 ⟨vs, H1, I1, r1, q1⟩ => ?_) hs hpl))
  obtain ⟨a, b, xs, ys, ex, hqx, hqy, hle, q⟩ := q1
  subst ex
  cases r1 with
  | cons r rr =>
    cases rr with
    | cons r' rr =>
      cases rr
      cases r
      cases r'
      obtain ⟨its, rv, p1, _⟩ := I1.list hqx
      obtain ⟨its2, rv2, p2, _⟩ := I1.list hqy
      have la : a < s1.heap.objs.size := p1.lt
      have lb : b < s1.heap.objs.size := p2.lt
      refine call_zip_2 p1.isList p2.isList fun h' hz hTI hTO h1 h2 hsz hk => ?_
      have I2 : Inv X pins σ H1 { s1 with heap := h' } := I1.kept (t' := s1.toks) hk
      refine spliced_nil ?_
      refine zl_list (z := s1.heap.objs.size + 4) (TI := s1.heap.objs.size + 2) (TO := s1.heap.objs.size + 3) (i1 := s1.heap.objs.size) (i2 := s1.heap.objs.size + 1) hc (PySem.W.ktu_apart s1.heap.objs.size a b la lb) I2 ⟨.inl ⟨hz, _, _, hTO⟩, hTI, h1, h2, fun c hcm => ?_, fun c hcm => ?_⟩ hz hqx hqy hle q
      · have e' : c = s1.heap.objs.size + 4 ∨ c = s1.heap.objs.size + 2 ∨ c = s1.heap.objs.size + 3 ∨ c = s1.heap.objs.size ∨ c = s1.heap.objs.size + 1 := by simpa using hcm
        have hle : s1.heap.objs.size ≤ c := by
          rcases e' with z | z | z | z | z <;> rw [z] <;> first | exact Nat.le_add_right _ _ | exact Nat.le_refl _
        exact I1.fpOk hle (I1.hok.fresh hle)
      · have e' : c = s1.heap.objs.size + 4 ∨ c = s1.heap.objs.size + 2 ∨ c = s1.heap.objs.size + 3 ∨ c = s1.heap.objs.size ∨ c = s1.heap.objs.size + 1 := by simpa using hcm
        show c < h'.objs.size
        rw [hsz]
        rcases e' with z | z | z | z | z <;> rw [z] <;> exact Nat.lt_of_lt_of_le (Nat.lt_succ_self _) (by omega)
end Hk

set_option Elab.async false
set_option linter.all false
set_option maxRecDepth 100000
set_option maxHeartbeats 4000000
/-! sorted(xs, key=f), f a function value; its keys ints or pairs of ints.
The proofs of the end are those of KE.SortKeyed, turned from its frame to Inv. -/
namespace Hk
open PySem PySem.Spec PySem.W PyProof.Rows L2
/-- the key y reads as d -/
def KeyV (H : Hp) (y : V) (d : PyData) : Prop := (∃ n, y = .int n ∧ d = .int n) ∨ ∃ t i j, y = .ref t ∧ H t = some (.tup [.int i, .int j]) ∧ d = .tuple [.int i, .int j]
inductive EachV (H : Hp) : List V → List PyData → Prop
  | nil : EachV H [] []
  | cons {y : V} {d : PyData} {ys : List V} {ds : List PyData} : KeyV H y d → EachV H ys ds → EachV H (y :: ys) (d :: ds)
theorem KeyV.mono {H H' : Hp} {y : V} {d : PyData} (h : ∀ t xs, H t = some (.tup xs) → H' t = some (.tup xs)) (k : KeyV H y d) : KeyV H' y d := by
  rcases k with k | ⟨t, i, j, e, ht, ed⟩
  · exact .inl k
  · exact .inr ⟨t, i, j, e, h _ _ ht, ed⟩
theorem EachV.mono {H H' : Hp} (h : ∀ t xs, H t = some (.tup xs) → H' t = some (.tup xs)) : ∀ {ys : List V} {ds : List PyData}, EachV H ys ds → EachV H' ys ds
  | _, _, .nil => .nil
  | _, _, .cons k r => .cons (k.mono h) (r.mono h)
theorem EachV.snoc {H : Hp} {y : V} {d : PyData} (k : KeyV H y d) : ∀ {ys : List V} {ds : List PyData}, EachV H ys ds → EachV H (ys ++ [y]) (ds ++ [d])
  | _, _, .nil => .cons k .nil
  | _, _, .cons k' r => .cons k' (r.snoc k)
theorem EachV.length {H : Hp} : ∀ {ys : List V} {ds : List PyData}, EachV H ys ds → ys.length = ds.length
  | _, _, .nil => rfl
  | _, _, .cons _ r => by rw [List.length_cons, List.length_cons, r.length]
theorem each_vals : ∀ {us : List Value} {xs : List V}, EachIs (fun u x => RelV x u) us xs → Vals xs us
  | _, _, .nil => .nil
  | _, _, .cons r t => .cons r (each_vals t)
theorem vals_each : ∀ {us : List Value} {xs : List V}, Vals xs us → EachIs (fun u x => RelV x u) us xs
  | _, _, .nil => .nil
  | _, _, .cons r t => .cons r (vals_each t)
section
variable {X : Cx} {pins : List (Addr × Obj)} {σ : L2.St} {H : Hp} {s : Shared} {A : Around} {E : Value → Shared → Prop} {a kS : Addr} {b : Bool} {vs : List Value} {e1 : Nat} {P : PySem.Fin → Shared → Prop} {kvs : List V}
theorem keyV_reads (I : Inv X pins σ H s) {y : V} {d : PyData} {u : Value} (k : KeyV H y d) (r : RelV y u) : ∃ as, Reads s.heap u d as := by
  rcases k with ⟨n, rfl, rfl⟩ | ⟨t, i, j, rfl, ht, rfl⟩
  · exact Dp.reads I (.int n) (.int n) u (.int _) r
  · exact Dp.reads I _ _ u (.tup (.of ht) (.cons (.int _) (.cons (.int _) .nil))) r
theorem eachV_reads (I : Inv X pins σ H s) : ∀ {ys : List V} {ds : List PyData} {us : List Value}, EachV H ys ds → Vals ys us → EachIs (fun v d => ∃ as, Reads s.heap v d as) us ds
  | _, _, _, .nil, .nil => .nil
  | _, _, _, .cons k r, .cons q t => .cons (keyV_reads I k q) (eachV_reads I r t)
theorem key_tailI {st : SortSt} {out : List Value} {outV : List V} (I : Inv X pins σ H s) (hk : H kS = some (.lst kvs)) (ha : H a = some (.frz (seqObj "list" #[] e1) (.lst []))) (hn : ∀ o' u', X.H_0 a ≠ some (.frz o' u'))
    (hv : Vals outV out) (hz : out.length ≤ sizeLine) (hfl : failedOf st = none) (ho : (if b = true then ((arrOf st).map (·.2)).reverse else (arrOf st).map (·.2)) = out.toArray)
    (h : ∀ s', Inv X pins σ (upd (upd H kS (.lst [])) a (.lst outV)) s' → P (.done (.ret .none)) s') :
    wpAny (model X.prog X.w) A (ksk_tail a b e1 (.ref kS) st) P E s := by
  have hka : a ≠ kS := fun z => by rw [z, hk] at ha; cases ha
  obtain ⟨zk, kits, nk, rk, lk, ek⟩ := I.lstM hk
  have I1 : Inv X pins σ (upd H kS (.lst [])) { s with heap := s.heap.update kS (Obj.mapSeq fun _ => #[]), toks := s.toks } := I.lset (its' := []) (f := fun _ => #[]) hk ek rfl .nil (Nat.zero_le _)
  have ha1 : upd H kS (.lst []) a = some (.frz (seqObj "list" #[] e1) (.lst [])) := by rw [upd_ne hka]; exact ha
  have ea := (I1.hok a _ ha1).1
  have I2 := I1.unlock ha1 hn
  have I3 := I2.lset (its := []) (its' := out) (f := fun _ => out.toArray) (t' := s.toks) upd_same ea rfl hv (by rw [hv.length]; exact hz)
  rw [upd_upd] at I3
  have hz2 : out.toArray.size ≤ sizeLine + 1 := by
    rw [List.size_toArray]
    exact Nat.le_succ_of_le hz
  unfold ksk_tail
  try dsimp only
  rw [ho]
  refine wpAny_bind (listUpdate_at ek rfl ?_ (by rw [List.size_toArray, ← lk]; exact zk) (Nat.zero_le _))
  refine wpAny_bind (wpAny_letGo ?_)
  refine wpAny_bind (seqEpoch_at ea rfl ?_)
  refine wpAny_bind (listUpdate_at ea rfl ?_ (Nat.zero_le _) hz2)
  rw [hfl]
  simp only [bne_self_eq_false, Bool.false_eq_true, if_false]
  exact wpAny_pure (h _ I3)
theorem key_endI {κ : PyProof.Rows.KeyKind} {keys : Array Value} {outV : List V} (I : Inv X pins σ H s) (hk : H kS = some (.lst kvs)) (ha : H a = some (.frz (seqObj "list" #[] e1) (.lst []))) (hn : ∀ o' u', X.H_0 a ≠ some (.frz o' u'))
    (S : SortsAt X.prog X.w A s κ keys.toList) (hsz : keys.size = vs.length) (hZ : vs.length ≤ sizeLine) (hv : Vals outV (sortVals κ b keys.toList vs))
    (h : ∀ s', Inv X pins σ (upd (upd H kS (.lst [])) a (.lst outV)) s' → P (.done (.ret .none)) s') :
    wpAny (model X.prog X.w) A (ksk_end a b vs.toArray e1 (.ref kS) keys) P E s := by
  obtain ⟨kd, h1, h2⟩ := S.kind
  have hkl : keys.toList.length = vs.length := by
    rw [Array.length_toList]
    exact hsz
  have hK : PyProof.Rows.KeysOf κ (keys.zip vs.toArray) := keysOf_zip S.keys
  have hol : (sortVals κ b keys.toList vs).length = vs.length := sortVals_length b hkl
  have hstart : (if b = true then (keys.zip vs.toArray).reverse else keys.zip vs.toArray).Perm (keys.zip vs.toArray) := by
    cases b with
    | false => exact Array.Perm.refl _
    | true => exact Array.perm_iff_toList_perm.mpr (by rw [if_pos rfl, Array.toList_reverse]; exact List.reverse_perm _)
  have hss : (if b = true then (keys.zip vs.toArray).reverse else keys.zip vs.toArray).size = vs.length := by rw [hstart.size_eq, Array.size_zip, hsz, List.size_toArray, Nat.min_self]
  have fin : ∀ st' : SortSt, (arrOf st').Perm (if b = true then (keys.zip vs.toArray).reverse else keys.zip vs.toArray) → SortedToK κ (arrOf st') (if b = true then (keys.zip vs.toArray).reverse else keys.zip vs.toArray).size →
      Stable κ (arrOf st') (if b = true then (keys.zip vs.toArray).reverse else keys.zip vs.toArray) → (if b = true then ((arrOf st').map (·.2)).reverse else (arrOf st').map (·.2)) = (sortVals κ b keys.toList vs).toArray := by
    intro st' hp hs ht
    have e := sort_out (rev := b) (keys := keys) (items := vs.toArray) (xs := arrOf st') (κ := κ) hK hp hs ht
    have e' := congrArg List.toArray e
    rw [Array.toArray_toList] at e'
    exact e'
  have step : ∀ t : Sem PySem.Fin, wpAny (model X.prog X.w) A t P E s → wpAny (model X.prog X.w) A (if b = true then (do let _ ← rule "list.sort.reverse"; t) else t) P E s := by
    intro t ht
    split
    · exact wpAny_bind (wpAny_rule ht)
    · exact ht
  unfold ksk_end
  try dsimp only
  refine step _ ?_
  by_cases hl2 : vs.toArray.size < 2
  · rw [if_pos hl2, if_pos hl2]
    refine wpAny_bind (wpAny_pure ?_)
    rw [StateT.run_pure]
    refine wpAny_bind (wpAny_pure ?_)
    try dsimp only
    refine key_tailI (st := SortSt.mk' general' (if b = true then (keys.zip vs.toArray).reverse else keys.zip vs.toArray) #[] 7 none) I hk ha hn hv (by rw [hol]; exact hZ) rfl (fin _ (Array.Perm.refl _) ?_ (Stable.refl _)) h
    intro i j hij hj
    rw [hss] at hj
    rw [List.size_toArray] at hl2
    have : i = j := by omega
    subst this
    exact KeyOrd.kle_refl _
  · rw [if_neg hl2, if_neg hl2]
    rw [List.size_toArray] at hl2
    refine wpAny_bind (h2 (by omega) _ ?_)
    refine wpAny_bind (wpAny_mono (PyProof.Rows.H.wpS_sortRunsSt (κ := κ) (kd := kd) (a₀ := if b = true then (keys.zip vs.toArray).reverse else keys.zip vs.toArray)
      (st := SortSt.mk' kd (if b = true then (keys.zip vs.toArray).reverse else keys.zip vs.toArray) #[] 7 none)
      (Q := fun _ st' => failedOf st' = none ∧ (if b = true then ((arrOf st').map (·.2)).reverse else (arrOf st').map (·.2)) = (sortVals κ b keys.toList vs).toArray)
      h1 (hK.perm hstart) ⟨Array.Perm.refl _, rfl, rfl⟩ rfl (Stable.refl _) (by rw [hss]; omega) fun st' a1 a2 a3 a4 => ⟨a2, fin st' a1 a3 a4⟩) ?_ fun _ _ e => e)
    rintro ⟨⟨⟩, st'⟩ s' ⟨rfl, hf, ho⟩
    try dsimp only at ho ⊢
    exact key_tailI I hk ha hn hv (by rw [hol]; exact hZ) hf ho h
theorem key_restI {f : Value} {xs : List V} {key : V → PyData} (I : Inv X pins σ H s) (hk : H kS = some (.lst [])) (ha : H a = some (.frz (seqObj "list" #[] e1) (.lst []))) (hn : ∀ o' u', X.H_0 a ≠ some (.frz o' u'))
    (rv : Vals xs vs) (hZ : vs.length < sizeLine) (hal : AllAlike (xs.map key)) (hsk : Sortable (xs.map key)) (hu : ∀ d, d ∈ xs.map key → A.units + d.depth < cLine)
    (turn : ∀ x ∈ xs, ∀ (v : Value) (H' : Hp) (s' : Shared), RelV x v → Inv X pins σ H' s' → (∀ b o, b ≠ kS → H b = some o → H' b = some o) →
      wpAny (model X.prog X.w) A (call f [v]) (EP X pins σ fun y H'' => (∀ b o, H' b = some o → H'' b = some o) ∧ KeyV H'' y (key x)) (fun _ _ => False) s')
    (h : ∀ s' H', Inv X pins σ H' s' → (∀ c o, c ≠ kS → c ≠ a → H c = some o → H' c = some o) → H' a = some (.lst (xs.mergeSort (dataLe b key))) → P (.done (.ret .none)) s') :
    wpAny (model X.prog X.w) A (ksk_rest a f b vs.toArray e1 (.ref kS)) P E s := by
  have hxl : xs.length = vs.length := rv.length
  have hka : a ≠ kS := fun z => by rw [z, hk] at ha; cases ha
  unfold ksk_rest
  refine wpAny_bind (wpAny_rule ?_)
  first
    | rw [List.forIn_toArray]
    | (rw [← Array.forIn_toList]; simp only [List.toList_toArray])
    | rw [← Array.forIn_toList]
  refine wpAny_bind (ksk_fold (fun i s' => ∃ (H' : Hp) (kvs : List V), Inv X pins σ H' s' ∧ (∀ b o, b ≠ kS → H b = some o → H' b = some o) ∧ H' kS = some (.lst kvs) ∧ EachV H' kvs ((xs.map key).take i)) vs 0 s
    ⟨H, [], I, fun _ _ _ e => e, hk, by rw [List.take_zero]; exact .nil⟩ ?step ?done)
  case step =>
    rintro j v s' hx ⟨H', kvs, I', kp, hk', hE⟩
    simp only [Nat.zero_add] at hE ⊢
    have hj : j < vs.length := (List.getElem?_eq_some_iff.mp hx).1
    obtain ⟨x, hxj⟩ : ∃ x, xs[j]? = some x := ⟨_, List.getElem?_eq_getElem (by omega)⟩
    obtain ⟨v', hv', rx⟩ := rv.get hxj
    rw [hx] at hv'; cases hv'
    have hkl := hE.length
    rw [List.length_take, List.length_map] at hkl
    refine wpAny_bind (wpAny_attempt (wpAny_mono (turn x (List.mem_of_getElem? hxj) v H' s' rx I' kp) (fun u s'' he => ?_) fun _ _ hF => hF.elim))
    obtain ⟨y, H'', I'', ry, kp2, hy⟩ := he
    try dsimp only
    have hk2 := kp2 _ _ hk'
    obtain ⟨zk, kits, nk, rk, lk, ek⟩ := I''.lstM hk2
    have I3 := I''.lset (its' := kits ++ [u]) (f := (·.push u)) (t' := s''.toks) hk2 ek (by simp) (rk.append (.cons ry .nil)) (by rw [List.length_append, List.length_singleton]; omega)
    refine wpAny_bind (listUpdate_at ek rfl ?_ (by rw [List.size_toArray, ← lk]; exact zk) (by rw [Array.size_push, List.size_toArray, ← lk]; omega))
    have ek2 : (xs.map key).take (j + 1) = (xs.map key).take j ++ [key x] := by rw [List.take_add_one, List.getElem?_map, hxj]; rfl
    have tk : ∀ t zs, H'' t = some (.tup zs) → upd H'' kS (.lst (kvs ++ [y])) t = some (.tup zs) := fun t zs e => by
      rw [upd_ne (fun z => by rw [z, hk2] at e; cases e)]; exact e
    refine wpAny_pure ⟨rfl, _, kvs ++ [y], I3, fun b o nb e => by rw [upd_ne nb]; exact kp2 _ _ (kp _ _ nb e), upd_same, ?_⟩
    rw [ek2]
    exact ((hE.mono fun t zs e => kp2 _ _ e).mono tk).snoc (hy.mono tk)
  case done =>
    rintro s' ⟨H', kvs, I', kp, hk', hE⟩
    have e3 : (xs.map key).take (0 + vs.length) = xs.map key := List.take_of_length_le (by rw [List.length_map]; omega)
    rw [e3] at hE
    obtain ⟨zk, kits, nk, rk, lk, ek⟩ := I'.lstM hk'
    have hkl := hE.length
    rw [List.length_map] at hkl
    have hR := eachV_reads I' hE rk
    try dsimp only
    refine wpAny_bind (listItems_at ek rfl ?_)
    have ha' := kp _ _ hka ha
    have hKO : KeyedOut b (xs.map key) vs (sortVals (dataKind s'.heap (xs.map key)) b kits vs) := ⟨s'.heap, kits, hal, rfl, hR⟩
    have hv : Vals (xs.mergeSort (dataLe b key)) (sortVals (dataKind s'.heap (xs.map key)) b kits vs) := each_vals (keyedOut_each key hKO (vals_each rv))
    refine key_endI (κ := dataKind s'.heap (xs.map key)) (keys := kits.toArray) I' hk' ha' hn (SortsAt.data hR hal hsk hu) (by rw [List.size_toArray]; omega) (Nat.le_of_lt hZ) hv fun s2 I2 => h s2 _ I2 (fun c o n1 n2 e => ?_) upd_same
    rw [upd_ne n2, upd_ne n1]
    exact kp _ _ n1 e
theorem key_treeI {f : Value} {xs : List V} {key : V → PyData} {n : Nat} (I : Inv X pins σ H s) (ha : H a = some (.lst xs)) (ho : s.heap.get? a = some (seqObj "list" vs.toArray n))
    (rv : Vals xs vs) (hZ : vs.length < sizeLine) (hal : AllAlike (xs.map key)) (hsk : Sortable (xs.map key)) (hu : ∀ d, d ∈ xs.map key → A.units + d.depth < cLine)
    (turn : ∀ x ∈ xs, ∀ (v : Value) (H' : Hp) (s' : Shared), RelV x v → Inv X pins σ H' s' → (∀ b o, b ≠ a → H b = some o → H' b = some o) →
      wpAny (model X.prog X.w) A (call f [v]) (EP X pins σ fun y H'' => (∀ b o, H' b = some o → H'' b = some o) ∧ KeyV H'' y (key x)) (fun _ _ => False) s')
    (h : ∀ s' H', Inv X pins σ H' s' → (∀ c o, c ≠ a → H c = some o → H' c = some o) → H' a = some (.lst (xs.mergeSort (dataLe b key))) → P (.done (.ret .none)) s') :
    wpAny (model X.prog X.w) A (ksk_tree a f b) P E s := by
  have I1 : Inv X pins σ (upd H a (.lst [])) { s with heap := s.heap.update a (Obj.mapSeq fun _ => #[]), toks := s.toks } := I.lset (its' := []) (f := fun _ => #[]) ha ho rfl .nil (Nat.zero_le _)
  obtain ⟨e1, ho1⟩ : ∃ e1, (s.heap.update a (Obj.mapSeq fun _ => (#[] : Array Value))).get? a = some (seqObj "list" #[] e1) := ⟨_, get?_update_seq ho fun _ => #[]⟩
  unfold ksk_tree
  refine wpAny_bind (listItems_at ho rfl ?_)
  refine wpAny_bind (listUpdate_at ho rfl ?_ (by rw [List.size_toArray]; exact Nat.le_of_lt hZ) (Nat.zero_le _))
  refine wpAny_bind (seqEpoch_at ho1 rfl ?_)
  refine wpAny_bind (wpAny_newTuple ?_ (by show vs.length ≤ _; exact Nat.le_of_lt hZ))
  refine wpAny_bind (wpAny_newList ?_ (Nat.zero_le _))
  refine wpAny_holding ?_
  have hn1 := I1.nofrz (d := a) (u := .lst []) upd_same trivial
  obtain ⟨od, I2⟩ := I1.lock (d := a) (u := .lst []) upd_same trivial
  rw [upd_upd] at I2
  have eod : od = seqObj "list" #[] e1 := by
    have q := (I2.hok a _ upd_same).1
    have q : (s.heap.update a (Obj.mapSeq fun _ => (#[] : Array Value))).get? a = some od := q
    rw [ho1] at q
    exact (Option.some.inj q).symm
  rw [eod] at I2
  have I3 := I2.kept (t' := s.toks) (h' := (s.heap.update a (Obj.mapSeq fun _ => (#[] : Array Value))).push { cls := .type "tuple", data := .seq vs.toArray }) fun b u e => Heap.get?_push_of_some _ e
  have I4 := I3.laid (t' := s.toks) (a := ((s.heap.update a (Obj.mapSeq fun _ => (#[] : Array Value))).push { cls := .type "tuple", data := .seq vs.toArray }).objs.size) (o := .lst []) (h' := ((s.heap.update a (Obj.mapSeq fun _ => (#[] : Array Value))).push { cls := .type "tuple", data := .seq vs.toArray }).push (seqObj "list" #[] 0)) (fun b u e => Heap.get?_push_of_some _ e) (Nat.le_refl _) ⟨Nat.zero_le _, [], 0, .nil, Heap.get?_push_size _ rfl⟩
  have hfr := I3.hok.fresh (a := ((s.heap.update a (Obj.mapSeq fun _ => (#[] : Array Value))).push { cls := .type "tuple", data := .seq vs.toArray }).objs.size) (Nat.le_refl _)
  generalize ((s.heap.update a (Obj.mapSeq fun _ => (#[] : Array Value))).push { cls := .type "tuple", data := .seq vs.toArray }).objs.size = kS at I4 hfr
  have hka : a ≠ kS := fun z => by rw [← z, upd_same] at hfr; cases hfr
  have nH : ∀ b o, b ≠ a → H b = some o → b ≠ kS := fun b o nb e z => by
    rw [← z, upd_ne nb, e] at hfr; cases hfr
  refine key_restI (kS := kS) (key := key) I4 upd_same (by rw [upd_ne hka, upd_same]) hn1 rv hZ hal hsk hu (fun x hx v H' s' rx I' kp => turn x hx v H' s' rx I' fun b o nb e => kp b o (nH b o nb e) (by rw [upd_ne (nH b o nb e), upd_ne nb]; exact e)) fun s' H' I' kp e => h s' H' I' (fun c o nc e' => kp c o (nH c o nc e') nc (by rw [upd_ne (nH c o nc e'), upd_ne nc]; exact e')) e
end
/-- sorted(xs, key=f) -/
def rSortKey (P : Program) (w : World) (K : PySem.W.Frag) (mg : Str → Option Value) (base : Heap) (k : Nat) : List V → List V → Hp → VK → Prop := fun vs zs H Q => ∃ (l f : Addr) (xs : List V) (sp : Sp) (key : V → PyData), vs = [.ref l] ∧ zs = [.ref f] ∧ SqL K H l xs ∧ xs.length ≤ 100000 ∧ Act P w K mg base k f sp ∧
  ((∀ x ∈ xs, ∃ n, key x = .int n) ∨ ∀ x ∈ xs, ∃ i j, key x = .tuple [.int i, .int j]) ∧
  (∀ x ∈ xs, ∀ (H' : Hp) (Q' : VK), Same H H' → (∀ y H'', Same H' H'' → KeyV H'' y (key x) → Q' y H'') → sp [x] H' Q' fun _ _ _ => False) ∧
  ∀ p H', Same H H' → H p = none → H' p = some (.lst (xs.mergeSort (dataLe false key))) → Q (.ref p) H'
theorem cr_sortKey {X : Cx} {P : Program} {w : World} {K : PySem.W.Frag} {mg : Str → Option Value} {base : Heap} {k : Nat} (hP : X.prog = P) (hw : X.w = w) (hK : X.K = K) (hmg : X.mg = mg) (hb : X.base = base) (hr : Room (k + 2) X.A) (hu : X.A.units + 64 < cLine) :
    CallRK X (.builtin "sorted") [Str.ofString "key"] (rSortKey P w K mg base k) := by
  subst hP hw hK hmg hb
  intro pins s σ H vs zs us ws Q I rv rz h
  obtain ⟨l, f, xs, sp, key, rfl, rfl, hs, hz, ac, hkey, hsp, q⟩ := h
  rw [Vals.ref1 rv, Vals.ref1 rz]
  obtain ⟨its, rx, hl, _⟩ := I.list hs
  have hlen := rx.length
  have hZ : its.length < sizeLine := by rw [← hlen]; exact Nat.lt_of_le_of_lt hz (by decide)
  have hal : AllAlike (xs.map key) := by
    intro d hd d' hd'
    obtain ⟨x, hx, rfl⟩ := List.mem_map.mp hd
    obtain ⟨x', hx', rfl⟩ := List.mem_map.mp hd'
    rcases hkey with hkey | hkey
    · obtain ⟨n, e⟩ := hkey x hx
      obtain ⟨n', e'⟩ := hkey x' hx'
      rw [e, e']; rfl
    · obtain ⟨i, j, e⟩ := hkey x hx
      obtain ⟨i', j', e'⟩ := hkey x' hx'
      rw [e, e']; rfl
  have hsk : PySem.W.Sortable (xs.map key) := by
    rcases hkey with hkey | hkey
    · refine .inr fun d hd => ?_
      obtain ⟨x, hx, rfl⟩ := List.mem_map.mp hd
      obtain ⟨n, e⟩ := hkey x hx
      rw [e]
      exact ⟨(fun z => by cases z), fun xs z => by cases z⟩
    · refine .inl fun d hd => ?_
      obtain ⟨x, hx, rfl⟩ := List.mem_map.mp hd
      obtain ⟨i, j, e⟩ := hkey x hx
      exact ⟨_, _, e⟩
  have hdp : ∀ d, d ∈ xs.map key → X.A.in1.in1.units + d.depth < cLine := fun d hd => by
    obtain ⟨x, hx, rfl⟩ := List.mem_map.mp hd
    show X.A.units + 1 + 1 + _ < _
    rcases hkey with hkey | hkey
    · obtain ⟨n, e⟩ := hkey x hx
      rw [e]; simp only [PyData.depth]; omega
    · obtain ⟨i, j, e⟩ := hkey x hx
      rw [e]; simp only [PyData.depth, PyData.depthAll]; omega
  refine sorted_of_sort hl.isList (Nat.le_of_lt hZ) (ksk_s1 _ _) (fun x => ksk_l1 _ _) fun E' => ?_
  show wpAny _ _ (Builtin.«list.sort» ⟨[.ref (s.heap.objs.size + 1)], [(Str.ofString "key", .ref f)]⟩) _ _ _
  rw [ksk_t1]
  have hfr : H (s.heap.objs.size + 1) = none := I.hok.fresh (Nat.le_succ _)
  have I1 : Inv X pins σ (upd H (s.heap.objs.size + 1) (.lst xs)) { s with heap := copyHeap s.heap its, toks := s.toks } := I.laid (fun _ _ => copyHeap_old) (Nat.le_succ _) ⟨by rw [hlen]; exact Nat.le_of_lt hZ, its, 0, rx, copyHeap_at s.heap its⟩
  refine key_treeI (key := key) I1 upd_same (copyHeap_at s.heap its) rx hZ hal hsk hdp (fun x hx v H' s' rxv I' kp => ?_) fun s' H' I' kp e => ⟨rfl, .ref _, H', I', rfl, q _ H' (fun b o e' => kp b o (ne_of_none e' hfr) (by rw [upd_ne (ne_of_none e' hfr)]; exact e')) hfr e⟩
  have sm : Same H H' := fun b o e' => kp b o (ne_of_none e' hfr) (by rw [upd_ne (ne_of_none e' hfr)]; exact e')
  obtain ⟨_, c⟩ := ac X.A.in1.in1 X.stack s' H' [v] [x] (fun y H'' => (∀ b o, H' b = some o → H'' b = some o) ∧ KeyV H'' y (key x)) (fun _ _ _ => False) hr.in1.in1 I'.env0.in1.in1 (.cons rxv .nil) (hsp x hx H' _ sm fun y H'' s'' hy => ⟨s'', hy⟩)
  refine wpAny_call (codeAny_mono c fun r s2 hq => ?_)
  cases r with
  | error e =>
    obtain ⟨_, _, _, _, _, _, _, _, _, _, _, _, hE⟩ := hq
    exact hE.elim
  | ok fl =>
    cases fl with
    | ret u => exact I'.after hq
    | next => exact False.elim hq
    | brk => exact False.elim hq
    | cont => exact False.elim hq
end Hk

set_option Elab.async false
set_option linter.all false
set_option maxRecDepth 100000
/-! sorted(d), sorted(list of texts), dict(pairs), with K told -/
namespace Hk
open PySem PySem.Spec PyProof.Rows L2
def rSortedD : List V → Hp → VK → Prop := fun xs H Q => ∃ (a : Addr) (kvs : List (Key × V)) (ks : List Str), xs = [.ref a] ∧ Rd H a (.dK kvs) ∧ kvs.map (·.1) = ks.map Sum.inr ∧ ks.length < 64 ∧
    ∀ ys p, ys.Perm ks → sortedS ys = true → H p = none → Q (.ref p) (upd H p (.lst (ys.map V.str)))
theorem cr_sortedD {X : Cx} (hc : X.calm = true) : CallR X (.builtin "sorted") rSortedD := call_sortedD hc
theorem cr_sortedSK {X : Cx} {K : PySem.W.Frag} (hK : X.K = K) : CallR X (.builtin "sorted") (rSortedS K) := by
  subst hK
  exact cr_sortedS
theorem cr_dictP {X : Cx} {K : PySem.W.Frag} (hK : X.K = K) (hc : X.calm = true) : CallR X (.type "dict") (fun xs H Q => ∃ (a : Addr) (ps : List Addr) (kvs : List (Key × V)), xs = [.ref a] ∧ SqL K H a (ps.map V.ref) ∧ Paired (fun p kv => SqT K H p [kV kv.1, kv.2]) ps kvs ∧
  ∀ p, H p = none → Q (.ref p) (upd H p (.dK (mergeK [] kvs)))) := by
  subst hK
  exact call_dictP hc
end Hk

set_option Elab.async false
set_option linter.all false
set_option maxRecDepth 100000
set_option maxHeartbeats 4000000
/-! Methods: calls that are told of the live frame's cells; code that is not reached. -/
namespace Hk
open PySem PySem.Spec PyProof.Rows L2
/-- code that is not reached -/
theorem ps_false {X : Cx} {st : Stmt} : PS X st (fun _ _ _ => False) := ⟨fun pins s σ H D I h => h.elim⟩
theorem pe_false {X : Cx} {e : Expr} : PE X e (fun _ _ _ => False) := ⟨fun pins s σ H Q I h => h.elim⟩
/-- o.m(..), told of the live frame's cells -/
def tMethX (C : Addr) (m : Str) (cm : List (Str × Addr)) (sc : Scope) (N : List Str) (sp : Sp) (dvs : List V) (E : XK) (ta : TE) (t : TA) : TE := fun σ H Q => ta σ H fun x H1 => ∃ a dx fs, x = .ref a ∧ H1 a = some (.ins C dx fs) ∧ fs.lookup m = none ∧
  t σ H1 fun vs H2 => CEnv cm sc N H2 → ∀ obs, sp (.ref a :: vs ++ dvs) (exC cm sc N σ obs H2) (fun v H' => Q v (delC cm H')) (fun cls d H' => E cls d (delC cm H'))
section
variable {X : Cx} {k : Nat} {C f : Addr} {m : Str} {fd : FuncData} {ps : List Str} {ds : List Value} {dvs : List V} {sp : Sp} {E : XK} {apos pos : Pos} {o e : Expr} {es : List Expr} {ta : TE} {t : TA}
theorem pe_methX {pl : Sem Bool} (he : PE X o ta) (c : Cls X.K C) (hm : Meth X.K C m f) (F : FnOk X.prog X.w X.K X.mg X.base (L2.CX X.prog X.w) k f fd ps sp) (hr : Room k X.A) (hb : Binds X.K fd ps ds) (hd : Vals dvs ds) (hx : Passes (L2.CX X.prog X.w) X E) (nd : X.N.Nodup) (hfn : ∀ y c, X.env.cells.lookup y = some c → X.fn y = true) (ha : PA X (e :: es) t)
    (hst : starEach (e :: es) X.env = (false, eval e X.env) :: starEach es X.env := by rfl) (hpl : (backTo pos (starEach es X.env)).any (·.1) = false := by rfl)
    (ht : eval (.Call (.Attribute o m apos) (e :: es) [] pos) X.env = (do
      let ov ← eval o X.env
      standAt apos.atName
      let (f, first) ← holding [ov] (getMethod ov m pl)
      callWith pos f first (backTo pos (starEach (e :: es) X.env)) (backToKw pos (keywordEach [] X.env))) := by rfl) :
    PE X (.Call (.Attribute o m apos) (e :: es) [] pos) (tMethX C m X.env.cells X.env.scope X.N sp dvs E ta t) := by
  refine ⟨fun pins s σ H Q I h => ?_⟩
  refine PySem.W.methodCall_KW (pl := pl) (thn (he.run pins s σ H _ I h) fun u s1 ⟨x, H1, I1, rx, a, dx, fs, ex, ea, l, q⟩ => ?_) ht
  subst ex
  obtain rfl : u = Value.ref a := rx
  refine getmeth_ok I1 ea c hm l ?_
  refine PySem.W.callWith_K (first := [.ref a]) (h₀ := X.base) I.ok.mod.kin hm.kp (thn (ha.run pos pins s1 σ H1 _ I1 q) fun us s2 ⟨vs, H2, I2, r, q2⟩ => ⟨I2.kIn, ?_⟩) hst hpl
  refine wpAny_call (codeAny_mono (run_exp (Q := Q) (E := E) I2 nd hfn hx fun obs e0 => ?_) fun r s' hq => ?_)
  · have r2 : Vals (.ref a :: vs ++ dvs) (.ref a :: us ++ ds) := (L2.Vals.append (.cons rfl r) hd)
    have q3 := q2 (cenv_of I2 nd) obs
    have hl : (Value.ref a :: us ++ ds).length = ps.length := by rw [← r2.length]; exact F.len _ _ _ _ q3
    exact F.run X.A X.stack s2 _ ⟨.ref a :: us, []⟩ (.ref a :: us ++ ds) (.ref a :: vs ++ dvs) _ _ hr e0 (hb s2 (.ref a :: us) I2.kIn hl) r2 q3
  · cases r with
    | error e => exact hq
    | ok fl =>
      cases fl with
      | ret u => exact hq
      | next => exact False.elim hq
      | brk => exact False.elim hq
      | cont => exact False.elim hq
end
/-! ### methods and makers by their promises -/
structure MethG (P : Program) (w : World) (K : PySem.W.Frag) (mg : Str → Option Value) (base : Heap) (CX : CXT) (k : Nat) (C : Addr) (m : Str) (ps : List Str) (dvs : List V) (sp : Sp) : Prop where
  ex : ∃ f fd ds, Cls K C ∧ Meth K C m f ∧ FnOk P w K mg base CX k f fd ps sp ∧ Vals dvs ds ∧ Binds K fd ps ds
structure MakeG (P : Program) (w : World) (K : PySem.W.Frag) (mg : Str → Option Value) (base : Heap) (CX : CXT) (k : Nat) (C : Addr) (ps : List Str) (dvs : List V) (sp : Sp) : Prop where
  ex : ∃ f fd ds, Mk K C f ∧ FnOk P w K mg base CX k f fd ps sp ∧ Vals dvs ds ∧ Binds K fd ps ds
section
variable {X : Cx} {CX : CXT} {k : Nat} {C : Addr} {m x : Str} {ps : List Str} {dvs : List V} {sp : Sp} {E : XK} {apos pos p : Pos} {o e : Expr} {es : List Expr} {ta : TE} {t : TA}
theorem pe_methG {pl : Sem Bool} (he : PE X o ta) (G : MethG X.prog X.w X.K X.mg X.base CX k C m ps dvs sp) (hr : Room k X.A) (hx : Passes CX X E) (ha : PA X (e :: es) t)
    (hst : starEach (e :: es) X.env = (false, eval e X.env) :: starEach es X.env := by rfl) (hpl : (backTo pos (starEach es X.env)).any (·.1) = false := by rfl)
    (ht : eval (.Call (.Attribute o m apos) (e :: es) [] pos) X.env = (do
      let ov ← eval o X.env
      standAt apos.atName
      let (f, first) ← holding [ov] (getMethod ov m pl)
      callWith pos f first (backTo pos (starEach (e :: es) X.env)) (backToKw pos (keywordEach [] X.env))) := by rfl) :
    PE X (.Call (.Attribute o m apos) (e :: es) [] pos) (tMeth C m sp dvs E ta t) := by
  refine ⟨fun pins s σ H Q I h => ?_⟩
  obtain ⟨f, fd, ds, c, hm, F, vd, hb⟩ := G.ex
  exact (pe_meth he c hm F hr hb vd hx ha hst hpl ht).run pins s σ H Q I h
theorem pe_methG0 {pl : Sem Bool} (he : PE X o ta) (G : MethG X.prog X.w X.K X.mg X.base CX k C m ps dvs sp) (hr : Room k X.A) (hx : Passes CX X E)
    (ht : eval (.Call (.Attribute o m apos) [] [] pos) X.env = (do
      let ov ← eval o X.env
      standAt apos.atName
      let (f, first) ← holding [ov] (getMethod ov m pl)
      callWith pos f first (backTo pos (starEach [] X.env)) (backToKw pos (keywordEach [] X.env))) := by rfl) :
    PE X (.Call (.Attribute o m apos) [] [] pos) (tMeth C m sp dvs E ta tNil) := by
  refine ⟨fun pins s σ H Q I h => ?_⟩
  obtain ⟨f, fd, ds, c, hm, F, vd, hb⟩ := G.ex
  exact (pe_meth0 he c hm F hr hb vd hx ht).run pins s σ H Q I h
theorem pe_methXG {pl : Sem Bool} (he : PE X o ta) (G : MethG X.prog X.w X.K X.mg X.base (L2.CX X.prog X.w) k C m ps dvs sp) (hr : Room k X.A) (hx : Passes (L2.CX X.prog X.w) X E) (nd : X.N.Nodup) (hfn : ∀ y c, X.env.cells.lookup y = some c → X.fn y = true) (ha : PA X (e :: es) t)
    (hst : starEach (e :: es) X.env = (false, eval e X.env) :: starEach es X.env := by rfl) (hpl : (backTo pos (starEach es X.env)).any (·.1) = false := by rfl)
    (ht : eval (.Call (.Attribute o m apos) (e :: es) [] pos) X.env = (do
      let ov ← eval o X.env
      standAt apos.atName
      let (f, first) ← holding [ov] (getMethod ov m pl)
      callWith pos f first (backTo pos (starEach (e :: es) X.env)) (backToKw pos (keywordEach [] X.env))) := by rfl) :
    PE X (.Call (.Attribute o m apos) (e :: es) [] pos) (tMethX C m X.env.cells X.env.scope X.N sp dvs E ta t) := by
  refine ⟨fun pins s σ H Q I h => ?_⟩
  obtain ⟨f, fd, ds, c, hm, F, vd, hb⟩ := G.ex
  exact (pe_methX he c hm F hr hb vd hx nd hfn ha hst hpl ht).run pins s σ H Q I h
theorem pe_makeG (G : MakeG X.prog X.w X.K X.mg X.base CX k C ps dvs sp) (hr : Room (k + 1) X.A) (hg : Gl X x) (hm : X.mg x = some (.ref C)) (hx : Passes CX X E) (ha : PA X (e :: es) t) (hdb : (x == ("__debug__" : Str)) = false := by decide)
    (he : starEach (e :: es) X.env = (false, eval e X.env) :: starEach es X.env := by rfl) (hpl : (backTo pos (starEach es X.env)).any (·.1) = false := by rfl) : PE X (.Call (.Name x p) (e :: es) [] pos) (tMake C sp dvs E t) := by
  refine ⟨fun pins s σ H Q I h => ?_⟩
  obtain ⟨f, fd, ds, M, F, vd, hb⟩ := G.ex
  exact (pe_make M F hr hg hm hb vd hx ha hdb he hpl).run pins s σ H Q I h
theorem pe_makeG0 (G : MakeG X.prog X.w X.K X.mg X.base CX k C ps dvs sp) (hr : Room (k + 1) X.A) (hg : Gl X x) (hm : X.mg x = some (.ref C)) (hx : Passes CX X E) (hdb : (x == ("__debug__" : Str)) = false := by decide) :
    PE X (.Call (.Name x p) [] [] pos) (tMake C sp dvs E tNil) := by
  refine ⟨fun pins s σ H Q I h => ?_⟩
  obtain ⟨f, fd, ds, M, F, vd, hb⟩ := G.ex
  exact (pe_make0 M F hr hg hm hb vd hx hdb).run pins s σ H Q I h
end
/-! ### fields of an instance of a class that is known -/
def tFldC (C : Addr) (ta : TE) (f : Str) : TE := fun σ H Q => ta σ H fun x H1 => ∃ a dx fs v, x = .ref a ∧ H1 a = some (.ins C dx fs) ∧ fs.lookup f = some v ∧ Q v H1
def sFldC (C : Addr) (ta tv : TE) (f : Str) : TS := fun D σ H => tv σ H fun y H1 => ta σ H1 fun x H2 => ∃ a dx fs, x = .ref a ∧ H2 a = some (.ins C dx fs) ∧ fs.length < 1000 ∧ D.nx σ (upd H2 a (.ins C dx (putF f y fs)))
def sFldAugC (C : Addr) (ta tv : TE) (rd : V → V → Hp → VK → Prop) (f : Str) : TS := fun D σ H => ta σ H fun x H1 => ∃ a dx fs v, x = .ref a ∧ H1 a = some (.ins C dx fs) ∧ fs.lookup f = some v ∧
  tv σ H1 fun y H2 => rd v y H2 fun z H3 => ∃ dx' fs', H3 a = some (.ins C dx' fs') ∧ fs'.length < 1000 ∧ D.nx σ (upd H3 a (.ins C dx' (putF f z fs')))
section
variable {X : Cx} {K : PySem.W.Frag} {C : Addr} {o e value : Expr} {f : Str} {pos pos' tpos : Pos} {ta tv : TE}
theorem pe_fldC (hK : X.K = K) (he : PE X e ta) (c : Cls K C) (n : NoAttr K C f) (hb : attributeBase e f X.env (eval e X.env) = eval e X.env := by rfl) : PE X (.Attribute e f pos) (tFldC C ta f) := by
  subst hK
  refine ⟨fun pins s σ H Q I h => ?_⟩
  refine attr_of hb (thn (he.run pins s σ H _ I h) fun u s1 ⟨x, H1, I1, rx, a, dx, fs, v, ex, ea, l, q⟩ => ?_)
  subst ex
  obtain rfl : u = Value.ref a := rx
  exact getattr_ok I1 ea c n l fun u' s2 I2 ru => ⟨v, H1, I2, ru, q⟩
theorem ps_fldC (hK : X.K = K) (ha : PE X o ta) (hv : PE X value tv) (c : Cls K C) (n : NoAttr K C f) (hs : swapsWith value (some (.Attribute o f pos')) pos.line X.env = pure false := by rfl) : PS X (.Assign [.Attribute o f pos'] value pos) (sFldC C ta tv f) := by
  subst hK
  refine ⟨fun pins s σ H D I h => ?_⟩
  refine plainObj_wpAny_Assign_Attribute (thn (hv.run pins s σ H _ I h) fun u s1 ⟨y, H1, I1, ry, q⟩ => thn (ha.run pins s1 σ H1 _ I1 q) fun ov s2 ⟨x, H2, I2, rx, a, dx, fs, ex, ea, l, q2⟩ => ?_) hs
  subst ex
  obtain rfl : ov = Value.ref a := rx
  exact setattr_ok I2 ea c n l ry fun s3 I3 => ⟨σ, _, I3, q2⟩
theorem ps_fldaugC {op : Operator} {rd : V → V → Hp → VK → Prop} (hK : X.K = K) (ha : PE X o ta) (hv : PE X value tv) (c : Cls K C) (n : NoAttr K C f) (hop : InOp X op rd) : PS X (.AugAssign (.Attribute o f tpos) op value pos) (sFldAugC C ta tv rd f) := by
  subst hK
  refine ⟨fun pins s σ H D I h => ?_⟩
  refine wpAny_AugAssign_AttributeAny (thn (ha.run pins s σ H _ I h) fun ov s1 ⟨x, H1, I1, rx, a, dx, fs, v, ex, ea, l, q⟩ => ?_)
  subst ex
  obtain rfl : ov = Value.ref a := rx
  refine getattr_ok I1 ea c n l fun u s2 I2 ru => thn (hv.run pins s2 σ H1 _ I2 q) fun w3 s3 ⟨y, H2, I3, ry, q3⟩ => thn (hop pins s3 σ H2 v y u w3 _ I3 ru ry q3) fun w4 s4 ⟨z, H3, I4, rz, dx', fs', ea', l', q4⟩ => ?_
  exact setattr_ok I4 ea' c n l' rz fun s5 I5 => ⟨σ, _, I5, q4⟩
end
/-- o.f = .., among the targets of an assignment -/
def gFldC (C : Addr) (ta : TE) (f : Str) : TG := fun v σ H Q => ta σ H fun x H2 => ∃ a dx fs, x = .ref a ∧ H2 a = some (.ins C dx fs) ∧ fs.length < 1000 ∧ Q σ (upd H2 a (.ins C dx (putF f v fs)))
theorem pg_fldC {X : Cx} {K : PySem.W.Frag} {C : Addr} {o : Expr} {f : Str} {pos : Pos} {ta : TE} (hK : X.K = K) (ho : PE X o ta) (c : Cls K C) (n : NoAttr K C f) : PG X (.Attribute o f pos) (gFldC C ta f) := by
  subst hK
  refine ⟨fun pins s σ H v u Q I r h => ?_⟩
  rw [PySem.assign_Attribute]
  refine wpAny_bind (wpAny_holding (thn (ho.run pins s σ H _ I h) fun ov s1 ⟨x, H1, I1, rx, a, dx, fs, ex, ea, l, q⟩ => ?_))
  subst ex
  obtain rfl : ov = Value.ref a := rx
  refine wpAny_bind (wpAny_standAt (wpAny_bind (wpAny_holding (setattr_ok I1 ea c n l r fun s3 I3 => ?_))))
  exact wpAny_release ⟨σ, _, I3, q⟩
/-! ### a tuple of texts among the globals -/
def strsB : List Value → List Str → Bool
  | [], [] => true
  | .str z _ :: r, y :: q => decide (z = y) && strsB r q
  | _, _ => false
def tupB (K : PySem.W.Frag) (x : Str) (zs : List Str) : Bool := match K.lookup (He.ga K x) with
  | some o => decide (o.cls = .type "tuple") && (match o.data with | .seq its n => decide (its.size ≤ 100) && strsB its.toList zs | _ => false)
  | none => false
theorem strsB_ok : ∀ {us : List Value} {zs : List Str}, strsB us zs = true → Vals (zs.map V.str) us
  | [], [], _ => .nil
  | .str z t :: r, y :: q, h => by
    unfold strsB at h
    obtain ⟨h1, h2⟩ := Bool.and_eq_true_iff.mp h
    rw [of_decide_eq_true h1]
    exact .cons ⟨t, rfl⟩ (strsB_ok h2)
theorem tupB_ok {K : PySem.W.Frag} {x : Str} {zs : List Str} (h : tupB K x zs = true) (H : Hp) : SqT K H (He.ga K x) (zs.map V.str) := by
  unfold tupB at h
  cases e : K.lookup (He.ga K x) with
  | none => rw [e] at h; cases h
  | some o =>
    rw [e] at h
    obtain ⟨h1, h2⟩ := Bool.and_eq_true_iff.mp h
    cases e2 : o.data with
    | seq its n =>
      rw [e2] at h2
      obtain ⟨h3, h4⟩ := Bool.and_eq_true_iff.mp h2
      exact .inr ⟨o, its, n, e, of_decide_eq_true h1, e2, small (Nat.le_trans (of_decide_eq_true h3) (by decide)), strsB_ok h4⟩
    | _ => rw [e2] at h2; cases h2
end Hk

set_option Elab.async false
set_option linter.all false
set_option maxRecDepth 100000
set_option maxHeartbeats 4000000
/-! A nested def whose body calls what may call it again: its captured cells are shown to the callee. -/
namespace Hk
open PySem PySem.Spec PySem.Calls PyProof.Rows L2 LamX NdefX
/-- the cells stand outside of the module's heap and of the frames -/
def CellsOut (base : Heap) (outer : List Env) (cl : List (Str × Addr)) : Prop := ∀ a, InC cl a → base.get? a = none ∧ a ∉ frs outer
structure NOkE (P : Program) (w : World) (K : PySem.W.Frag) (mg : Str → Option Value) (base : Heap) (k : Nat) (f : Addr) (F : NF) (ps fr : List Str) (sp : List (Option V) → Sp) : Prop where
  len : ∀ ws vs H Q E, sp ws vs H Q E → vs.length = ps.length
  run : ∀ (A : Around) (outer : List Env) (s : Shared) (H : Hp) (us : List Value) (vs : List V) (ws : List (Option V)) (Q : VK) (E : XK), Room k A → Env0 P w K mg base A outer s H → H f = some (FnO f F) → H F.c = some (CodeO F.c F.qual) → CellsOut base outer F.cl →
    CellsAt F.cl fr ws s.heap H → Vals vs us → sp ws vs H Q E → codeAny (model P w) A (.call (.ref f) ⟨us, []⟩) (CR (L2.CX P w) outer P w H s Q E) s
section
variable {P : Program} {w : World} {K : PySem.W.Frag} {mg : Str → Option Value} {base : Heap} {N ps fr : List Str} {F : NF} {f : Addr} {k j : Nat} {sp : List (Option V) → Sp}
/-- by its body -/
theorem nok_ofE (S : NScope N ps fr F.scope) (hb : ∀ (doc pm ctv : Value) (us : List Value), us.length = ps.length → bindArgs (F.fd doc pm ctv) ⟨us, []⟩ = pure (ps.zip us)) (len : ∀ ws vs H Q E, sp ws vs H Q E → vs.length = ps.length)
    (body : ∀ (A : Around) (outer : List Env) (s : Shared) (H : Hp) (vs : List V) (ws : List (Option V)) (Q : VK) (E : XK), Room k (A.deeper (envF F f s.heap.objs.size)) → H f = some (FnO f F) → H F.c = some (CodeO F.c F.qual) → CellsOut base outer F.cl → (∀ a, InC F.cl a → H a = none) → ws.length = fr.length → sp ws vs H Q E →
      ∃ t, PSs (ncx (L2.CX P w) P w K mg base N F f A outer s H E) F.body t ∧ t { nx := fun _ H2 => Q .non H2, rt := Q } (startF N vs ws) H) :
    NOkE P w K mg base (k + 1) f F ps fr sp := by
  refine ⟨len, fun A outer s H us vs ws Q E hr e0 hf hc ho C rv h => ?_⟩
  have el := len _ _ _ _ _ h
  have nolim : s.heap.NoLimit := e0.mod.nolimit.keeps fun b o z => (e0.bs b o z).1
  obtain ⟨od, sl, doc, pm, ctv, at_⟩ := fnO_at e0.hok hf
  refine codeAny_call_function hr.depth at_ rfl S.co S.gen rfl (codeO_at e0.hok hc) ?_
  rw [hb doc pm ctv us (rv.length ▸ el)]
  refine wpAny_pure (wpAny_newFunctionEnv S.nocell (fun ⟨y, _⟩ hy => S.par y (List.of_mem_zip hy).1) (fun g hns hsb => ⟨nolim.fresh _ hsb, ?_⟩) S.kind)
  show codeAny _ _ (.func F.body (envF F f s.heap.objs.size)) _ _
  have kp : ∀ b o, s.heap.get? b = some o → g.get? b = some o := fun b o z => hsb.extBut b o (Nat.ne_of_lt (Heap.lt_size z)) (Heap.get?_push_of_some _ z)
  obtain ⟨t, ht, hq⟩ := body A outer s H vs ws Q E (hr.deeper _) hf hc ho (fun a ⟨y, z⟩ => (C.all y a z).1) C.len h
  have I : Inv (ncx (L2.CX P w) P w K mg base N F f A outer s H E) [] (startF N vs ws) H { s with heap := g, toks := s.toks + (ps.zip us).length } := inv_startN S hr.hd e0 el rv C hns kp
  refine codeAny_func (wpAny_mono (ht.run [] _ (startF N vs ws) H _ I hq) (fun fl s2 hs => ?_) fun e s2 hs => hs)
  cases fl with
  | ret u =>
    obtain ⟨v, σ2, H2, J, r2, q⟩ := hs
    exact ⟨v, H2, J.os, J.bare, J.base, J.hok, r2, q⟩
  | next =>
    obtain ⟨σ2, H2, J, q⟩ := hs
    exact ⟨V.non, H2, J.os, J.bare, J.base, J.hok, rfl, q⟩
  | brk => exact hs.elim fun _ z => z.elim fun _ y => y.2.elim
  | cont => exact hs.elim fun _ z => z.elim fun _ y => y.2.elim
theorem act_cloE (O : NOkE P w K mg base k f F ps fr sp) : Act P w K mg base k f (spClo f F fr sp) := fun A outer s H us vs Q E hr e0 r h => by
  obtain ⟨ws, hf, hc, C, q⟩ := h
  obtain ⟨od, sl, doc, pm, ctv, ho⟩ := fnO_at e0.hok hf
  have out : CellsOut base outer F.cl := fun a z => by
    obtain ⟨v, ob, e⟩ := C.tr z
    refine ⟨?_, fun hb => by rw [e0.frf a hb] at e; cases e⟩
    cases y : base.get? a with
    | none => rfl
    | some o => rw [(e0.bs a o y).2] at e; cases e
  refine ⟨⟨_, od, _, sl, ho⟩, capsRun C e0 fun e1 C1 => ?_⟩
  exact O.run A outer s (delC F.cl H) us vs (ws.map some) _ _ hr e1 (C.del hf fnO_nf) (C.del hc codeO_nf) out C1 r q
end
section
variable {X : Cx} {k : Nat} {C : Addr} {m : Str} {ps : List Str} {dvs : List V} {sp : Sp} {E : XK} {apos pos : Pos} {o e : Expr} {es : List Expr} {ta : TE} {t : TA}
/-- o.m(..), the callee told of the frame's cells, captured or its own -/
theorem pe_methXO {pl : Sem Bool} (he : PE X o ta) (G : MethG X.prog X.w X.K X.mg X.base (L2.CX X.prog X.w) k C m ps dvs sp) (hr : Room k X.A) (hx : Passes (L2.CX X.prog X.w) X E) (nd : X.N.Nodup) (hout : ∀ a, InC X.env.cells a → X.base.get? a = none ∧ a ∉ X.fs) (ha : PA X (e :: es) t)
    (hst : starEach (e :: es) X.env = (false, eval e X.env) :: starEach es X.env := by rfl) (hpl : (backTo pos (starEach es X.env)).any (·.1) = false := by rfl)
    (ht : eval (.Call (.Attribute o m apos) (e :: es) [] pos) X.env = (do
      let ov ← eval o X.env
      standAt apos.atName
      let (f, first) ← holding [ov] (getMethod ov m pl)
      callWith pos f first (backTo pos (starEach (e :: es) X.env)) (backToKw pos (keywordEach [] X.env))) := by rfl) :
    PE X (.Call (.Attribute o m apos) (e :: es) [] pos) (tMethX C m X.env.cells X.env.scope X.N sp dvs E ta t) := by
  refine ⟨fun pins s σ H Q I h => ?_⟩
  obtain ⟨f, fd, ds, c, hm, F, vd, hb⟩ := G.ex
  refine PySem.W.methodCall_KW (pl := pl) (thn (he.run pins s σ H _ I h) fun u s1 ⟨x, H1, I1, rx, a, dx, fs, ex, ea, l, q⟩ => ?_) ht
  subst ex
  obtain rfl : u = Value.ref a := rx
  refine getmeth_ok I1 ea c hm l ?_
  refine PySem.W.callWith_K (first := [.ref a]) (h₀ := X.base) I.ok.mod.kin hm.kp (thn (ha.run pos pins s1 σ H1 _ I1 q) fun us s2 ⟨vs, H2, I2, r, q2⟩ => ⟨I2.kIn, ?_⟩) hst hpl
  refine wpAny_call (codeAny_mono (run_expO (Q := Q) (E := E) I2 nd hout hx fun obs e0 => ?_) fun r s' hq => ?_)
  · have r2 : Vals (.ref a :: vs ++ dvs) (.ref a :: us ++ ds) := (L2.Vals.append (.cons rfl r) vd)
    have q3 := q2 (cenv_of I2 nd) obs
    have hl : (Value.ref a :: us ++ ds).length = ps.length := by rw [← r2.length]; exact F.len _ _ _ _ q3
    exact F.run X.A X.stack s2 _ ⟨.ref a :: us, []⟩ (.ref a :: us ++ ds) (.ref a :: vs ++ dvs) _ _ hr e0 (hb s2 (.ref a :: us) I2.kIn hl) r2 q3
  · cases r with
    | error e => exact hq
    | ok fl =>
      cases fl with
      | ret u => exact hq
      | next => exact False.elim hq
      | brk => exact False.elim hq
      | cont => exact False.elim hq
end
section
variable {X : Cx} {k : Nat} {x : Str} {ps : List Str} {dvs : List V} {sp : Sp} {E : XK} {p pos : Pos} {e : Expr} {es : List Expr} {t : TA}
/-- f(..) of a def of the top, told of the frame's cells, captured or its own -/
theorem pe_callXO (G : Glob X.prog X.w X.K X.mg X.base (L2.CX X.prog X.w) k x ps dvs sp) (hr : Room k X.A) (hg : Gl X x) (hx : Passes (L2.CX X.prog X.w) X E) (nd : X.N.Nodup) (hout : ∀ a, InC X.env.cells a → X.base.get? a = none ∧ a ∉ X.fs) (ha : PA X (e :: es) t)
    (hdb : (x == ("__debug__" : Str)) = false := by decide) (he : starEach (e :: es) X.env = (false, eval e X.env) :: starEach es X.env := by rfl) (hpl : (backTo pos (starEach es X.env)).any (·.1) = false := by rfl) :
    PE X (.Call (.Name x p) (e :: es) [] pos) (tCallX X.env.cells X.env.scope X.N sp dvs E t) := by
  refine ⟨fun pins s σ H Q I h => ?_⟩
  obtain ⟨f, fd, ds, F, hm, kp, vd, hb⟩ := G.ex
  refine wpAny_Call_Name_kw (ld_glob I hg hm ?_ hdb)
  refine PySem.W.callWith_K (h₀ := X.base) I.ok.mod.kin kp (thn (ha.run pos pins s σ H _ I h) fun us s1 ⟨vs, H1, I1, r, q⟩ => ⟨I1.kIn, ?_⟩) he hpl
  refine wpAny_call (codeAny_mono (run_expO (Q := Q) (E := E) I1 nd hout hx fun obs e0 => ?_) fun r s' hq => ?_)
  · have r2 : Vals (vs ++ dvs) (us ++ ds) := r.append vd
    have q2 := q (cenv_of I1 nd) obs
    have hl : (us ++ ds).length = ps.length := by rw [← r2.length]; exact F.len _ _ _ _ q2
    exact F.run X.A X.stack s1 _ ⟨us, []⟩ (us ++ ds) (vs ++ dvs) _ _ hr e0 (hb s1 us I1.kIn hl) r2 q2
  · cases r with
    | error e => exact hq
    | ok fl =>
      cases fl with
      | ret u => exact hq
      | next => exact False.elim hq
      | brk => exact False.elim hq
      | cont => exact False.elim hq
end
/-! ### the captured cells, shown again -/
section
variable {cl : List (Str × Addr)} {sc : Scope} {N ps fr : List Str} {σ : L2.St} {obs : Addr → Obj} {H H' : Hp} {ws : List V}
/-- where the frame's names hold the captured things, the cells shown hold them, too -/
theorem caps_ex (S : NScope N ps fr sc) (hlen : ws.length = fr.length) (inj : ∀ x y c, cl.lookup x = some c → cl.lookup y = some c → x = y) (only : ∀ y c, cl.lookup y = some c → y ∈ fr) (has : ∀ y ∈ fr, ∃ c, cl.lookup y = some c)
    (hσ : ∀ (i : Nat) v, ws[i]? = some v → σ[ps.length + i]? = some (some v)) : CapsAt cl fr ws (exC cl sc N σ obs H) := by
  refine ⟨hlen, inj, only, fun i y hi => ?_⟩
  obtain ⟨c, hc⟩ := has y (List.mem_of_getElem? hi)
  have hil : i < fr.length := (List.getElem?_eq_some_iff.mp hi).1
  obtain ⟨v, hv⟩ : ∃ v, ws[i]? = some v := ⟨_, List.getElem?_eq_getElem (by omega)⟩
  refine ⟨c, v, hc, hv, obs c, exC_some (cellV_at S.nd inj ⟨ps.length + i, y, ?_, hc, hσ i v hv, .inr (S.frk y (List.mem_of_getElem? hi))⟩)⟩
  have e : (N.take (ps.length + fr.length))[ps.length + i]? = (ps ++ fr)[ps.length + i]? := congrArg (fun l => l[ps.length + i]?) S.pre
  rw [List.getElem?_append_right (by omega), Nat.add_sub_cancel_left, hi, List.getElem?_take_of_lt (by omega)] at e
  exact e
end
end Hk

set_option Elab.async false
set_option linter.all false
set_option maxRecDepth 100000
set_option maxHeartbeats 4000000
/-! try: .. except x: a suite that may raise again what it handles; else. -/
namespace Hk
open PySem PySem.Spec PyProof.Rows L2 L2H
section
variable {X : Cx} {x : Str} {c : Value} {body suite orelse : List Stmt} {b₀ : Stmt} {np pos pos' : Pos} {tb : WX → TS} {ts : Addr → Value → Option Addr → TS} {u : TS} {Wout : WX}
/-- the bare raise in the suite: what is handled flies on -/
theorem bare_raise {a T : Addr} {oe oT : Obj} {vs tv : Array Value} {cls : Value} {d : Option Addr} {pins : List (Addr × Obj)} {rp : Pos} (hs : X.stack = X.env :: X.outer) (hf : X.env.frame = some X.env.locals) (ok : X.Ok) (tk : Takes X Wout)
    (hz : Zc cls d oe) (hd : oe.data = .fields vs) (hv1 : vs[1]? = some (.ref T)) (hTe : T ≠ a) (hdT : oT.data = .fields tv) (ht3 : tv[3]? = some .none) (far0 : ∀ b o, X.s_0.heap.get? b = some o → b ≠ a ∧ b ≠ T) (farP : ∀ p ∈ X.pn ++ pins, p.1 ≠ a ∧ p.1 ≠ T) :
    PS (suiteX X a ((a, oe) :: (T, oT) :: (X.pn ++ pins))) (.Raise none none rp) (fun _ σ H => Wout cls d σ H) := by
  refine ⟨fun pn2 s6 σ6 H6 D S6 q6 => ?_⟩
  have J6 : Inv X pins σ6 H6 s6 := ⟨ok, S6.os, S6.bare, S6.base, S6.loc, S6.cell, S6.free, S6.freeC, fun p hp => S6.pin p (List.mem_append_left _ (List.mem_cons_of_mem _ (List.mem_cons_of_mem _ hp))), S6.hok, S6.len⟩
  have pa := S6.pin (a, oe) (List.mem_append_left _ List.mem_cons_self)
  have pT := S6.pin (T, oT) (List.mem_append_left _ (List.mem_cons_of_mem _ List.mem_cons_self))
  have ga : s6.heap.get? a = some oe := pa.1
  have gT : s6.heap.get? T = some oT := pT.1
  have na6 : H6 a = none := pa.2.1
  have nT6 : H6 T = none := pT.2.1
  obtain ⟨G, g1, g2⟩ := restrict s6.heap fun b => !(decide (b = a) || decide (b = T))
  have gIn : ∀ b o, G.get? b = some o → s6.heap.get? b = some o ∧ b ≠ a ∧ b ≠ T := fun b o e => by
    cases q : (!(decide (b = a) || decide (b = T))) with
    | false =>
      rw [g2 b q] at e
      cases e
    | true =>
      rw [g1 b q] at e
      simp only [Bool.not_eq_true', Bool.or_eq_false_iff, decide_eq_false_iff_not] at q
      exact ⟨e, q.1, q.2⟩
  have gOf : ∀ b o, b ≠ a → b ≠ T → s6.heap.get? b = some o → G.get? b = some o := fun b o h1 h2 e => by
    rw [g1 b (by simp [h1, h2])]
    exact e
  have I6 : Inv X pins σ6 H6 { s6 with heap := G } := J6.less (fun b o e => (gIn b o e).1) gOf ⟨oe, vs, ga, hd⟩ ⟨oT, tv, gT, hdT⟩ na6 nT6 far0 farP
  have B6in : ∀ b o, (PySem.W.hideAll G (frs X.stack)).get? b = some o → s6.heap.get? b = some o := fun b o e => (gIn b o (PySem.W.of_hideAll _ e)).1
  have Bno : ∀ b, (b = a ∨ b = T) → (PySem.W.hideAll G (frs X.stack)).get? b = none := fun b hb => by
    cases q : (PySem.W.hideAll G (frs X.stack)).get? b with
    | none => rfl
    | some o =>
      obtain ⟨_, n1, n2⟩ := gIn b o (PySem.W.of_hideAll _ q)
      rcases hb with z | z
      · exact absurd z n1
      · exact absurd z n2
  have fl6 : HandSPX.FlyingZ (PySem.W.hideAll G (frs X.stack)) (X.env :: X.outer) a (Zc cls d) s6.heap := by
    refine ⟨B6in, Bno a (.inl rfl), ?_, oe, vs, T, oT, tv, ga, hz, hd, hv1, Bno T (.inr rfl), hTe, gT, hdT, ht3⟩
    have ff := funFrames_none (B := PySem.W.hideAll G (frs X.stack)) J6.stack fun b hb => PySem.W.hideAll_none _ hb
    rw [← hs]
    exact ff
  refine wpAny_Raise_bare ?_
  unfold raiseBare raiseStmt
  dsimp only
  refine wpAny_bind (wpAny_handled ?_)
  have hh : (X.A.mark (some (Value.ref a))).handled = some (Value.ref a) := rfl
  rw [hh]
  dsimp only
  refine wpAny_bind (wpAny_rule ?_)
  refine wpAny_bind (wpAny_field ga hd hv1 ?_)
  rw [if_neg (show ¬ ((Value.ref T == Value.none) = true) from by simp)]
  have goOn : wpAny (model X.prog X.w) (X.A.mark (some (.ref a))) (setFlight (.ref a) X.env.frame) (fun _ s7 => wpAny (model X.prog X.w) (X.A.mark (some (.ref a))) (throw (.ref a) : Sem Flow) (SP (suiteX X a ((a, oe) :: (T, oT) :: (X.pn ++ pins))) pn2 D) X.xe s7) X.xe s6 := by
    rw [hf]
    refine HandSPX.setFlight_upZ fl6 fun h7 hh7 up7 => wpAny_throw (tk _ _ ?_)
    refine ⟨a, PySem.W.hideAll G (frs X.stack), { s6 with heap := G }, pins, σ6, H6, cls, d, rfl, I6, fun b o e hb => PySem.W.hideAll_get _ e hb, ?_, .inr (.inr (by rw [← hs] at hh7; exact hh7)), na6, rfl, J6.bare, q6⟩
    exact Heap.UpToSlots.trans (Heap.UpToSlots.of_keeps fun b o e => (gIn b o e).1) up7
  first
    | exact wpAny_bind goOn
    | exact wpAny_bind (wpAny_pure (wpAny_bind goOn))
theorem ps_try_bare (ho : PSs X orelse u) (hs : X.stack = X.env :: X.outer) (hf : X.env.frame = some X.env.locals) (hex : X.ex = []) (hc : Names X x c) (hpa : ∀ hd : Option Value, PassesOwnAt (model X.prog X.w) (X.A.mark hd) X.A X.env X.xe) (tk : L2.Takes X Wout)
    (hb : ∀ (W : WX) (pn : List (Addr × Obj)) (xe : Value → Shared → Prop), L2.Takes (X.tr pn xe) W → PassesOwn (model X.prog X.w) X.A X.env xe → PSs (X.tr pn xe) body (tb W))
    (hsu : ∀ (a : Addr) (cls : Value) (d : Option Addr) (pn : List (Addr × Obj)), (∀ rp, PS (suiteX X a pn) (.Raise none none rp) (fun _ σ H => Wout cls d σ H)) → PSs (suiteX X a pn) (b₀ :: suite) (ts a cls d)) :
    PS X (.Try body [.ExceptHandler (some (.Name x np)) none (b₀ :: suite) pos'] orelse [] pos) (fun D σ H => tb (wOnly X.K c ts Wout D) { D with nx := u D } σ H) := by
  refine ⟨fun pins s σ H D I h => ?_⟩
  have ok := I.ok
  have hfr : X.A.frames = some (X.env :: X.outer) := by rw [ok.frames, hs]
  refine wpAny_Try_except ?_
  refine wpAny_mono ((hb (wOnly X.K c ts Wout D) (X.pn ++ pins) (fun e s₁ => wpAny (model X.prog X.w) X.A (noteFrame e X.env) (fun _ s₂ => wpAny (model X.prog X.w) X.A (setFlight e none) (fun _ s₃ =>
    wpAny (model X.prog X.w) X.A (handleBy e X.env [.ExceptHandler (some (.Name x np)) none (b₀ :: suite) pos']) (SP X pins D) X.xe s₃) X.xe s₂) X.xe s₁) (fun u s' xx => ?_) PassesOwn.looking).run [] s σ H { D with nx := u D } (I.toTry _) h) (fun f s1 hsp => ?_) (fun e s1 he => he)
  · obtain ⟨a, B, sI, pins', σ', H', cls, d, rfl, J', nb, up, sky, na, os, ag, b, hb1, hyes, hno⟩ := xx
    have J : Inv X pins σ' H' sI := J'.ofTry ok
    have sky' : Sky B (X.env :: X.outer) a (Zc cls d) X.env.locals s'.heap := by rw [← hs]; exact sky
    show wpAny (model X.prog X.w) X.A (noteFrame (.ref a) X.env) _ _ _
    refine L2.Sky.land Zc.steady hfr hf sky' fun h3 fl3 up3 => ?_
    have J3 : Inv X pins σ' H' { s' with heap := h3 } := J.landed nb fl3.1 (up.trans up3) os ag
    obtain ⟨oe3, vs3, he3, hz3, hd3⟩ := fl3.there
    have notFr : ∀ {h : Heap} {b : Addr} {o : Obj} {vs : Array Value}, h.FunFrames B (X.env :: X.outer) → h.get? b = some o → o.data = .fields vs → b ∉ frs (X.env :: X.outer) := fun {h b o vs} ff e dd hm => by
      obtain ⟨_, o', e', hnf⟩ := ff.mem hm
      rw [e] at e'; cases e'
      exact hnf _ dd
    have locF : X.env.locals ∈ frs (X.env :: X.outer) := List.mem_filterMap.mpr ⟨X.env, List.mem_cons_self, hf⟩
    have fsF : ∀ b, b ∈ X.fs → b ∈ frs (X.env :: X.outer) := fun b hm => by
      obtain ⟨e, he, q⟩ := List.mem_filterMap.mp hm
      exact List.mem_filterMap.mpr ⟨e, List.mem_cons_of_mem _ he, q⟩
    have nfr := notFr fl3.2.2.1 he3 hd3
    have nL : a ≠ X.env.locals := fun z => nfr (by rw [z]; exact locF)
    have nF : a ∉ X.fs := fun hm => nfr (fsF _ hm)
    have S3 := J3.suite he3 hd3 na nL nF
    refine wpAny_handleBy_cons (codeAny_handlers_test ?_) (by intro q; cases q)
    have LT : PySem.W.Looks (model X.prog X.w) h3 (typeOf (.ref a)) cls := fun A Q E s k q => wpAny_typeOf_ref (k _ _ he3) (by rw [hz3.1]; exact q)
    have LM := PySem.W.exm_one (M := model X.prog X.w) (J3.kIn) LT hb1
    have test : ∀ {Q : Value → Shared → Prop} {E : Value → Shared → Prop}, Q c { s' with heap := h3 } → wpAny (model X.prog X.w) (X.A.mark (some (.ref a))) (eval (.Name x np) X.env) Q E { s' with heap := h3 } := fun {Q E} q => by
      obtain ⟨hg, hdbg, hm | ⟨hm, hv, hnn⟩⟩ := hc
      · exact ld_glob (X := X.suite a ((a, oe3) :: (X.pn ++ pins))) S3 hg hm q hdbg
      · exact ld_blt (X := X.suite a ((a, oe3) :: (X.pn ++ pins))) S3 hg hm hv q hnn hdbg
    refine test (LM.here ?_)
    cases b with
    | true =>
      refine codeAny_handlers_suite ?_
      refine HandSPX.lands_againZ fl3 fun h4 fl4 up4 => ?_
      have J4 : Inv X pins σ' H' { s' with heap := h4 } := J.landed nb fl4.1 ((up.trans up3).trans up4) os ag
      obtain ⟨k1, k2, k3, oe, vs, T, oT, tv, he4, hz, hd, hv1, hnT, hTe, hT, hdT, ht3⟩ := id fl4
      have nT : H' T = none := (J.inGround nb).gone hnT
      have fa := notFr k3 he4 hd
      have fT := notFr k3 hT hdT
      have S4 : Inv (suiteX X a ((a, oe) :: (T, oT) :: (X.pn ++ pins))) [] σ' H' { s' with heap := h4 } :=
        suiteX_of ⟨J4.ok.suite _ _, J4.os, J4.bare, J4.base, J4.loc, J4.cell, J4.free, J4.freeC, fun p hp => by
          rw [List.append_nil] at hp
          rcases List.mem_cons.mp hp with z | hp
          · rw [z]
            exact ⟨he4, na, fun z2 => fa (by rw [show a = X.env.locals from z2]; exact locF), fun z2 => fa (fsF _ z2), fun v z2 => by
              have z3 : oe.data = .cell v := z2
              rw [hd] at z3
              cases z3⟩
          · rcases List.mem_cons.mp hp with z | hp
            · rw [z]
              exact ⟨hT, nT, fun z2 => fT (by rw [show T = X.env.locals from z2]; exact locF), fun z2 => fT (fsF _ z2), fun v z2 => by
                have z3 : oT.data = .cell v := z2
                rw [hdT] at z3
                cases z3⟩
            · exact J4.pin p hp, J4.hok, J4.len⟩
      have far : ∀ b o, sI.heap.get? b = some o → b ≠ a ∧ b ≠ T := fun b o e => by
        by_cases hb : b ∈ frs X.stack
        · rw [hs] at hb
          exact ⟨fun z => fa (by rw [← z]; exact hb), fun z => fT (by rw [← z]; exact hb)⟩
        · have q := nb b o e hb
          exact ⟨fun z => by
            rw [z, k2] at q
            exact (nomatch q), fun z => by
            rw [z, hnT] at q
            cases q⟩
      have far0 : ∀ b o, X.s_0.heap.get? b = some o → b ≠ a ∧ b ≠ T := fun b o e => by
        obtain ⟨o', q⟩ := J.base.there b o e (by rw [hex]; simp)
        exact far b o' q
      have farP : ∀ p ∈ X.pn ++ pins, p.1 ≠ a ∧ p.1 ≠ T := fun p hp => far p.1 p.2 (J.pin p hp).1
      have un : ∀ {σ6 : L2.St} {H6 : Hp} {s6 : Shared}, Inv (suiteX X a ((a, oe) :: (T, oT) :: (X.pn ++ pins))) [] σ6 H6 s6 → Inv X pins σ6 H6 s6 := fun {σ6 H6 s6} S6 =>
        ⟨ok, S6.os, S6.bare, S6.base, S6.loc, S6.cell, S6.free, S6.freeC, fun p hp => S6.pin p (List.mem_append_left _ (List.mem_cons_of_mem _ (List.mem_cons_of_mem _ hp))), S6.hok, S6.len⟩
      refine wpAny_mono ((hsu a cls d ((a, oe) :: (T, oT) :: (X.pn ++ pins)) (fun rp => bare_raise hs hf ok tk hz hd hv1 hTe hdT ht3 far0 farP)).run [] _ _ H' _ S4 (hyes rfl a na)) (fun f s6 hsp => ?_) (fun e6 s6 z => hpa (some (.ref a)) e6 s6 z)
      cases f with
      | next =>
        obtain ⟨σ6, H6, S6, q6⟩ := hsp
        exact ⟨_, _, un S6, q6⟩
      | brk =>
        obtain ⟨σ6, H6, S6, q6⟩ := hsp
        exact ⟨_, _, un S6, q6⟩
      | cont =>
        obtain ⟨σ6, H6, S6, q6⟩ := hsp
        exact ⟨_, _, un S6, q6⟩
      | ret u =>
        obtain ⟨v6, σ6, H6, S6, r6, q6⟩ := hsp
        exact ⟨_, _, _, un S6, r6, q6⟩
    | false =>
      show wpAny _ X.A (handleBy (.ref a) X.env []) _ _ _
      refine wpAny_handleBy_nil ?_
      obtain ⟨k1, k2, k3, oe, vs, T, oT, ts', he, hz, hd, h1, hr⟩ := id fl3
      unfold PySem.passOn
      refine wpAny_bind (wpAny_field he hd h1 ?_)
      rw [if_neg (show ¬ ((Value.ref T == Value.none) = true) from by simp)]
      have fin : wpAny (model X.prog X.w) X.A (setFlight (.ref a) X.env.frame) (fun _ s4 => wpAny (model X.prog X.w) X.A (throw (.ref a) : Sem Flow) (SP X pins D) X.xe s4) X.xe { s' with heap := h3 } := by
        rw [hf]
        refine HandSPX.setFlight_upZ fl3 fun h4 hh4 up4 => wpAny_throw (tk _ _ ?_)
        exact ⟨a, B, sI, pins, σ', H', cls, d, rfl, J, nb, (up.trans up3).trans up4, .inr (.inr (by rw [hs]; exact hh4)), na, os, ag, hno rfl⟩
      first
        | exact wpAny_bind (wpAny_pure (wpAny_bind fin))
        | exact wpAny_bind fin
  · cases f with
    | next =>
      obtain ⟨σ', H', J', q⟩ := hsp
      exact ho.run pins s1 σ' H' D (J'.ofTry ok) q
    | brk =>
      obtain ⟨σ', H', J', q⟩ := hsp
      exact ⟨σ', H', J'.ofTry ok, q⟩
    | cont =>
      obtain ⟨σ', H', J', q⟩ := hsp
      exact ⟨σ', H', J'.ofTry ok, q⟩
    | ret u =>
      obtain ⟨v, σ', H', J', r, q⟩ := hsp
      exact ⟨v, σ', H', J'.ofTry ok, r, q⟩
end
theorem MethG.framed {P : Program} {w : World} {K : PySem.W.Frag} {mg : Str → Option Value} {base : Heap} {k : Nat} {C : Addr} {m : Str} {ps : List Str} {dvs : List V} {sp : Sp} (G : MethG P w K mg base (L2.CX P w) k C m ps dvs sp) : MethG P w K mg base (L2.CX P w) k C m ps dvs (spF sp) := by
  obtain ⟨f, fd, ds, c, hm, F, r⟩ := G.ex
  exact ⟨f, fd, ds, c, hm, FnOk.framed F, r⟩
/-! ### methods and function values in a try's body -/
def tMethS (C : Addr) (m : Str) (sp : Sp) (dvs : List V) (E : L2.St → XK) (ta : TE) (t : TA) : TE := fun σ H Q => ta σ H fun x H1 => ∃ a dx fs, x = .ref a ∧ H1 a = some (.ins C dx fs) ∧ fs.lookup m = none ∧
  t σ H1 fun vs H2 => sp (.ref a :: vs ++ dvs) H2 Q (E σ)
section
variable {X : Cx} {CX : CXT} {k i : Nat} {C f : Addr} {m x : Str} {fd : FuncData} {ps : List Str} {ds : List Value} {dvs : List V} {sp : Sp} {E : L2.St → XK} {apos pos p : Pos} {o e : Expr} {es : List Expr} {ta : TE} {t : TA}
theorem pe_methGS {pl : Sem Bool} (he : PE X o ta) (G : MethG X.prog X.w X.K X.mg X.base CX k C m ps dvs sp) (hr : Room k X.A) (hx : ∀ σ, PassesAt CX X σ (E σ)) (ha : PA X (e :: es) t)
    (hst : starEach (e :: es) X.env = (false, eval e X.env) :: starEach es X.env := by rfl) (hpl : (backTo pos (starEach es X.env)).any (·.1) = false := by rfl)
    (ht : eval (.Call (.Attribute o m apos) (e :: es) [] pos) X.env = (do
      let ov ← eval o X.env
      standAt apos.atName
      let (f, first) ← holding [ov] (getMethod ov m pl)
      callWith pos f first (backTo pos (starEach (e :: es) X.env)) (backToKw pos (keywordEach [] X.env))) := by rfl) :
    PE X (.Call (.Attribute o m apos) (e :: es) [] pos) (tMethS C m sp dvs E ta t) := by
  refine ⟨fun pins s σ H Q I h => ?_⟩
  obtain ⟨f, fd, ds, c, hm, F, vd, hb⟩ := G.ex
  refine PySem.W.methodCall_KW (pl := pl) (thn (he.run pins s σ H _ I h) fun u s1 ⟨x, H1, I1, rx, a, dx, fs, ex, ea, l, q⟩ => ?_) ht
  subst ex
  obtain rfl : u = Value.ref a := rx
  refine getmeth_ok I1 ea c hm l ?_
  refine PySem.W.callWith_K (first := [.ref a]) (h₀ := X.base) I.ok.mod.kin hm.kp (thn (ha.run pos pins s1 σ H1 _ I1 q) fun us s2 ⟨vs, H2, I2, r, q2⟩ => ⟨I2.kIn, ?_⟩) hst hpl
  have r2 : Vals (.ref a :: vs ++ dvs) (.ref a :: us ++ ds) := (L2.Vals.append (.cons rfl r) vd)
  have hl : (Value.ref a :: us ++ ds).length = ps.length := by rw [← r2.length]; exact F.len _ _ _ _ q2
  refine wpAny_call (codeAny_mono (F.run X.A X.stack s2 H2 ⟨.ref a :: us, []⟩ (.ref a :: us ++ ds) (.ref a :: vs ++ dvs) Q (E σ) hr I2.env0 (hb s2 (.ref a :: us) I2.kIn hl) r2 q2) fun r s' hq => ?_)
  cases r with
  | error e => exact hx σ pins H2 s2 e s' I2 hq
  | ok fl =>
    cases fl with
    | ret u => exact I2.after hq
    | next => exact False.elim hq
    | brk => exact False.elim hq
    | cont => exact False.elim hq
theorem pe_callVS {P : Program} {w : World} {K : PySem.W.Frag} {mg : Str → Option Value} {base : Heap} (e1 : X.prog = P) (e2 : X.w = w) (e3 : X.K = K) (e4 : X.mg = mg) (e5 : X.base = base) (hr : Room k X.A) (hx : ∀ σ, PassesAt (L2.CX X.prog X.w) X σ (E σ)) (hN : X.N[i]? = some x) (hv : Vis X.env.scope x) (ha : PA X (e :: es) t)
    (hd : (x == ("__debug__" : Str)) = false := by decide) (hcd : (x == ("__classdict__" : Str)) = false := by decide)
    (he : starEach (e :: es) X.env = (false, eval e X.env) :: starEach es X.env := by rfl) (hpl : (backTo pos (starEach es X.env)).any (·.1) = false := by rfl) :
    PE X (.Call (.Name x p) (e :: es) [] pos) (tCallVS P w K mg base k i E t) := by
  subst e1 e2 e3 e4 e5
  refine ⟨fun pins s σ H Q I h => ?_⟩
  obtain ⟨f, sp, hs, ac, ht⟩ := h
  refine wpAny_Call_Name_kw (thn ((pe_var (pos := p) hN hv hd hcd).run pins s σ H (fun v H1 => v = .ref f ∧ H1 = H) I ⟨.ref f, hs, rfl, rfl⟩) fun u s1 ⟨v, H1, I1, r1, q1⟩ => ?_)
  obtain ⟨ev, eH⟩ := q1
  subst ev
  rw [eH] at I1
  obtain rfl : u = Value.ref f := r1
  have h := thn (ha.run pos pins s1 σ H _ I1 ht) fun us s2 ⟨vs, H2, I2, r, q⟩ => run_actS ac hr (hx σ) I2 r q
  show wpAny _ _ (callWith pos (.ref f) [] (backTo pos (starEach (e :: es) X.env)) []) _ _ _
  rw [he] at h ⊢
  exact PySem.W.callWith_of (by show ((false || (backTo pos (starEach es X.env)).any (·.1)) || false) = false; rw [hpl]; rfl) PySem.W.keeps_F (PySem.Calls.evalArgs_plain h)
end
end Hk

set_option Elab.async false
set_option linter.all false
set_option maxRecDepth 100000
set_option maxHeartbeats 4000000
/-! Exceptions whose own __init__ calls that of an own class above. -/
namespace Hk
open PySem PySem.Spec PyProof.Rows L2
/-- D.__init__(self, ..), D an own class that inherits it of ValueError -/
structure Inh (K : PySem.W.Frag) (D : Addr) : Prop where
  ga : PySem.W.specialIn K (.ref D) "__getattribute__" = some (some (.builtin "type.__getattribute__"))
  rd : PySem.W.readsIn K D (.type "type") = true
  fc : PySem.W.findCls K (.ref D) (.type "type") "__init__" = some (.val (.builtin "ValueError.__init__"))
def inhB (K : PySem.W.Frag) (x : Str) : Bool := He.eqO (PySem.W.specialIn K (.ref (He.ga K x)) "__getattribute__") (some (some (.builtin "type.__getattribute__"))) && (PySem.W.readsIn K (He.ga K x) (.type "type") && (match PySem.W.findCls K (.ref (He.ga K x)) (.type "type") "__init__" with
  | some (.val (.builtin n)) => n == "ValueError.__init__"
  | _ => false))
theorem inhB_ok {K : PySem.W.Frag} {x : Str} (h : inhB K x = true) : Inh K (He.ga K x) := by
  obtain ⟨h1, h⟩ := He.ba h
  obtain ⟨h2, h3⟩ := He.ba h
  refine ⟨He.eqO_ok h1, h2, ?_⟩
  split at h3
  · rename_i n e
    rw [e, beq_iff_eq.mp h3]
  · cases h3
section
variable {X : Cx} {K : PySem.W.Frag} {o e : Expr} {es : List Expr} {to te : TE} {ta : TA} {f x : Str} {D : Addr} {p p' p1 p2 pos : Pos}
theorem pe_heinit {pl : Sem Bool} (hK : X.K = K) (hg : Gl X x) (hm : X.mg x = some (.ref D)) (I0 : Inh K D) (ha : PA X (e :: es) ta) (hdb : (x == ("__debug__" : Str)) = false := by decide)
    (hc : eval (.Call (.Attribute (.Name x p1) "__init__" p2) (e :: es) [] pos) X.env = (do
      let ov ← eval (.Name x p1) X.env
      standAt p2.atName
      let (f, first) ← holding [ov] (getMethod ov "__init__" pl)
      callWith pos f first (backTo pos (starEach (e :: es) X.env)) (backToKw pos (keywordEach [] X.env))) := by rfl)
    (he : starEach (e :: es) X.env = (false, eval e X.env) :: starEach es X.env := by rfl) (hpl : (backTo pos (starEach es X.env)).any (·.1) = false := by rfl) :
    PE X (.Call (.Attribute (.Name x p1) "__init__" p2) (e :: es) [] pos) (tVeI K ta) := by
  subst hK
  refine ⟨fun pins s σ H Q I h => ?_⟩
  refine PySem.W.methodCall_KW (ld_glob I hg hm ?_ hdb) hc
  refine PySem.W.method_cls I.kIn I0.ga (PySem.W.cls_value I.kIn I0.rd I0.fc (by decide +kernel) ?_)
  show wpAny _ _ (callWith pos (Value.builtin "ValueError.__init__") [] (backTo pos (starEach (e :: es) X.env)) []) _ _ _
  refine PyProof.Rows.callWith_method1 (thn (ha.run pos pins _ σ H _ (I.tok _) h) fun us s1 ⟨vs, H1, I1, r1, a, C, ws, ev, hl, T, ea, q⟩ => ?_) he hpl
  subst ev
  cases r1 with
  | @cons _ u0 _ ur ra rw' =>
    obtain rfl : u0 = Value.ref a := ra
    have hlen : ur.length ≤ sizeLine := by
      rw [← Paired.length rw', sizeLine_eq]
      omega
    exact oinit_ok T I1 ea hlen fun s' J => ⟨.non, H1, J, rfl, q⟩
theorem ps_ostK (hK : X.K = K) (ho : PE X o to) (he : PE X e te) (hs : swapsWith e (some (.Attribute o f p')) pos.line X.env = pure false := by rfl) : PS X (.Assign [.Attribute o f p'] e pos) (tOst K f to te) := by
  subst hK; exact ps_ost ho he hs
end
/-! ### the class's facts by one Bool -/
def oexB (K : PySem.W.Frag) (x : Str) (f : Str) : Bool :=
  (match K.lookup (He.ga K x) with
  | some ⟨.type "type", _, .cls cd, sl⟩ => (match cd.mro, sl.toList with
    | .ref C' :: bm, [_, _, _, _, some (.builtin n), _] => C' == He.ga K x && n == "ValueError.__new__" && !cd.hasDel && PySem.HandSPX.refsVE bm && cd.hasDict
    | _, _ => false)
  | _ => false) && (He.eqO (PySem.W.findIn K (.ref (He.ga K x)) "__setattr__") (some (some (.builtin "object.__setattr__"))) && (decide (PySem.W.subIn K (.ref (He.ga K x)) (.type "BaseException") = some true) && (decide (PySem.W.typeIn K (.ref (He.ga K x)) = some (.type "type")) && (PySem.W.keepIn K (.ref (He.ga K x)) &&
  (He.eqO (PySem.W.findIn K (.ref (He.ga K x)) f) (some none) && (He.eqO (PySem.W.findIn K (.ref (He.ga K x)) "__init__") (some (some (.ref (He.fAd K (x, some "__init__"))))) && (decide (PySem.W.typeIn K (.ref (He.fAd K (x, some "__init__"))) = some (.type "function")) && xfB K (He.ga K x))))))))
structure OwnX (K : PySem.W.Frag) (x f : Str) : Prop where
  oex : OexC K (He.ga K x)
  no : PySem.W.findIn K (.ref (He.ga K x)) f = some none
  iC : PySem.W.findIn K (.ref (He.ga K x)) "__init__" = some (some (.ref (He.fAd K (x, some "__init__"))))
  tI : PySem.W.typeIn K (.ref (He.fAd K (x, some "__init__"))) = some (.type "function")
  xf : XfC K (He.ga K x)
theorem oexB_ok {K : PySem.W.Frag} {x f : Str} (h : oexB K x f = true) : OwnX K x f := by
  obtain ⟨h0, h⟩ := He.ba h
  obtain ⟨h1, h⟩ := He.ba h
  obtain ⟨h2, h⟩ := He.ba h
  obtain ⟨h3, h⟩ := He.ba h
  obtain ⟨h4, h⟩ := He.ba h
  obtain ⟨h5, h⟩ := He.ba h
  obtain ⟨h6, h⟩ := He.ba h
  obtain ⟨h7, h8⟩ := He.ba h
  refine ⟨⟨?_, He.eqO_ok h1, of_decide_eq_true h2, of_decide_eq_true h3, h4⟩, He.eqO_ok h5, He.eqO_ok h6, of_decide_eq_true h7, xfB_ok h8⟩
  split at h0
  · rename_i dd cd sl ho
    split at h0
    · rename_i C' bm k0 k1 k2 k3 n k5 hm hs
      simp only [Bool.and_eq_true, beq_iff_eq, Bool.not_eq_true'] at h0
      obtain ⟨⟨⟨⟨rfl, rfl⟩, hdel⟩, ht⟩, hdc⟩ := h0
      obtain ⟨nm, bs, mro, ns, qn, hd, sn, sub, ab, col, del⟩ := cd
      dsimp only at hm hdel hdc
      subst hm hdel hdc
      have hsl : sl = #[k0, k1, k2, k3, some (.builtin "ValueError.__new__"), k5] := by
        obtain ⟨l⟩ := sl
        simp only at hs
        rw [hs]
      subst hsl
      exact ⟨nm, qn, ns, bs, bm, sn, sub, ab, col, dd, k0, k1, k2, k3, k5, ho, ht⟩
    · cases h0
  · cases h0
/-! ### what __init__ promises; C(e) -/
def sp_oinit (K : PySem.W.Frag) (x f : Str) : Sp := fun vs H Q _ => ∃ (a : Addr) (v : V), vs = [.ref a, v] ∧ H a = some (exo a (He.ga K x) none) ∧ ∀ dx, H dx = none → dx ≠ a → Q .non (upd (upd H dx (exd dx [(f, v)])) a (exo a (He.ga K x) (some dx)))
/-- the promise of x's __init__ -/
structure InitG (P : Program) (w : World) (K : PySem.W.Frag) (mg : Str → Option Value) (base : Heap) (x f : Str) (ps : List Str) : Prop where
  own : OwnX K x f
  ex : ∃ fd, FnOk P w K mg base CX0 1 (He.fAd K (x, some "__init__")) fd ps (sp_oinit K x f) ∧ Binds K fd ps []
def tWhy (C : Addr) (f : Str) (ta : TA) : L2.St → Hp → XK → Prop := fun σ H Q => ta σ H fun vs H1 => ∃ v, vs = [v] ∧ ∀ d, H1 d = none → Q (.ref C) (some d) (upd H1 d (.xd [(f, v)]))
def taM (ta : TA) : TA := fun σ H Q => ∃ K1 : List V → Hp → Prop, ta σ H K1 ∧ ∀ vs H1, K1 vs H1 → Q vs H1
theorem pa_M {X : Cx} {es : List Expr} {ta : TA} (ha : PA X es ta) : PA X es (taM ta) := ⟨fun pos pins s σ H Q I ⟨K1, h, m⟩ => wpAny_mono (ha.run pos pins s σ H K1 I h) (fun us s' ⟨vs, H', I', r, q⟩ => ⟨vs, H', I', r, m _ _ q⟩) fun _ _ z => z⟩
theorem pmk_why {X : Cx} {x f : Str} {ps : List Str} {e : Expr} {ta : TA} {p pos : Pos} (G : InitG X.prog X.w X.K X.mg X.base x f ps) (hr : Room 2 X.A) (hg : Gl X x) (hm : X.mg x = some (.ref (He.ga X.K x))) (ha : PA X [e] ta)
    (hdb : (x == ("__debug__" : Str)) = false := by decide) (he : starEach [e] X.env = (false, eval e X.env) :: starEach [] X.env := by rfl) (hpl : (backTo pos (starEach [] X.env)).any (·.1) = false := by rfl) :
    PMk X (.Call (.Name x p) [e] [] pos) (tWhy (He.ga X.K x) f ta) := by
  intro pins s σ H Q I h
  obtain ⟨fd, F, hb⟩ := G.ex
  refine pmk_oex (CX := CX0) (dvs := []) (ds := []) G.own.oex G.own.iC G.own.tI F hr hb .nil pass0 hg hm (pa_M ha) hdb he hpl pins s σ H Q I ⟨_, h, fun vs H1 ⟨v, ev, q⟩ => ?_⟩
  subst ev
  refine ⟨by simp, fun a na => ⟨a, v, rfl, upd_same, fun dx nd ne => ⟨rfl, dx, [(f, v)], upd_same, ?_, ?_, ?_⟩⟩⟩
  · rw [upd_ne ne, upd_same]
  · rw [upd_ne ne] at nd; exact nd
  · rw [upd_ne ne] at nd
    have e : upd (del (upd (upd (upd H1 a (exo a (He.ga X.K x) none)) dx (exd dx [(f, v)])) a (exo a (He.ga X.K x) (some dx))) a) dx (.xd [(f, v)]) = upd H1 dx (.xd [(f, v)]) := funext fun b => by
      by_cases z : b = dx
      · rw [z, upd_same, upd_same]
      · rw [upd_ne z, upd_ne z]
        by_cases y : b = a
        · rw [y, del_same, na]
        · rw [del_ne y, upd_ne y, upd_ne z, upd_ne y]
    rw [e]
    exact q dx nd
theorem pmk_whyK {P : Program} {w : World} {K : PySem.W.Frag} {mg : Str → Option Value} {base : Heap} {X : Cx} {x f : Str} {ps : List Str} {e : Expr} {ta : TA} {p pos : Pos} (e1 : X.prog = P) (e2 : X.w = w) (e3 : X.K = K) (e4 : X.mg = mg) (e5 : X.base = base) (G : InitG P w K mg base x f ps) (hr : Room 2 X.A) (hg : Gl X x) (hm : mg x = some (.ref (He.ga K x))) (ha : PA X [e] ta)
    (hdb : (x == ("__debug__" : Str)) = false := by decide) (he : starEach [e] X.env = (false, eval e X.env) :: starEach [] X.env := by rfl) (hpl : (backTo pos (starEach [] X.env)).any (·.1) = false := by rfl) :
    PMk X (.Call (.Name x p) [e] [] pos) (tWhy (He.ga K x) f ta) := by
  subst e1 e2 e3 e4 e5
  exact pmk_why G hr hg hm ha hdb he hpl
theorem pe_xfK {X : Cx} {K : PySem.W.Frag} {a C : Addr} {oe : Obj} {cls : Value} {d : Option Addr} {pn : List (Addr × Obj)} {e : Expr} {te : TE} {pos : Pos} {n : Str} (hK : X.K = K) (T : XfC K C) (hno : PySem.W.findIn K (.ref C) n = some none)
    (hz : Zc cls d oe) (hf : ∃ vs, oe.data = .fields vs) (he : PE (X.suite a ((a, oe) :: pn)) e te) (hb : attributeBase e n X.env (eval e X.env) = eval e X.env := by rfl) :
    PE (X.suite a ((a, oe) :: pn)) (.Attribute e n pos) (tXf a cls d C n te) := by
  subst hK; exact pe_xf T hno hz hf he hb
end Hk

set_option Elab.async false
set_option linter.all false
set_option maxRecDepth 100000
set_option maxHeartbeats 4000000
/-! isinstance of a caught exception, with a dict of its own or none. -/
namespace Hk
open PySem PySem.Spec PyProof.Rows L2
def XdAt (H : Hp) (d : Option Addr) : Prop := ∀ dd, d = some dd → ∃ fs, H dd = some (.xd fs)
theorem XdAt.none {H : Hp} : XdAt H none := fun _ z => by cases z
theorem XdAt.same {H H' : Hp} {d : Option Addr} (h : XdAt H d) (s : Same H H') : XdAt H' d := fun dd e => (h dd e).elim fun fs q => ⟨fs, s _ _ q⟩
def rIsED (K : PySem.W.Frag) (D a : Addr) (d : Option Addr) : List V → Hp → VK → Prop := fun xs H Q => ∃ (c : V) (cv : Value) (b : Bool), xs = [.ref a, c] ∧ (∀ u, RelV c u → u = cv) ∧ PySem.W.kitOne K (.ref D) cv = some b ∧ XdAt H d ∧ Q (.bl b) H
theorem call_isED {X : Cx} {K : PySem.W.Frag} {a D : Addr} {oe : Obj} {pn : List (Addr × Obj)} {cls : Value} {d : Option Addr} (hK : X.K = K) (C : ExcC K D) (e1 : cls = .ref D) (hz : Zc cls d oe) (hf : ∃ vs, oe.data = .fields vs) : CallR (X.suite a ((a, oe) :: pn)) (.builtin "isinstance") (rIsED K D a d) := by
  subst hK; subst e1
  intro pins s σ H xs us Q I r h
  obtain ⟨c, cv, b, rfl, hcv, e, hd, q⟩ := h
  cases r with
  | cons rx rr =>
    cases rr with
    | cons rt rr =>
      cases rr
      cases rx
      have ec := hcv _ rt
      subst ec
      obtain ⟨hget, _⟩ := I.pin (a, oe) (List.mem_append.mpr (.inl List.mem_cons_self))
      obtain ⟨vs, hv⟩ := hf
      have hn : PySem.W.notCls oe = true := by unfold PySem.W.notCls; rw [hv] <;> rfl
      have J : ∃ od, PySem.W.InstAt s.heap a oe D od := by
        cases d with
        | none => exact ⟨none, hget, hz.1, hn, by rw [hz.2]; trivial⟩
        | some dd =>
          obtain ⟨fs, ea⟩ := hd dd rfl
          have hx : ObjOk X.prog X.w H s.heap dd (.xd fs) := I.hok dd _ ea
          obtain ⟨mA, hns, hr⟩ := hx
          obtain ⟨od, ho, hl⟩ := lookIn_ns hns
          exact ⟨some od, hget, hz.1, hn, by rw [hz.2]; exact ho⟩
      obtain ⟨od, J⟩ := J
      have hcl : (PySem.W.clsIn X.K D).isSome = true := by
        obtain ⟨cd, hc, _⟩ := PySem.W.any_some C.hd
        rw [hc]; rfl
      exact PySem.W.kia_one (PySem.W.kitx_exc hcl C.hg C.hk C.hs C.ha C.hn C.ht C.hm) I.kIn J e (fun z => nomatch z) fun tk => ⟨.bl b, H, I.kept (t' := tk) fun _ _ z => z, rfl, q⟩
def tClsD (K : PySem.W.Frag) (cls : Value) (t : Addr → TS) : TS := fun Dn σ H => ∃ D, cls = .ref D ∧ ExcC K D ∧ t D Dn σ H
theorem pss_clsD {X : Cx} {cls : Value} {ss : List Stmt} {t : Addr → TS} {K : PySem.W.Frag} (h : ∀ D, cls = .ref D → ExcC K D → PSs X ss (t D)) : PSs X ss (tClsD K cls t) :=
  ⟨fun pins s σ H Dn I ⟨D, e1, C, q⟩ => (h D e1 C).run pins s σ H Dn I q⟩
theorem rIsED_ref {K : PySem.W.Frag} {D a C : Addr} {d : Option Addr} {b : Bool} {H : Hp} {Q : VK} (h : PySem.W.kitOne K (.ref D) (.ref C) = some b) (hx : XdAt H d) (q : Q (.bl b) H) : rIsED K D a d [.ref a, .ref C] H Q := ⟨_, _, b, rfl, fun u hu => hu, h, hx, q⟩
theorem rIsED_ty {K : PySem.W.Frag} {D a : Addr} {n : String} {d : Option Addr} {b : Bool} {H : Hp} {Q : VK} (h : PySem.W.kitOne K (.ref D) (.type n) = some b) (hx : XdAt H d) (q : Q (.bl b) H) : rIsED K D a d [.ref a, .ty n] H Q := ⟨_, _, b, rfl, fun u hu => hu, h, hx, q⟩
end Hk

set_option Elab.async false
set_option linter.all false
set_option maxRecDepth 100000
set_option maxHeartbeats 4000000
/-! try .. except x as n: .., other clauses behind it, where the first one takes all that is raised. -/
namespace Hk
open PySem PySem.Spec PyProof.Rows L2
def wAs1 (K : PySem.W.Frag) (c : Value) (i : Nat) (ts : Addr → Value → Option Addr → TS) (D : Ends) : WX := fun cls d σ H =>
  PySem.W.exmOne K cls c = some true ∧ ∀ a, H a = none → ts a cls d ⟨fun σ2 H2 => D.nx (σ2.set i none) H2, D.rt, fun σ2 H2 => D.bk (σ2.set i none) H2, fun σ2 H2 => D.ct (σ2.set i none) H2⟩ (σ.set i (some (.ref a))) H
section
variable {X : Cx} {x n : Str} {c : Value} {i : Nat} {body suite : List Stmt} {b0 : Stmt} {np pos pos2 : Pos} {tb : WX → TS} {ts : Addr → Value → Option Addr → TS} {hds : List ExceptHandler}
theorem ps_try_as1 (h1 : X.stack = X.env :: X.outer) (h2 : X.env.frame = some X.env.locals) (hN : X.N.Nodup) (hi : X.N[i]? = some n) (hl : X.env.kindOf n = some .local) (hc : Names X x c)
    (hb : ∀ (W : WX) (pn : List (Addr × Obj)) (xe : Value → Shared → Prop), Takes (X.tr pn xe) W → PassesOwn (model X.prog X.w) X.A X.env xe → PSs (X.tr pn xe) body (tb W))
    (hsu : ∀ (a : Addr) (oe : Obj) (cls : Value) (d : Option Addr) (pn : List (Addr × Obj)), Zc cls d oe → (∃ vs, oe.data = .fields vs) → PSs (X.suite a ((a, oe) :: pn)) (b0 :: suite) (ts a cls d)) :
    PS X (.Try body (.ExceptHandler (some (.Name x np)) (some n) (b0 :: suite) pos2 :: hds) [] [] pos) (fun D σ H => tb (wAs1 X.K c i ts D) D σ H) := by
  refine ⟨fun pins s σ H D I h => ?_⟩
  have ok := I.ok
  have hfr : X.A.frames = some (X.env :: X.outer) := by rw [ok.frames, h1]
  refine wpAny_Try_except ?_
  refine wpAny_mono ((hb (wAs1 X.K c i ts D) (X.pn ++ pins) (fun e sa => wpAny (model X.prog X.w) X.A (noteFrame e X.env) (fun _ sb => wpAny (model X.prog X.w) X.A (setFlight e none) (fun _ sc =>
    wpAny (model X.prog X.w) X.A (handleBy e X.env (.ExceptHandler (some (.Name x np)) (some n) (b0 :: suite) pos2 :: hds)) (SP X pins D) X.xe sc) X.xe sb) X.xe sa) (fun u s1 xx => ?_) PassesOwn.looking).run [] s σ H D (I.toTry _) h) (fun f s1 r => ?_) (fun e s1 he => he)
  · obtain ⟨a, B, sI, pinz, σ1, H1, cls, d, rfl, J0, nb, up, sky, na, os, ag, hm1, hyes⟩ := xx
    have J : Inv X pins σ1 H1 sI := J0.ofTry ok
    have sky2 : Sky B (X.env :: X.outer) a (Zc cls d) X.env.locals s1.heap := by rw [← h1]; exact sky
    show wpAny (model X.prog X.w) X.A (noteFrame (.ref a) X.env) _ _ _
    refine Sky.land Zc.steady hfr h2 sky2 fun g3 fl3 up3 => ?_
    have J3 : Inv X pins σ1 H1 { s1 with heap := g3 } := J.landed nb fl3.1 (up.trans up3) os ag
    obtain ⟨o3, vs3, at3, hz3, hd3⟩ := fl3.there
    have nfr : a ∉ frs (X.env :: X.outer) := fun hm => by
      obtain ⟨_, o', e', hnf⟩ := fl3.2.2.1.mem hm
      rw [at3] at e'; cases e'
      exact hnf _ hd3
    have nL : a ≠ X.env.locals := fun z => nfr (List.mem_filterMap.mpr ⟨X.env, List.mem_cons_self, by rw [h2, z]⟩)
    have nF : a ∉ X.fs := fun hm => by
      obtain ⟨e, he, q⟩ := List.mem_filterMap.mp hm
      exact nfr (List.mem_filterMap.mpr ⟨e, List.mem_cons_of_mem _ he, q⟩)
    have S3 := J3.suite at3 hd3 na nL nF
    refine wpAny_handleBy_cons (codeAny_handlers_test ?_) (by intro q; cases q)
    have LT : PySem.W.Looks (model X.prog X.w) g3 (typeOf (.ref a)) cls := fun A Q E s k q => wpAny_typeOf_ref (k _ _ at3) (by rw [hz3.1]; exact q)
    have LM := PySem.W.exm_one (M := model X.prog X.w) (J3.kIn) LT hm1
    have look : ∀ {Q : Value → Shared → Prop} {E : Value → Shared → Prop}, Q c { s1 with heap := g3 } → wpAny (model X.prog X.w) (X.A.mark (some (.ref a))) (eval (.Name x np) X.env) Q E { s1 with heap := g3 } := fun {Q E} q => by
      obtain ⟨hg, hdbg, hm | ⟨hm, hv, hnn⟩⟩ := hc
      · exact ld_glob (X := X.suite a ((a, o3) :: (X.pn ++ pins))) S3 hg hm q hdbg
      · exact ld_blt (X := X.suite a ((a, o3) :: (X.pn ++ pins))) S3 hg hm hv q hnn hdbg
    refine look (LM.here (codeAny_handlers_suite_as (HandSPX.lands_againZ fl3 fun g4 fl4 up4 => ?_)))
    have J4 : Inv X pins σ1 H1 { s1 with heap := g4 } := J.landed nb fl4.1 ((up.trans up3).trans up4) os ag
    obtain ⟨o4, vs4, at4, hz4, hd4⟩ := fl4.there
    refine store_ok (X := X.suite a ((a, o4) :: (X.pn ++ pins))) (v := .ref a) (J4.suite at4 hd4 na nL nF) hN hi (.inl hl) rfl (fun s5 S5 => ?_) (.inr hl)
    refine wpAny_mono ((hsu a o4 cls d (X.pn ++ pins) hz4 ⟨_, hd4⟩).run [] s5 _ H1 _ S5 (hyes a na)) (fun f s6 r => ?_) (fun _ _ z => False.elim z)
    have fin : ∀ {σ6 : L2.St} {H6 : Hp} {Q : Shared → Prop}, Inv (X.suite a ((a, o4) :: (X.pn ++ pins))) [] σ6 H6 s6 → (∀ s7, Inv X pins (σ6.set i none) H6 s7 → Q s7) →
        wpAny (model X.prog X.w) X.A (do bindName X.env n .none; unbindBehindTheSuite X.env n pos2) (fun _ s7 => Q s7) X.xe s6 := fun S6 hq => gone_ok (S6.unsuite ok) hN hi hl hq
    cases f with
    | ret u =>
      obtain ⟨v6, σ6, H6, S6, r6, q6⟩ := r
      exact fin S6 fun s7 J7 => ⟨_, _, _, J7, r6, q6⟩
    | next => exact r.elim fun σ6 z => z.elim fun H6 y => fin y.1 fun s7 J7 => ⟨_, _, J7, y.2⟩
    | brk => exact r.elim fun σ6 z => z.elim fun H6 y => fin y.1 fun s7 J7 => ⟨_, _, J7, y.2⟩
    | cont => exact r.elim fun σ6 z => z.elim fun H6 y => fin y.1 fun s7 J7 => ⟨_, _, J7, y.2⟩
  · cases f with
    | next => exact r.elim fun σ6 z => z.elim fun H6 y => wpAny_execs_nil ⟨σ6, H6, y.1.ofTry ok, y.2⟩
    | brk => exact r.elim fun σ6 z => z.elim fun H6 y => ⟨σ6, H6, y.1.ofTry ok, y.2⟩
    | cont => exact r.elim fun σ6 z => z.elim fun H6 y => ⟨σ6, H6, y.1.ofTry ok, y.2⟩
    | ret u =>
      obtain ⟨v, σ6, H6, J6, rv, q⟩ := r
      exact ⟨v, σ6, H6, J6.ofTry ok, rv, q⟩
end
end Hk

set_option Elab.async false
set_option linter.all false
set_option maxRecDepth 100000
set_option maxHeartbeats 4000000
/-! A def of the top that may raise, called within try. -/
namespace Hk
open PySem PySem.Spec PyProof.Rows L2
section
variable {X : Cx} {CX : CXT} {k : Nat} {x : Str} {ps : List Str} {sp : Sp} {E : L2.St → XK} {pos p : Pos} {e : Expr} {es : List Expr} {t : TA}
theorem pe_callGS (G : Glob X.prog X.w X.K X.mg X.base CX k x ps [] sp) (hr : Room k X.A) (hg : Gl X x) (hx : ∀ σ, PassesAt CX X σ (E σ)) (ha : PA X (e :: es) t)
    (hdb : (x == ("__debug__" : Str)) = false := by decide) (he : starEach (e :: es) X.env = (false, eval e X.env) :: starEach es X.env := by rfl) (hpl : (backTo pos (starEach es X.env)).any (·.1) = false := by rfl) :
    PE X (.Call (.Name x p) (e :: es) [] pos) (tCallS sp E t) := by
  refine ⟨fun pins s σ H Q I h => ?_⟩
  obtain ⟨f, fd, ds, F, hm, kp, vd, hb⟩ := G.ex
  cases vd
  exact (pe_callS F hr hg hm kp hb hx ha hdb he hpl).run pins s σ H Q I h
theorem pe_callGSD {dvs : List V} (G : Glob X.prog X.w X.K X.mg X.base CX k x ps dvs sp) (hr : Room k X.A) (hg : Gl X x) (hx : ∀ σ, PassesAt CX X σ (E σ)) (ha : PA X (e :: es) t)
    (hdb : (x == ("__debug__" : Str)) = false := by decide) (he : starEach (e :: es) X.env = (false, eval e X.env) :: starEach es X.env := by rfl) (hpl : (backTo pos (starEach es X.env)).any (·.1) = false := by rfl) :
    PE X (.Call (.Name x p) (e :: es) [] pos) (tCallSD sp dvs E t) := by
  refine ⟨fun pins s σ H Q I h => ?_⟩
  obtain ⟨f, fd, ds, F, hm, kp, vd, hb⟩ := G.ex
  exact (pe_callSD F hr hg hm kp hb vd hx ha hdb he hpl).run pins s σ H Q I h
end
end Hk

set_option Elab.async false
set_option linter.all false
set_option maxRecDepth 100000
set_option maxHeartbeats 4000000
/-! Frames: what a call may change. -/
namespace Hk
open PySem PySem.Spec PySem.W PyProof.Rows L2 LamX NdefX
/-- what never changes -/
def Imm : HO → Prop
  | .tup _ => True
  | .frz _ _ => True
  | .ext _ => True
  | _ => False
theorem imm_fn {f : Addr} {F : NF} : Imm (FnO f F) := by unfold FnO; trivial
theorem imm_lam {f : Addr} {F : LF} : Imm (LamO f F) := by unfold LamO; trivial
theorem imm_code {f : Addr} {q : Str} : Imm (CodeO f q) := by unfold CodeO; trivial
theorem imm_cell {c : Addr} {v : V} {ob : Obj} : Imm (CellO c v ob) := by unfold CellO; trivial
/-- changed at most where S is and at the tables; what never changes stands; the tables are as they should -/
structure Fw (Ts : List Addr) (nm : Nat → Nat → Str) (S : Addr → Prop) (H H' : Hp) : Prop where
  keep : ∀ b o, H b = some o → (Imm o ∨ (¬ S b ∧ b ∉ Ts)) → H' b = some o
  dom : ∀ b, H' b = none → H b = none
  tab : Tabs1 Ts nm H'
section
variable {Ts : List Addr} {nm : Nat → Nat → Str} {S S' : Addr → Prop} {H H1 H2 : Hp} {a b p : Addr} {o : HO} {xs : List V}
theorem Fw.refl (t : Tabs1 Ts nm H) : Fw Ts nm S H H := ⟨fun _ _ h _ => h, fun _ h => h, t⟩
theorem Fw.trans (x : Fw Ts nm S H H1) (y : Fw Ts nm S H1 H2) : Fw Ts nm S H H2 := ⟨fun b o h z => y.keep b o (x.keep b o h z) z, fun b h => x.dom b (y.dom b h), y.tab⟩
theorem Fw.mono (x : Fw Ts nm S H H1) (h : ∀ b, S b → S' b) : Fw Ts nm S' H H1 := ⟨fun b o e z => x.keep b o e (z.imp id fun n => ⟨fun q => n.1 (h b q), n.2⟩), x.dom, x.tab⟩
theorem Fw.of_same (s : Same H H1) (t : Tabs1 Ts nm H) : Fw Ts nm S H H1 := ⟨fun b o h _ => s b o h, fun b h => s.free h, t.ext s⟩
/-- tables alone -/
theorem Fw.of_off (t : Tabs1 Ts nm H) (e : ∀ b o, H b = some o → b ∉ Ts → H1 b = some o) (d : ∀ b, H1 b = none → H b = none) (t1 : Tabs1 Ts nm H1) : Fw Ts nm S H H1 :=
  ⟨fun b o h z => e b o h (z.elim (fun i hb => by
    obtain ⟨ps, e, _⟩ := t b hb
    rw [h] at e; cases e; exact i) fun n => n.2), d, t1⟩
theorem Tabs1.put {o' : HO} (t : Tabs1 Ts nm H) (h : H a = some o') (n1 : ∀ ps, o' ≠ .tbl ps) (n2 : ¬ Imm o') : Tabs1 Ts nm (upd H a o) := t.ext2
  (fun b ps e => by rw [upd_ne (fun z => by rw [z, h] at e; exact n1 ps (Option.some.inj e))]; exact e) (fun c q e => by rw [upd_ne (fun z => by rw [z, h] at e; exact n2 (Option.some.inj e ▸ imm_code))]; exact e)
theorem Tabs1.new (t : Tabs1 Ts nm H) (h : H a = none) : Tabs1 Ts nm (upd H a o) := t.ext fun b u e => by rw [upd_ne (ne_of_none e h)]; exact e
theorem upd_dom {e : upd H a o b = none} : H b = none := by
  unfold upd at e; split at e
  · cases e
  · exact e
/-- a store to what may change -/
theorem Fw.put {o' : HO} (x : Fw Ts nm S H H1) (h : H1 a = some o') (n1 : ∀ ps, o' ≠ .tbl ps) (n2 : ¬ Imm o') (hS : S a ∨ H a = none) : Fw Ts nm S H (upd H1 a o) := by
  refine ⟨fun b u e z => ?_, fun b e => x.dom b (upd_dom (e := e)), x.tab.put h n1 n2⟩
  have e1 := x.keep b u e z
  rw [upd_ne (fun q => ?_)]
  · exact e1
  · subst q
    rw [h] at e1; cases e1
    rcases hS with hS | hS
    · exact z.elim n2 fun n => n.1 hS
    · rw [hS] at e; cases e
theorem Fw.new (x : Fw Ts nm S H H1) (h : H1 p = none) : Fw Ts nm S H (upd H1 p o) :=
  x.trans ⟨fun b u e _ => by rw [upd_ne (ne_of_none e h)]; exact e, fun b e => upd_dom (e := e), x.tab.new h⟩
theorem Fw.same (x : Fw Ts nm S H H1) (s : Same H1 H2) : Fw Ts nm S H H2 := x.trans (.of_same s x.tab)
theorem Fw.free (x : Fw Ts nm S H H1) (h : H1 p = none) : H p = none := x.dom p h
theorem Fw.imm (x : Fw Ts nm S H H1) (h : H b = some o) (i : Imm o) : H1 b = some o := x.keep b o h (.inl i)
theorem Fw.at_ (x : Fw Ts nm S H H1) (t : Tabs1 Ts nm H) (h : H b = some o) (n1 : ∀ ps, o ≠ .tbl ps) (n : ¬ S b) : H1 b = some o := x.keep b o h (.inr ⟨n, t.nt h n1⟩)
theorem Fw.lst (x : Fw Ts nm S H H1) (t : Tabs1 Ts nm H) (h : H b = some (.lst xs)) (n : ¬ S b) : H1 b = some (.lst xs) := x.at_ t h (fun _ z => by cases z) n
theorem Fw.tup (x : Fw Ts nm S H H1) (h : H b = some (.tup xs)) : H1 b = some (.tup xs) := x.imm h trivial
end
theorem inC_nil {a : Addr} : ¬ InC [] a := fun ⟨y, e⟩ => by cases e
theorem delC_nil {H : Hp} : delC [] H = H := funext fun a => delC_out inC_nil
theorem putC_nil {G H : Hp} : putC [] G H = H := funext fun a => putC_out inC_nil
theorem capsNil {H : Hp} : CapsAt [] [] [] H := ⟨rfl, (fun x y c e => by cases e), (fun y c e => by cases e), (fun i y e => by simp at e)⟩
theorem TupsAt.app {H : Hp} : ∀ {ts us : List Addr} {xs ys : List (List V)}, TupsAt H ts xs → TupsAt H us ys → TupsAt H (ts ++ us) (xs ++ ys)
  | [], _, [], _, _, h => h
  | _ :: _, _, _ :: _, _, h, g => ⟨h.1, TupsAt.app h.2 g⟩
  | [], _, _ :: _, _, h, _ => h.elim
  | _ :: _, _, [], _, h, _ => h.elim
theorem TupsAt.put {H : Hp} {p : Addr} {o u : HO} {ts : List Addr} {xs : List (List V)} (h : TupsAt H ts xs) (e : H p = some u) (n : ∀ ys, u ≠ .tup ys) : TupsAt (upd H p o) ts xs := h.mono fun t x q => by
  rw [upd_ne (fun z => by rw [z, e] at q; exact n _ (Option.some.inj q))]; exact q
/-- the promise sp brings, from vs and H, to R, or raises to RE -/
def Runs (sp : Sp) (vs : List V) (H : Hp) (R : VK) (RE : XK) : Prop := ∀ (Q : VK) (E : XK), (∀ v H', R v H' → Q v H') → (∀ c d H', RE c d H' → E c d H') → sp vs H Q E
theorem Runs.mono {sp : Sp} {vs : List V} {H : Hp} {R R' : VK} {RE RE' : XK} (h : Runs sp vs H R RE) (a : ∀ v H', R v H' → R' v H') (b : ∀ c d H', RE c d H' → RE' c d H') : Runs sp vs H R' RE' := fun Q E q e => h Q E (fun v H' r => q v H' (a v H' r)) (fun c d H' r => e c d H' (b c d H' r))
theorem Runs.at0 {sp : Sp} {vs : List V} {H : Hp} {R : VK} {Q : VK} {E : XK} (h : Runs sp vs H R E0) (a : ∀ v H', R v H' → Q v H') : sp vs H Q E := h Q E a fun _ _ _ z => z.elim
/-! ### closures at the heap -/
/-- at f a function whose words are mk, its captured names fr holding ws -/
def CloAt (H : Hp) (f : Addr) (mk : List (Str × Addr) → Addr → NF) (fr : List Str) (ws : List V) : Prop := ∃ cl c, H f = some (FnO f (mk cl c)) ∧ (mk cl c).cl = cl ∧ (mk cl c).c = c ∧ H c = some (CodeO c (mk cl c).qual) ∧ CapsAt cl fr ws H
theorem CloAt.mono {H H' : Hp} {f : Addr} {mk : List (Str × Addr) → Addr → NF} {fr : List Str} {ws : List V} (h : CloAt H f mk fr ws) (e : ∀ b o, H b = some o → Imm o → H' b = some o) : CloAt H' f mk fr ws := by
  obtain ⟨cl, c, h1, h2, h3, h4, h5⟩ := h
  exact ⟨cl, c, e _ _ h1 imm_fn, h2, h3, e _ _ h4 imm_code, h5.mono fun a _ v ⟨ob, q⟩ => ⟨ob, e _ _ q imm_cell⟩⟩
theorem CloAt.fw {Ts : List Addr} {nm : Nat → Nat → Str} {S : Addr → Prop} {H H' : Hp} {f : Addr} {mk : List (Str × Addr) → Addr → NF} {fr : List Str} {ws : List V} (h : CloAt H f mk fr ws) (e : Fw Ts nm S H H') : CloAt H' f mk fr ws := h.mono fun b o q i => e.imm q i
theorem CloAt.same {H H' : Hp} {f : Addr} {mk : List (Str × Addr) → Addr → NF} {fr : List Str} {ws : List V} (h : CloAt H f mk fr ws) (e : Same H H') : CloAt H' f mk fr ws := h.mono fun b o q _ => e b o q
/-- behind its maker -/
theorem made_clo {cm : List (Str × Addr)} {sc : Scope} {N : List Str} {σ : L2.St} {obs : Addr → Obj} {H : Hp} {f c : Addr} {F : NF} {mk : List (Str × Addr) → Addr → NF} {fr N' ps' : List Str} {ws : List V} (C : CEnv cm sc N H) (hf : H f = some (FnO f F)) (hc : H c = some (CodeO c F.qual)) (hF : F = mk (cloFrom cm F.scope.names []) c) (hcl : F.cl = cloFrom cm F.scope.names []) (hcc : F.c = c)
    (js : List Nat) (hb : ndefB sc F.scope fr = true) (S : NScope N' ps' fr F.scope) (hjs : js.map (fun j => N[j]?) = fr.map some) (hws : js.map (fun j => σ[j]?) = ws.map (fun v => some (some v))) : CloAt (exC cm sc N σ obs H) f mk fr ws :=
  ⟨cloFrom cm F.scope.names [], c, hF ▸ C.same _ _ hf, hF ▸ hcl, hF ▸ hcc, hF ▸ C.same _ _ hc, C.caps hb S.free hjs hws (fun a o h _ => h)⟩
theorem putC_upd {cl : List (Str × Addr)} {G H : Hp} {p : Addr} {o : HO} (n : ¬ InC cl p) : putC cl G (upd H p o) = upd (putC cl G H) p o := funext fun b => by
  by_cases e : b = p
  · subst e; rw [putC_out n, upd_same, upd_same]
  · rw [upd_ne e]
    by_cases z : InC cl b
    · rw [putC_in z, putC_in z]
    · rw [putC_out z, putC_out z, upd_ne e]
theorem putC_del {cl : List (Str × Addr)} {H : Hp} : putC cl H (delC cl H) = H := funext fun b => by
  by_cases z : InC cl b
  · rw [putC_in z]
  · rw [putC_out z, delC_out z]
/-- a closure is called -/
theorem clo_runs {P : Program} {w : World} {K : PySem.W.Frag} {mg : Str → Option Value} {base : Heap} {k : Nat} {H : Hp} {f : Addr} {mk : List (Str × Addr) → Addr → NF} {ps fr : List Str} {ws vs : List V} {spN : List (Option V) → Sp} {R : VK} {RE : XK} (C : CloAt H f mk fr ws) (nok : ∀ f cl c, NOk P w K mg base (L2.CX P w) k f (mk cl c) ps fr spN)
    (body : ∀ cl, (∀ b, InC cl b → ∃ v ob, H b = some (CellO b v ob)) → Runs (spN (ws.map some)) vs (delC cl H) (fun v H' => (∀ b, InC cl b → H' b = none) → R v (putC cl H H')) (fun c d H' => (∀ b, InC cl b → H' b = none) → RE c d (putC cl H H'))) : ∃ sp, Act P w K mg base k f sp ∧ Runs sp vs H R RE := by
  obtain ⟨cl, c, h1, h2, h3, h4, h5⟩ := C
  refine ⟨_, act_clo (nok f cl c), fun Q E hq he => ⟨ws, h1, by rw [h3]; exact h4, by rw [h2]; exact h5, ?_⟩⟩
  rw [h2]
  exact body cl (fun b z => (h5.tr z).elim fun v ⟨ob, e⟩ => ⟨v, ob, e⟩) _ _ (fun v H' r z => hq _ _ (r z)) (fun c d H' r z => he _ _ _ (r z))
theorem if_wait3 {c1 c2 c3 W G : Prop} [Decidable c1] [Decidable c2] [Decidable c3] (h : c1 ∨ (c2 ∧ c3)) (x : W) : if c1 then W else if c2 then (if c3 then W else G) else G := by
  rcases h with h | ⟨h, g⟩
  · exact ifP h x
  · by_cases z : c1
    · exact ifP z x
    · exact ifN z (ifP h (ifP g x))
theorem if_go3 {c1 c2 c3 W G : Prop} [Decidable c1] [Decidable c2] [Decidable c3] (h : ¬ (c1 ∨ (c2 ∧ c3))) (x : G) : if c1 then W else if c2 then (if c3 then W else G) else G := by
  refine ifN (fun z => h (.inl z)) ?_
  by_cases z : c2
  · exact ifP z (ifN (fun y => h (.inr ⟨z, y⟩)) x)
  · exact ifN z x
theorem inV_strs {z : Str} : ∀ {zs : List Str}, inV (.str z) (zs.map V.str) = decide (z ∈ zs)
  | [] => rfl
  | y :: r => by
    have ih := inV_strs (z := z) (zs := r)
    unfold inV at ih ⊢
    rw [List.map_cons, List.any_cons, ih]
    unfold eqV
    simp only [List.mem_cons, beq_dec]
    by_cases h : z = y <;> simp [h]
theorem inV_ints {z : Int} : ∀ {zs : List Int}, inV (.int z) (zs.map V.int) = decide (z ∈ zs)
  | [] => rfl
  | y :: r => by
    have ih := inV_ints (z := z) (zs := r)
    unfold inV at ih ⊢
    rw [List.map_cons, List.any_cons, ih]
    unfold eqV
    by_cases h : z = y
    · subst h; simp
    · simp [h, Ne.symm h]
theorem del_ex {cm : List (Str × Addr)} {sc : Scope} {N : List Str} {σ : L2.St} {obs : Addr → Obj} {H : Hp} (C : CEnv cm sc N H) : delC cm (exC cm sc N σ obs H) = H := funext fun b => by
  by_cases z : InC cm b
  · rw [delC_in z, C.free b z]
  · rw [delC_out z, exC_out z]
/-! ### words for simp -/
def isL : Option HO → Bool
  | some (.lst _) => true
  | _ => false
theorem isL_lst {xs : List V} : isL (some (.lst xs)) = true := rfl
theorem tyV_lst {K : PySem.W.Frag} {p : Addr} {H : Hp} (h : isL (H p) = true) : tyV K "list" (.ref p) H = True := by
  cases e : H p with
  | none => rw [e] at h; cases h
  | some o =>
    rw [e] at h
    cases o with
    | lst xs => exact propext ⟨fun _ => trivial, fun _ => .inl ⟨rfl, _, .of e⟩⟩
    | _ => cases h
theorem rAppend_ref {l : Addr} {y : V} {H : Hp} {Q : VK} : rAppend (.ref l) [y] H Q = ∃ xs, H l = some (.lst xs) ∧ xs.length < sizeLine ∧ Q .non (upd H l (.lst (xs ++ [y]))) := by
  unfold rAppend; simp
theorem rExtend_ref {l b : Addr} {H : Hp} {Q : VK} : rExtend (.ref l) [.ref b] H Q = ∃ xs zs, H l = some (.lst xs) ∧ H b = some (.lst zs) ∧ xs.length + zs.length ≤ sizeLine ∧ Q .non (upd H l (.lst (xs ++ zs))) := by
  unfold rExtend; simp
theorem rClear_ref {l : Addr} {H : Hp} {Q : VK} : rClear (.ref l) [] H Q = ∃ xs, H l = some (.lst xs) ∧ Q .non (upd H l (.lst [])) := by
  unfold rClear; simp
theorem rAdd_int {i j : Int} {H : Hp} {Q : VK} : rAdd (.int i) (.int j) H Q = Q (.int (i + j)) H := by unfold rAdd; simp
theorem rSub_int {i j : Int} {H : Hp} {Q : VK} : rSub (.int i) (.int j) H Q = Q (.int (i - j)) H := by unfold rSub; simp
theorem shaped_nil : SeqAt.shaped (.list []) = true := shaped_list 0 (by decide) (fun d hd => nomatch hd)
theorem lt_line {n : Nat} (h : n ≤ 100000) : (n < sizeLine) = True := eq_true (Nat.lt_of_le_of_lt h (by decide))
/-- a comprehension of new tuples -/
theorem lc_tups {α : Type} (xs : List α) (f : α → List V) {J : It} {G : Hp → Prop} {Y : Nat → Hp → V → Hp → Prop} (w : Walk J xs.length G Y) {g : TG} {te : TE} {vs : List Nat} {σ : L2.St} {H1 : Hp} {Q : VK}
    (hn : xs.length ≤ 100000) (hG : ∀ H, Same H1 H → G H)
    (hs : ∀ i a x H H' (R : V → Hp → Prop), xs[i]? = some a → Same H1 H → Y i H x H' → (∀ t H2, H2 t = none → Same H H2 → R (.ref t) (upd H2 t (.tup (f a)))) → g x (wipe σ vs) H' fun σ2 H2 => wipe σ2 vs = wipe σ vs ∧ te σ2 H2 (fun y H4 => R y H4))
    (hd : ∀ D H ts, H1 D = none → Same H1 H → H D = some (.lst (ts.map V.ref)) → TupsAt H ts (xs.map f) → Q (.ref D) H) : LcG J g tYes te vs σ H1 Q := by
  refine lc_accH w No (fun i acc H => Same H1 H ∧ ∃ ts, acc = ts.map V.ref ∧ TupsAt H ts ((xs.take i).map f)) (Nat.lt_of_le_of_lt hn (by decide)) (fun _ _ z => z) ⟨Same.refl _, [], rfl, trivial⟩ (fun H D i acc nD e _ => hG H e.same)
    (fun D i x H H' acc R nD hD hi e hJ hy r0 r1 => ?_) (fun D acc H nD hl e hJ hD => ?_)
  · obtain ⟨s1, ts, rfl, ht⟩ := hJ
    have hx : xs[i]? = some xs[i] := List.getElem?_eq_getElem hi
    have key := hs i xs[i] x H H' (fun y H4 => R (some y) H4) hx e.same hy (fun t H2 nt s2 => ?_)
    · simp only [tYes, if_true]
      exact key
    refine r1 _ _ (.of_same (same_new s2 nt)) ⟨?_, ts ++ [t], by simp, ?_⟩
    · refine s1.trans ((offA_mono (same_new s2 nt)))
    · rw [List.take_add_one, hx, List.map_append]
      have ne : t ≠ D := fun z => by rw [z, s2 _ _ hD] at nt; cases nt
      refine TupsAt.snoc (by rw [offA_ne ne]; exact upd_same) (TupsAt.mono (fun t x h => offA_mono (same_new s2 nt) _ _ h) ht)
  · obtain ⟨s1, ts, rfl, ht⟩ := hJ
    rw [List.take_length] at ht
    exact hd D H ts nD e.same hD (TupsAt.mono (fun t x h => offA_same _ _ h) ht)
/-- sorted by a lambda that captures nothing -/
theorem sort_lam {P : Program} {w : World} {K : PySem.W.Frag} {mg : Str → Option Value} {base : Heap} {k : Nat} {H : Hp} {Q : VK} {l f : Addr} {L : LF} {xs : List V} {spN : List (Option V) → Sp} (hf : H f = some (LamO f L)) (hc : H L.c = some (CodeO L.c L.qual)) (hcl : L.cl = []) (hd : L.dT = none)
    (ac : Act P w K mg base k f (spLam f L [] [] spN)) (hs : SqL K H l xs) (hlen : xs.length ≤ 100000) (key : V → PyData) (hkey : (∀ x ∈ xs, ∃ n, key x = .int n) ∨ ∀ x ∈ xs, ∃ i j, key x = .tuple [.int i, .int j])
    (hsp : ∀ x ∈ xs, ∀ (H' : Hp) (Q' : VK) (E' : XK), Same H H' → (∀ y H'', Same H' H'' → KeyV H'' y (key x) → Q' y H'') → spN [] [x] H' Q' E')
    (q : ∀ p H', Same H H' → H p = none → H' p = some (.lst (xs.mergeSort (dataLe false key))) → Q (.ref p) H') : rSortKey P w K mg base k [.ref l] [.ref f] H Q := by
  refine ⟨l, f, xs, _, key, rfl, rfl, hs, hlen, ac, hkey, fun x hx H' Q' s r => ?_, q⟩
  refine ⟨[], s _ _ hf, s _ _ hc, by rw [hcl]; exact capsNil, by rw [hd]; rfl, ?_⟩
  rw [hcl, delC_nil]
  exact hsp x hx H' _ _ s fun y H'' s2 kv _ => by rw [putC_nil]; exact r y H'' s2 kv
end Hk

set_option Elab.async false
set_option linter.all false
set_option maxRecDepth 100000
set_option maxHeartbeats 4000000
/-! Lambdas that outlive the frame that made them. -/
namespace Hk
open PySem PySem.Spec PySem.W PyProof.Rows L2 LamX NdefX
section
variable {P : Program} {w : World} {K : PySem.W.Frag} {mg : Str → Option Value} {base : Heap} {k : Nat} {H H' : Hp} {f : Addr} {fr : List Str} {ws : List V} {spN : List (Option V) → Sp}
/-- at f a lambda; its captured names fr hold ws; called, it keeps the promise spN -/
def LamR (P : Program) (w : World) (K : PySem.W.Frag) (mg : Str → Option Value) (base : Heap) (k : Nat) (H : Hp) (f : Addr) (fr : List Str) (ws : List V) (spN : List (Option V) → Sp) : Prop :=
  ∃ L : LF, H f = some (LamO f L) ∧ H L.c = some (CodeO L.c L.qual) ∧ L.dT = none ∧ CapsAt L.cl fr ws H ∧ Act P w K mg base k f (spLam f L fr [] spN)
theorem LamR.mono (h : LamR P w K mg base k H f fr ws spN) (e : ∀ b o, H b = some o → Imm o → H' b = some o) : LamR P w K mg base k H' f fr ws spN := by
  obtain ⟨L, h1, h2, h3, h4, h5⟩ := h
  exact ⟨L, e _ _ h1 imm_lam, e _ _ h2 imm_code, h3, h4.mono fun a _ v ⟨ob, q⟩ => ⟨ob, e _ _ q imm_cell⟩, h5⟩
theorem LamR.fw {Ts : List Addr} {nm : Nat → Nat → Str} {S : Addr → Prop} (h : LamR P w K mg base k H f fr ws spN) (e : Fw Ts nm S H H') : LamR P w K mg base k H' f fr ws spN := h.mono fun b o q i => e.imm q i
theorem LamR.same (h : LamR P w K mg base k H f fr ws spN) (e : Same H H') : LamR P w K mg base k H' f fr ws spN := h.mono fun b o q _ => e b o q
theorem LamR.lift {j : Nat} (h : LamR P w K mg base j H f fr ws spN) (l : j ≤ k) : LamR P w K mg base k H f fr ws spN := by
  obtain ⟨L, h1, h2, h3, h4, h5⟩ := h
  exact ⟨L, h1, h2, h3, h4, h5.mono l⟩
/-- behind its maker, or within it, the maker's cells told -/
theorem made_lam {cm : List (Str × Addr)} {sc : Scope} {N : List Str} {σ : L2.St} {obs : Addr → Obj} {L : LF} {N' ps' : List Str} (C : CEnv cm sc N H) (hf : H f = some (LamO f L)) (hc : H L.c = some (CodeO L.c L.qual)) (hcl : L.cl = cloFrom cm L.scope.names []) (hd : L.dT = none)
    (js : List Nat) (hb : ndefB sc L.scope fr = true) (S : NScope N' ps' fr L.scope) (hjs : js.map (fun j => N[j]?) = fr.map some) (hws : js.map (fun j => σ[j]?) = ws.map (fun v => some (some v))) (ac : Act P w K mg base k f (spLam f L fr [] spN)) : LamR P w K mg base k (exC cm sc N σ obs H) f fr ws spN :=
  ⟨L, C.same _ _ hf, C.same _ _ hc, hd, hcl ▸ C.caps hb S.free hjs hws (fun a o h _ => h), ac⟩
theorem LamR.runs {vs : List V} {R : VK} {RE : XK} (C : LamR P w K mg base k H f fr ws spN)
    (body : ∀ cl, (∀ b, InC cl b → ∃ v ob, H b = some (CellO b v ob)) → Runs (spN (ws.map some)) vs (delC cl H) (fun v H' => (∀ b, InC cl b → H' b = none) → R v (putC cl H H')) (fun c d H' => (∀ b, InC cl b → H' b = none) → RE c d (putC cl H H'))) : ∃ sp, Act P w K mg base k f sp ∧ Runs sp vs H R RE := by
  obtain ⟨L, h1, h2, h3, h4, h5⟩ := C
  refine ⟨_, h5, fun Q E hq he => ⟨ws, h1, h2, h4, by unfold DtOk; rw [h3], ?_⟩⟩
  rw [List.append_nil]
  exact body L.cl (fun b z => (h4.tr z).elim fun v ⟨ob, e⟩ => ⟨v, ob, e⟩) _ _ (fun v H' r z => hq _ _ (r z)) (fun c d H' r z => he _ _ _ (r z))
end
/-! ### a lambda whose body shows its cells to what it calls -/
section
variable {P : Program} {w : World} {K : PySem.W.Frag} {mg : Str → Option Value} {base : Heap} {N ps fr : List Str} {L : LF} {f : Addr} {k : Nat} {spN : List (Option V) → Sp}
theorem act_lamE (S : NScope N ps fr L.scope) (hdT : L.dT = none) (len : ∀ ws vs H Q E, spN ws vs H Q E → vs.length = ps.length)
    (hb : ∀ (pm ctv : Value) (us : List Value), us.length = ps.length → bindArgs (L.fd pm ctv) ⟨us, []⟩ = pure (ps.zip us))
    (hbody : NScope N ps fr L.scope → ∀ (A : Around) (outer : List Env) (s : Shared) (H : Hp) (vs : List V) (ws : List (Option V)) (Q : VK) (E : XK), Room k (A.deeper (envF L.nf f s.heap.objs.size)) → CellsOut base outer L.cl → (∀ a, InC L.cl a → H a = none) → ws.length = fr.length → spN ws vs H Q E →
      ∃ te, PE (ncx (L2.CX P w) P w K mg base N L.nf f A outer s H E) L.body te ∧ te (startF N vs ws) H Q) :
    Act P w K mg base (k + 1) f (spLam f L fr [] spN) := fun A outer s H us vs Q E hr e0 r h => by
  obtain ⟨ws, hf, hc, C, hd, q⟩ := h
  rw [List.append_nil] at q
  have lim : s.heap.NoLimit := e0.mod.nolimit.keeps fun b o e => (e0.bs b o e).1
  obtain ⟨od, sl, pm, ctv, ho⟩ := lamO_at e0.hok hf
  have out : CellsOut base outer L.cl := fun a z => by
    obtain ⟨v, ob, e⟩ := C.tr z
    refine ⟨?_, fun hb => by rw [e0.frf a hb] at e; cases e⟩
    cases y : base.get? a with
    | none => rfl
    | some o => rw [(e0.bs a o y).2] at e; cases e
  refine ⟨⟨_, od, _, sl, ho⟩, capsRun C e0 fun e1 C1 => ?_⟩
  have hl := len _ _ _ _ _ q
  have bd : BindsTo s (L.fd pm ctv) ⟨us, []⟩ (ps.zip us) := .of_eq (hb pm ctv us (by rw [← r.length, hl]))
  refine kla_callFunE hr.depth ho rfl S.co S.gen rfl (codeO_at e0.hok hc) (bd _ _ _ _ ?_)
  refine wpAny_newFunctionEnv S.nocell (fun ⟨n, _⟩ hy => S.par n (List.of_mem_zip hy).1) (fun h₁ hns hsb => ⟨lim.fresh _ hsb, ?_⟩) S.kind
  show codeAny _ _ (.expr L.body (envF L.nf f s.heap.objs.size)) _ _
  have kp : ∀ b o, s.heap.get? b = some o → h₁.get? b = some o := fun b o e => hsb.extBut b o (Nat.ne_of_lt (Heap.lt_size e)) (Heap.get?_push_of_some _ e)
  obtain ⟨te, ht, hq⟩ := hbody S A outer s (delC L.cl H) vs (ws.map some) _ _ (hr.deeper _) out (fun a z => delC_in z) C1.len q
  have I := inv_startN (CX := L2.CX P w) (F := L.nf) (f := f) (A := A) (E := fun cls d H' => (∀ a, InC L.cl a → H' a = none) → E cls d (putC L.cl H H')) (tk := s.toks + (ps.zip us).length) S hr.hd e1 hl r C1 hns kp
  refine kla_codeExpr (wpAny_mono (ht.run [] _ _ _ _ I hq) (fun v s' hs => ?_) fun e s' hs => hs)
  obtain ⟨v, H', J, rv, q⟩ := hs
  exact ⟨v, H', J.os, J.bare, J.base, J.hok, rv, q⟩
end
/-! ### behind a frame whose cells were told -/
/-- what stands behind a frame whose cells were told and are gone, or are told again -/
structure Unx (H H2 H3 : Hp) : Prop where
  one : ∀ b o, H2 b = some o → (∀ ob u, o ≠ .frz ob u) → H3 b = some o
  two : ∀ b o, H b = some o → H2 b = some o → H3 b = some o
  dom : ∀ b, H3 b = none → H b = none
structure Aft (H1 H2 : Hp) : Prop where
  imm : ∀ b o, H1 b = some o → Imm o → H2 b = some o
  dom : ∀ b, H2 b = none → H1 b = none
theorem Fw.aft {Ts : List Addr} {nm : Nat → Nat → Str} {S : Addr → Prop} {H H1 : Hp} (w : Fw Ts nm S H H1) : Aft H H1 := ⟨fun b o h i => w.imm h i, w.dom⟩
theorem Aft.upd {H H1 : Hp} {c : Addr} {o o' : HO} (A : Aft H H1) (h : H c = some o') (n : ¬ Imm o') : Aft H (upd H1 c o) := ⟨fun b u e i => by
  rw [upd_ne (fun z => by rw [z, h] at e; exact n (Option.some.inj e ▸ i))]; exact A.imm b u e i, fun b e => A.dom b (upd_dom (e := e))⟩
theorem delC_upd {cl : List (Str × Addr)} {H : Hp} {p : Addr} {o : HO} (n : ¬ InC cl p) : delC cl (upd H p o) = upd (delC cl H) p o := funext fun b => by
  by_cases e : b = p
  · subst e; rw [delC_out n, upd_same, upd_same]
  · rw [upd_ne e]
    by_cases z : InC cl b
    · rw [delC_in z, delC_in z]
    · rw [delC_out z, delC_out z, upd_ne e]
section
variable {cm : List (Str × Addr)} {sc : Scope} {N : List Str} {σ σ' : L2.St} {obs obs' : Addr → Obj} {H H2 H3 : Hp}
theorem unx_nin (C : CEnv cm sc N H2) (tr : ∀ b, InC cm b → ∃ v ob, exC cm sc N σ obs H2 b = some (CellO b v ob)) (A : Aft (exC cm sc N σ obs H2) H3) {b : Addr} {o : HO} (h : H3 b = some o) (n : ∀ ob u, o ≠ .frz ob u) : ¬ InC cm b := fun z => by
  obtain ⟨v, ob, e⟩ := tr b z
  rw [A.imm _ _ e imm_cell] at h
  exact n _ _ (Option.some.inj h).symm
theorem unx_ex (C : CEnv cm sc N H2) (tr : ∀ b, InC cm b → ∃ v ob, exC cm sc N σ obs H2 b = some (CellO b v ob)) (w : ∀ b, H2 b = none → H b = none) (A : Aft (exC cm sc N σ obs H2) H3) : Unx H H3 (exC cm sc N σ' obs' (delC cm H3)) ∧ Unx H H3 (delC cm H3) := by
  have nin : ∀ b o, H b = some o → ¬ InC cm b := fun b o h z => by rw [w b (C.free b z)] at h; cases h
  have dm : ∀ b, ¬ InC cm b → H3 b = none → H b = none := fun b z h => w b (by have := A.dom b h; rw [exC_out z] at this; exact this)
  refine ⟨⟨fun b o h n => ?_, fun b o h h3 => ?_, fun b h => ?_⟩, ⟨fun b o h n => ?_, fun b o h h3 => ?_, fun b h => ?_⟩⟩
  · have z := unx_nin C tr A h n
    rw [exC_out z, delC_out z]; exact h
  · have z := nin b o h
    rw [exC_out z, delC_out z]; exact h3
  · by_cases z : InC cm b
    · exact w b (C.free b z)
    · rw [exC_out z, delC_out z] at h
      exact dm b z h
  · rw [delC_out (unx_nin C tr A h n)]; exact h
  · rw [delC_out (nin b o h)]; exact h3
  · by_cases z : InC cm b
    · exact w b (C.free b z)
    · rw [delC_out z] at h
      exact dm b z h
/-- what was there and is as it was is as it was -/
theorem Unx.fw {Ts : List Addr} {nm : Nat → Nat → Str} {S : Addr → Prop} (U : Unx H H2 H3) (w : Fw Ts nm S H H2) : Fw Ts nm S H H3 :=
  ⟨fun b o h z => U.two b o h (w.keep b o h z), U.dom, w.tab.ext2 (fun b ps e => U.one _ _ e (fun _ _ z => by cases z)) (fun c q e => U.one _ _ e codeO_nf)⟩
end
end Hk

set_option Elab.async false
set_option linter.all false
set_option maxRecDepth 100000
set_option maxHeartbeats 4000000
/-! Defs without a return at the end whose functions outlive them: at the end their cells are told. -/
namespace Hk
open PySem PySem.Spec PyProof.Rows L2 LamX NdefX
def EndN (X : Cx) (Q : VK) (fl : Flow) (s' : Shared) : Prop := ∃ v H', ((fl = .next ∧ v = .non) ∨ ∃ u, fl = .ret u ∧ L2.RelV v u) ∧ s'.os = X.s_0.os ∧ AllBare s'.gens ∧ Un X.fs X.ex X.H_0 H' X.s_0.heap s'.heap ∧ HOk X.prog X.w H' s'.heap ∧ Q v H'
structure PMN (X : Cx) (ss : List Stmt) (t : TM) : Prop where
  run : ∀ (pins : List (Addr × Obj)) (s : Shared) (σ : L2.St) (H : Hp) (Q : VK), Inv X pins σ H s → t Q σ H → wpAny (model X.prog X.w) X.A (execs ss X.env) (EndN X Q) X.xe s
def tMnil (cm : List (Str × Addr)) (sc : Scope) (N : List Str) : TM := fun Q σ H => CEnv cm sc N H → ∀ obs, Q .non (exC cm sc N σ obs H)
section
variable {X : Cx}
theorem pmn_cons {st : Stmt} {ss : List Stmt} {t : TS} {u : TM} (h1 : PS X st t) (h2 : PMN X ss u) : PMN X (st :: ss) (tMseq t u) := by
  refine ⟨fun pins s σ H Q I h => ?_⟩
  refine wpAny_execs_cons (thn (h1.run pins s σ H _ I h) fun f s1 q => ?_)
  cases f with
  | next =>
    obtain ⟨σ', H', I', q⟩ := q
    exact h2.run pins s1 σ' H' Q I' q
  | ret u =>
    obtain ⟨v, σ', H', J, rv, q⟩ := q
    exact ⟨v, H', .inr ⟨u, rfl, rv⟩, J.os, J.bare, J.base, J.hok, q⟩
  | brk =>
    obtain ⟨_, _, _, q⟩ := q
    exact False.elim q
  | cont =>
    obtain ⟨_, _, _, q⟩ := q
    exact False.elim q
theorem pmn_nil (nd : X.N.Nodup) (hfn : ∀ y c, X.env.cells.lookup y = some c → X.fn y = true) : PMN X [] (tMnil X.env.cells X.env.scope X.N) := by
  refine ⟨fun pins s σ H Q I h => ?_⟩
  refine wpAny_execs_nil ?_
  obtain ⟨obs, hok⟩ := exp_facts I nd
  exact ⟨.non, _, .inl ⟨rfl, rfl⟩, I.os, I.bare, un_ex I nd hfn, hok, h (cenv_of I nd) obs⟩
end
section
variable {P : Program} {w : World} {K : PySem.W.Frag} {mg : Str → Option Value} {base : Heap} {k : Nat} {fd : FuncData} {ps : List Str} {sp : Sp} {x : Str} {dvs : List V}
theorem okMN {CX : CXT} {qual : Str} {params : Arguments} {body : List Stmt} {scope : Scope} {kws : List (Str × V)} {N : List Str} {p : Str × Option Str} (F : FunD K x qual params body scope dvs kws (He.fAd K p) fd) (S : FnScope N ps scope) (len : ∀ vs H Q E, sp vs H Q E → vs.length = ps.length)
    (hbody : ∀ (A : Around) (outer : List Env) (s : Shared) (H : Hp) (vs : List V) (Q : VK) (E : XK), Room k (A.deeper (envOfC qual scope s.heap.objs.size (He.fAd K p) (.ref (He.codeOf K p)))) → sp vs H Q E →
      ∃ t, PMN (cxOf CX P w K mg base N qual scope (He.fAd K p) (.ref (He.codeOf K p)) A outer s H E) body t ∧ t Q (start N vs) H) : FnOk P w K mg base CX (k + 1) (He.fAd K p) fd ps sp := by
  obtain ⟨oc, od, dV, kV, doc, pm, an, cdv, ct, osl, rfl, lk, hcd, _, _⟩ := F.ex
  obtain ⟨c, rfl⟩ := He.codeIn_ref hcd
  have ec := He.codeOf_eq lk rfl
  rw [ec] at hbody
  refine ⟨len, fun A outer s H args us vs Q E hr e0 hb r hsp => ?_⟩
  have hl := len _ _ _ _ hsp
  have KX : K.In s.heap := e0.mod.kin.keeps fun b o e => (e0.bs b o e).1
  have lim : s.heap.NoLimit := e0.mod.nolimit.keeps fun b o e => (e0.bs b o e).1
  have hkind : ∀ y ∈ ps.zip us, scope.names.lookup y.1 = some .local ∨ (scope.names.lookup y.1 = some .cell ∧ ((cellsFrom (s.heap.objs.size + 1) scope.names []).lookup y.1).isSome = true) := fun ⟨n, v⟩ hy => by
    rcases S.par n (List.of_mem_zip hy).1 with q | q
    · exact .inl q
    · exact .inr ⟨q, PySem.W.cellsFrom_some _ _ _ (.inl q)⟩
  refine codeAny_call_function hr.depth (KX _ _ lk) rfl S.co S.gen rfl (PySem.W.codeRec_of KX hcd) (hb _ _ _ _ ?_)
  refine wpAny_newFunctionEnv_cells S.kind hkind fun env he s1 x => ?_
  subst he
  refine ⟨lim.keeps x.toInCall.keep, codeAny_func ?_⟩
  obtain ⟨t, ht, hq⟩ := hbody A outer s H vs Q E (hr.deeper _) hsp
  have I : Inv (cxOf CX P w K mg base N qual scope (He.fAd K p) (.ref c) A outer s H E) [] (L2.start N vs) H s1 := inv_start S hr.hd e0 hl r x
  refine wpAny_mono (ht.run [] s1 (L2.start N vs) H Q I hq) (fun fl s' hs => ?_) fun e s' hs => hs
  obtain ⟨v, H', hfl, os, bare, un, hok, q⟩ := hs
  rcases hfl with ⟨rfl, rfl⟩ | ⟨u, rfl, rv⟩
  · exact ⟨.non, H', os, bare, un, hok, rfl, q⟩
  · exact ⟨v, H', os, bare, un, hok, rv, q⟩
end
end Hk

set_option Elab.async false
set_option linter.all false
set_option maxRecDepth 100000
set_option maxHeartbeats 4000000
/-! Calls with keywords: methods, defs, new instances; the callee told of the live frame's cells or not. -/
namespace Hk
open PySem PySem.Spec PyProof.Rows L2
structure MethKG (P : Program) (w : World) (K : PySem.W.Frag) (mg : Str → Option Value) (base : Heap) (CX : CXT) (k : Nat) (C : Addr) (m : Str) (ps : List Str) (n : Nat) (ks : List Str) (gV : List V → List V → List V) (sp : Sp) : Prop where
  ex : ∃ f fd g, Cls K C ∧ Meth K C m f ∧ FnOk P w K mg base CX k f fd ps sp ∧ KBn K fd ps (n + 1) ks g gV
structure GlobK (P : Program) (w : World) (K : PySem.W.Frag) (mg : Str → Option Value) (base : Heap) (CX : CXT) (k : Nat) (x : Str) (ps : List Str) (n : Nat) (ks : List Str) (gV : List V → List V → List V) (sp : Sp) : Prop where
  ex : ∃ f fd g, FnOk P w K mg base CX k f fd ps sp ∧ mg x = some (.ref f) ∧ PySem.W.keepIn K (.ref f) = true ∧ KBn K fd ps n ks g gV
structure MakeKG (P : Program) (w : World) (K : PySem.W.Frag) (mg : Str → Option Value) (base : Heap) (CX : CXT) (k : Nat) (C : Addr) (ps : List Str) (n : Nat) (ks : List Str) (gV : List V → List V → List V) (sp : Sp) : Prop where
  ex : ∃ f fd g, Mk K C f ∧ FnOk P w K mg base CX k f fd ps sp ∧ KBn K fd ps (n + 1) ks g gV
/-- no defaults: all the rest is named -/
theorem FunD.kbindsN {K : PySem.W.Frag} {x qual : Str} {params : Arguments} {body : List Stmt} {scope : Scope} {kws : List (Str × V)} {f : Addr} {fd : FuncData} {ps : List Str} (F : FunD K x qual params body scope [] kws f fd) (n : Nat) (ks : List Str) (g : {α : Type} → List α → List α → List α)
    (hrel : ∀ {vs zs : List V} {us ws : List Value}, Vals vs us → Vals zs ws → Vals (g vs zs) (g us ws))
    (h : ∀ (kV doc pm : Value) (an : Option Addr) (cdv ct : Value) (us ws : List Value), us.length = n → ws.length = ks.length →
      bindArgs (PySem.W.fnOf x qual params body scope .none kV doc pm an cdv ct) ⟨us, ks.zip ws⟩ = pure (ps.zip (g us ws))) : KBn K fd ps n ks (fun us ws => g us ws) (fun vs zs => g vs zs) := by
  obtain ⟨oc, od, dV, kV, doc, pm, an, cdv, ct, osl, rfl, lk, hcd, hD, hK⟩ := F.ex
  rcases hD with ⟨_, rfl⟩ | ⟨e, _⟩
  · exact ⟨fun s us ws X l1 l2 => .of_eq (h kV doc pm an cdv ct us ws l1 l2), fun r1 r2 => hrel r1 r2⟩
  · exact absurd rfl e
theorem Vals.take {vs : List V} {us : List Value} (h : Vals vs us) : ∀ n, Vals (vs.take n) (us.take n) := by
  induction h with
  | nil => intro n; simp only [List.take_nil]; exact .nil
  | cons r _ ih =>
    intro n
    cases n with
    | zero => exact .nil
    | succ n => exact .cons r (ih n)
theorem Vals.drp {vs : List V} {us : List Value} (h : Vals vs us) : ∀ n, Vals (vs.drop n) (us.drop n) := by
  induction h with
  | nil => intro n; simp only [List.drop_nil]; exact .nil
  | cons r t ih =>
    intro n
    cases n with
    | zero => exact .cons r t
    | succ n => exact ih n
/-- o.m(.., k = v) -/
def tMethK (C : Addr) (m : Str) (n nk : Nat) (sp : Sp) (gV : List V → List V → List V) (E : XK) (ta : TE) (t tk : TA) : TE := fun σ H Q => ta σ H fun x H1 => ∃ a dx fs, x = .ref a ∧ H1 a = some (.ins C dx fs) ∧ fs.lookup m = none ∧
  t σ H1 fun vs H2 => tk σ H2 fun zs H3 => vs.length = n ∧ zs.length = nk ∧ sp (gV (.ref a :: vs) zs) H3 Q E
/-- .. the callee told of the frame's cells -/
def tMethKX (C : Addr) (m : Str) (n nk : Nat) (cm : List (Str × Addr)) (sc : Scope) (N : List Str) (sp : Sp) (gV : List V → List V → List V) (E : XK) (ta : TE) (t tk : TA) : TE := fun σ H Q => ta σ H fun x H1 => ∃ a dx fs, x = .ref a ∧ H1 a = some (.ins C dx fs) ∧ fs.lookup m = none ∧
  t σ H1 fun vs H2 => tk σ H2 fun zs H3 => vs.length = n ∧ zs.length = nk ∧ (CEnv cm sc N H3 → ∀ obs, sp (gV (.ref a :: vs) zs) (exC cm sc N σ obs H3) (fun v H' => Q v (delC cm H')) (fun cls d H' => E cls d (delC cm H')))
section
variable {X : Cx} {CX : CXT} {k n : Nat} {C : Addr} {m x : Str} {ps ks : List Str} {gV : List V → List V → List V} {sp : Sp} {E : XK} {apos pos p : Pos} {o e : Expr} {es : List Expr} {kws : List Keyword} {ta : TE} {t tk : TA}
theorem run_kx {pins : List (Addr × Obj)} {σ : L2.St} {H : Hp} {s : Shared} {Q : VK} {f : Addr} {fd : FuncData} {us ws : List Value} {vs zs : List V} {g : List Value → List Value → List Value} (F : FnOk X.prog X.w X.K X.mg X.base (L2.CX X.prog X.w) k f fd ps sp) (hr : Room k X.A) (hb : KBn X.K fd ps n ks g gV)
    (hx : Passes (L2.CX X.prog X.w) X E) (nd : X.N.Nodup) (hfn : ∀ y c, X.env.cells.lookup y = some c → X.fn y = true) (I : Inv X pins σ H s) (r : Vals vs us) (rz : Vals zs ws) (l1 : vs.length = n) (l2 : zs.length = ks.length)
    (q : CEnv X.env.cells X.env.scope X.N H → ∀ obs, sp (gV vs zs) (exC X.env.cells X.env.scope X.N σ obs H) (fun v H' => Q v (delC X.env.cells H')) (fun cls d H' => E cls d (delC X.env.cells H'))) :
    wpAny (model X.prog X.w) X.A (call (.ref f) us (ks.zip ws)) (EP X pins σ Q) X.xe s := by
  refine wpAny_call (codeAny_mono (run_exp (Q := Q) (E := E) I nd hfn hx fun obs e0 => ?_) fun r s' hq => ?_)
  · have q3 := q (cenv_of I nd) obs
    exact F.run X.A X.stack s _ ⟨us, ks.zip ws⟩ (g us ws) (gV vs zs) _ _ hr e0 (hb.to _ us ws I.kIn (r.length.symm.trans l1) (rz.length.symm.trans l2)) (hb.rel r rz) q3
  · cases r with
    | error e => exact hq
    | ok fl =>
      cases fl with
      | ret u => exact hq
      | next => exact False.elim hq
      | brk => exact False.elim hq
      | cont => exact False.elim hq
theorem pe_methKX {pl : Sem Bool} (he : PE X o ta) (G : MethKG X.prog X.w X.K X.mg X.base (L2.CX X.prog X.w) k C m ps n ks gV sp) (hr : Room k X.A) (hx : Passes (L2.CX X.prog X.w) X E) (nd : X.N.Nodup) (hfn : ∀ y c, X.env.cells.lookup y = some c → X.fn y = true) (ha : PA X (e :: es) t) (hkw : PK X kws tk)
    (hall : (backToKw pos (keywordEach kws X.env)).all (·.1.isSome) = true := by rfl) (hks : (backToKw pos (keywordEach kws X.env)).filterMap (·.1) = ks := by rfl)
    (hst : starEach (e :: es) X.env = (false, eval e X.env) :: starEach es X.env := by rfl)
    (hpl : ((backTo pos (starEach (e :: es) X.env)).any (·.1) || (backToKw pos (keywordEach kws X.env)).any (·.1.isNone)) = false := by rfl)
    (ht : eval (.Call (.Attribute o m apos) (e :: es) kws pos) X.env = (do
      let ov ← eval o X.env
      standAt apos.atName
      let (f, first) ← holding [ov] (getMethod ov m pl)
      callWith pos f first (backTo pos (starEach (e :: es) X.env)) (backToKw pos (keywordEach kws X.env))) := by rfl) :
    PE X (.Call (.Attribute o m apos) (e :: es) kws pos) (tMethKX C m n ks.length X.env.cells X.env.scope X.N sp gV E ta t tk) := by
  refine ⟨fun pins s σ H Q I h => ?_⟩
  obtain ⟨f, fd, g, c, hm, F, hb⟩ := G.ex
  refine PySem.W.methodCall_KW (pl := pl) (thn (he.run pins s σ H _ I h) fun u s1 ⟨x, H1, I1, rx, a, dx, fs, ex, ea, l, q⟩ => ?_) ht
  subst ex
  obtain rfl : u = Value.ref a := rx
  refine getmeth_ok I1 ea c hm l ?_
  refine PySem.W.callWith_KW (first := [.ref a]) (h₀ := X.base) I.ok.mod.kin hm.kp hall (thn (ha.run pos pins s1 σ H1 _ I1 q) fun us s2 ⟨vs, H2, I2, r, q2⟩ => ?_) hpl hst
  refine thn (hkw.run pos pins s2 σ H2 _ I2 q2) fun ws s3 ⟨zs, H3, I3, rz, l1, l2, q3⟩ => ⟨I3.kIn, ?_⟩
  rw [hks]
  exact run_kx (vs := .ref a :: vs) (us := .ref a :: us) F hr hb hx nd hfn I3 (.cons rfl r) rz (by rw [List.length_cons, l1]) l2 q3
theorem pe_methKX0 {pl : Sem Bool} (he : PE X o ta) (G : MethKG X.prog X.w X.K X.mg X.base (L2.CX X.prog X.w) k C m ps 0 ks gV sp) (hr : Room k X.A) (hx : Passes (L2.CX X.prog X.w) X E) (nd : X.N.Nodup) (hfn : ∀ y c, X.env.cells.lookup y = some c → X.fn y = true) (hkw : PK X kws tk)
    (hall : (backToKw pos (keywordEach kws X.env)).all (·.1.isSome) = true := by rfl) (hks : (backToKw pos (keywordEach kws X.env)).filterMap (·.1) = ks := by rfl)
    (hpl : ((backTo pos (starEach [] X.env)).any (·.1) || (backToKw pos (keywordEach kws X.env)).any (·.1.isNone)) = false := by rfl)
    (ht : eval (.Call (.Attribute o m apos) [] kws pos) X.env = (do
      let ov ← eval o X.env
      standAt apos.atName
      let (f, first) ← holding [ov] (getMethod ov m pl)
      callWith pos f first (backTo pos (starEach [] X.env)) (backToKw pos (keywordEach kws X.env))) := by rfl) :
    PE X (.Call (.Attribute o m apos) [] kws pos) (tMethKX C m 0 ks.length X.env.cells X.env.scope X.N sp gV E ta tNil tk) := by
  refine ⟨fun pins s σ H Q I h => ?_⟩
  obtain ⟨f, fd, g, c, hm, F, hb⟩ := G.ex
  refine PySem.W.methodCall_KW (pl := pl) (thn (he.run pins s σ H _ I h) fun u s1 ⟨x, H1, I1, rx, a, dx, fs, ex, ea, l, q⟩ => ?_) ht
  subst ex
  obtain rfl : u = Value.ref a := rx
  refine getmeth_ok I1 ea c hm l ?_
  refine PySem.W.callWith_KW0 (first := [.ref a]) (h₀ := X.base) I.ok.mod.kin hm.kp hall (thn (hkw.run pos pins s1 σ H1 _ I1 q) fun ws s3 ⟨zs, H3, I3, rz, l1, l2, q3⟩ => ⟨I3.kIn, ?_⟩) hpl
  rw [hks]
  exact run_kx (vs := [.ref a]) (us := [.ref a]) F hr hb hx nd hfn I3 (.cons rfl .nil) rz rfl l2 q3
end
section
variable {X : Cx} {CX : CXT} {k n : Nat} {C : Addr} {m x : Str} {ps ks : List Str} {gV : List V → List V → List V} {sp : Sp} {E : XK} {apos pos p : Pos} {o e : Expr} {es : List Expr} {kws : List Keyword} {ta : TE} {t tk : TA}
theorem run_k {pins : List (Addr × Obj)} {σ : L2.St} {H : Hp} {s : Shared} {Q : VK} {f : Addr} {fd : FuncData} {us ws : List Value} {vs zs : List V} {g : List Value → List Value → List Value} (F : FnOk X.prog X.w X.K X.mg X.base CX k f fd ps sp) (hr : Room k X.A) (hb : KBn X.K fd ps n ks g gV)
    (hx : Passes CX X E) (I : Inv X pins σ H s) (r : Vals vs us) (rz : Vals zs ws) (l1 : vs.length = n) (l2 : zs.length = ks.length) (q : sp (gV vs zs) H Q E) :
    wpAny (model X.prog X.w) X.A (call (.ref f) us (ks.zip ws)) (EP X pins σ Q) X.xe s := by
  refine wpAny_call (codeAny_mono (F.run X.A X.stack s _ ⟨us, ks.zip ws⟩ (g us ws) (gV vs zs) _ _ hr I.env0 (hb.to _ us ws I.kIn (r.length.symm.trans l1) (rz.length.symm.trans l2)) (hb.rel r rz) q) fun r s' hq => ?_)
  cases r with
  | error e => exact hx pins σ H s e s' I hq
  | ok fl =>
    cases fl with
    | ret u => exact I.after hq
    | next => exact False.elim hq
    | brk => exact False.elim hq
    | cont => exact False.elim hq
theorem pe_methK {pl : Sem Bool} (he : PE X o ta) (G : MethKG X.prog X.w X.K X.mg X.base CX k C m ps n ks gV sp) (hr : Room k X.A) (hx : Passes CX X E) (ha : PA X (e :: es) t) (hkw : PK X kws tk)
    (hall : (backToKw pos (keywordEach kws X.env)).all (·.1.isSome) = true := by rfl) (hks : (backToKw pos (keywordEach kws X.env)).filterMap (·.1) = ks := by rfl)
    (hst : starEach (e :: es) X.env = (false, eval e X.env) :: starEach es X.env := by rfl)
    (hpl : ((backTo pos (starEach (e :: es) X.env)).any (·.1) || (backToKw pos (keywordEach kws X.env)).any (·.1.isNone)) = false := by rfl)
    (ht : eval (.Call (.Attribute o m apos) (e :: es) kws pos) X.env = (do
      let ov ← eval o X.env
      standAt apos.atName
      let (f, first) ← holding [ov] (getMethod ov m pl)
      callWith pos f first (backTo pos (starEach (e :: es) X.env)) (backToKw pos (keywordEach kws X.env))) := by rfl) :
    PE X (.Call (.Attribute o m apos) (e :: es) kws pos) (tMethK C m n ks.length sp gV E ta t tk) := by
  refine ⟨fun pins s σ H Q I h => ?_⟩
  obtain ⟨f, fd, g, c, hm, F, hb⟩ := G.ex
  refine PySem.W.methodCall_KW (pl := pl) (thn (he.run pins s σ H _ I h) fun u s1 ⟨x, H1, I1, rx, a, dx, fs, ex, ea, l, q⟩ => ?_) ht
  subst ex
  obtain rfl : u = Value.ref a := rx
  refine getmeth_ok I1 ea c hm l ?_
  refine PySem.W.callWith_KW (first := [.ref a]) (h₀ := X.base) I.ok.mod.kin hm.kp hall (thn (ha.run pos pins s1 σ H1 _ I1 q) fun us s2 ⟨vs, H2, I2, r, q2⟩ => ?_) hpl hst
  refine thn (hkw.run pos pins s2 σ H2 _ I2 q2) fun ws s3 ⟨zs, H3, I3, rz, l1, l2, q3⟩ => ⟨I3.kIn, ?_⟩
  rw [hks]
  exact run_k (vs := .ref a :: vs) (us := .ref a :: us) F hr hb hx I3 (.cons rfl r) rz (by rw [List.length_cons, l1]) l2 q3
theorem pe_methK0 {pl : Sem Bool} (he : PE X o ta) (G : MethKG X.prog X.w X.K X.mg X.base CX k C m ps 0 ks gV sp) (hr : Room k X.A) (hx : Passes CX X E) (hkw : PK X kws tk)
    (hall : (backToKw pos (keywordEach kws X.env)).all (·.1.isSome) = true := by rfl) (hks : (backToKw pos (keywordEach kws X.env)).filterMap (·.1) = ks := by rfl)
    (hpl : ((backTo pos (starEach [] X.env)).any (·.1) || (backToKw pos (keywordEach kws X.env)).any (·.1.isNone)) = false := by rfl)
    (ht : eval (.Call (.Attribute o m apos) [] kws pos) X.env = (do
      let ov ← eval o X.env
      standAt apos.atName
      let (f, first) ← holding [ov] (getMethod ov m pl)
      callWith pos f first (backTo pos (starEach [] X.env)) (backToKw pos (keywordEach kws X.env))) := by rfl) :
    PE X (.Call (.Attribute o m apos) [] kws pos) (tMethK C m 0 ks.length sp gV E ta tNil tk) := by
  refine ⟨fun pins s σ H Q I h => ?_⟩
  obtain ⟨f, fd, g, c, hm, F, hb⟩ := G.ex
  refine PySem.W.methodCall_KW (pl := pl) (thn (he.run pins s σ H _ I h) fun u s1 ⟨x, H1, I1, rx, a, dx, fs, ex, ea, l, q⟩ => ?_) ht
  subst ex
  obtain rfl : u = Value.ref a := rx
  refine getmeth_ok I1 ea c hm l ?_
  refine PySem.W.callWith_KW0 (first := [.ref a]) (h₀ := X.base) I.ok.mod.kin hm.kp hall (thn (hkw.run pos pins s1 σ H1 _ I1 q) fun ws s3 ⟨zs, H3, I3, rz, l1, l2, q3⟩ => ⟨I3.kIn, ?_⟩) hpl
  rw [hks]
  exact run_k (vs := [.ref a]) (us := [.ref a]) F hr hb hx I3 (.cons rfl .nil) rz rfl l2 q3
end
end Hk

set_option Elab.async false
set_option linter.all false
set_option maxRecDepth 100000
set_option maxHeartbeats 4000000
/-! Closures that can be seen through: what their bodies call is told of the heap as it is. -/
namespace Hk
open PySem PySem.Spec PySem.W PySem.Calls PyProof.Rows L2 LamX NdefX
theorem CR.imp {P : Program} {w : World} {outer : List Env} {H : Hp} {s s' : Shared} {Q Q' : VK} {E E' : XK} {r : Result} (hq : ∀ v H', Q v H' → Q' v H') (he : ∀ c d H', E c d H' → E' c d H') (h : CR (L2.CX P w) outer P w H s Q E r s') : CR (L2.CX P w) outer P w H s Q' E' r s' := by
  cases r with
  | ok fl =>
    cases fl with
    | ret u =>
      obtain ⟨v, H', os, bare, un, hok, rv, q⟩ := (show CE outer P w H s Q u s' from h)
      exact (show CE outer P w H s Q' u s' from ⟨v, H', os, bare, un, hok, rv, hq _ _ q⟩)
    | next => exact False.elim h
    | brk => exact False.elim h
    | cont => exact False.elim h
  | error e =>
    obtain ⟨a, B, H', cls, d, ea, fl, hok, ub, na, os, bare, q⟩ := (show L2.CX P w outer H s E e s' from h)
    exact (show L2.CX P w outer H s E' e s' from ⟨a, B, H', cls, d, ea, fl, hok, ub, na, os, bare, he _ _ _ q⟩)
section
variable {X : Cx} {pins : List (Addr × Obj)} {σ : L2.St} {H : Hp} {s : Shared}
theorem run_expFA {Q : VK} {E : XK} {c : Code} {A' : Around} (hA : ∀ {H : Hp}, Env0 X.prog X.w X.K X.mg X.base X.A X.stack s H → Env0 X.prog X.w X.K X.mg X.base A' X.stack s H) (I : Inv X pins σ H s) (nd : X.N.Nodup) (hout : ∀ a, InC X.env.cells a → X.base.get? a = none ∧ a ∉ X.fs) (hx : Passes (L2.CX X.prog X.w) X E)
    (h : ∀ obs, (∀ a, InC X.env.cells a → s.heap.get? a = some (obs a)) → Env0 X.prog X.w X.K X.mg X.base A' X.stack s (exC X.env.cells X.env.scope X.N σ obs H) → codeAny (model X.prog X.w) A' c (CR (L2.CX X.prog X.w) X.stack X.prog X.w (exC X.env.cells X.env.scope X.N σ obs H) s (fun v H' => (∀ b o u, exC X.env.cells X.env.scope X.N σ obs H b = some (.frz o u) → H' b = some (.frz o u)) → (∀ a, InC X.env.cells a → exC X.env.cells X.env.scope X.N σ obs H a = none → H' a = none) → Q v (delC X.env.cells H')) (fun cls d H' => (∀ b o u, exC X.env.cells X.env.scope X.N σ obs H b = some (.frz o u) → H' b = some (.frz o u)) → (∀ a, InC X.env.cells a → exC X.env.cells X.env.scope X.N σ obs H a = none → H' a = none) → E cls d (delC X.env.cells H'))) s) :
    codeAny (model X.prog X.w) A' c (fun r s' => match r with
      | .ok (.ret u) => EP X pins σ Q u s'
      | .ok _ => False
      | .error e => X.xe e s') s := by
  have C := cenv_of I nd
  obtain ⟨obs, hobs⟩ : ∃ obs : Addr → Obj, ∀ a, InC X.env.cells a → s.heap.get? a = some (obs a) := by
    refine ⟨fun a => (s.heap.get? a).getD default, fun a ⟨y, e⟩ => ?_⟩
    obtain ⟨v, o, ho, _⟩ := I.cell y a e
    show s.heap.get? a = some ((s.heap.get? a).getD default)
    rw [ho]; rfl
  have inC : ∀ {a v}, cellV X.env.cells X.env.scope X.N σ a = some v → InC X.env.cells a := fun {a v} e => by
    obtain ⟨i, y, _, e2, _⟩ := cellV_some e
    exact ⟨y, e2⟩
  have okc : ∀ {a v}, cellV X.env.cells X.env.scope X.N σ a = some v → ∃ u, L2.RelV v u ∧ (obs a).data = .cell (some u) := fun {a v} e => by
    obtain ⟨i, y, e1, e2, e3, kc⟩ := cellV_some e
    have ho := hobs a ⟨y, e2⟩
    obtain ⟨m, hn, hl⟩ := I.loc
    obtain ⟨u, r, l⟩ := hl i y v e1 e3 (kc.elim (fun z => .inr (.inl z)) fun z => .inr (.inr z))
    rcases l with ⟨k, _⟩ | ⟨_, c, hc, o, ho', hd'⟩
    · have k' : X.env.scope.names.lookup y = some .local := k
      rcases kc with z | z <;> rw [z] at k' <;> cases k'
    · rw [e2] at hc; cases hc
      rw [ho] at ho'; cases ho'
      exact ⟨u, r, hd'⟩
  have nfr : ∀ a, InC X.env.cells a → a ∉ frs X.stack := fun a z hb => by
    rcases List.mem_cons.mp (I.stkSub a hb) with e | e
    · obtain ⟨y, hy⟩ := z
      exact I.cne y a hy e
    · exact (hout a z).2 e
  have hokX : HOk X.prog X.w (exC X.env.cells X.env.scope X.N σ obs H) s.heap := fun a o e => by
    cases q : cellV X.env.cells X.env.scope X.N σ a with
    | some v =>
      rw [exC_some q] at e
      cases e
      obtain ⟨u, r, d⟩ := okc q
      exact cellO_ok r (hobs a (inC q)) d
    | none =>
      rw [exC_none q] at e
      exact (I.hok a o e).stay (fun _ _ _ q => q) (fun b q => C.same _ _ q) fun b xs q => C.same _ _ q
  have e1 : Env0 X.prog X.w X.K X.mg X.base X.A X.stack s (exC X.env.cells X.env.scope X.N σ obs H) := by
    have e0 := I.env0
    refine ⟨e0.frames, e0.mod, fun b o e => ⟨(e0.bs b o e).1, ?_⟩, e0.bsz, e0.funs, fun b hb => ?_, hokX, e0.bare⟩
    · rw [exC_out (fun z => ?_)]
      · exact (e0.bs b o e).2
      · rw [(hout b z).1] at e; cases e
    · rw [exC_out (fun z => nfr b z hb)]
      exact e0.frf b hb
  refine codeAny_mono (h obs hobs (hA e1)) fun r s' hq => ?_
  /- behind it -/
  have cellK : ∀ {H' : Hp} {h' : Heap}, HOk X.prog X.w H' h' → (∀ b o u, exC X.env.cells X.env.scope X.N σ obs H b = some (.frz o u) → H' b = some (.frz o u)) → ∀ a v, cellV X.env.cells X.env.scope X.N σ a = some v → h'.get? a = some (obs a) := fun {H' h'} hok fz a v q => by
    have := fz a _ _ (exC_some q)
    exact (cellO_at (hok a _ (show H' a = some (CellO a v (obs a)) from this))).1
  have hokD : ∀ {H' : Hp} {h' : Heap}, HOk X.prog X.w H' h' → (∀ b o u, exC X.env.cells X.env.scope X.N σ obs H b = some (.frz o u) → H' b = some (.frz o u)) → (∀ b o, s.heap.get? b = some o → exC X.env.cells X.env.scope X.N σ obs H b = none → H' b = none) → HOk X.prog X.w (delC X.env.cells H') h' := fun {H' h'} hok fz fr0 a o e => by
    have na : ¬ InC X.env.cells a := fun z => by rw [delC_in z] at e; cases e
    rw [delC_out na] at e
    have st : ∀ b o, H' b = some o → (∀ ob u, o ≠ .frz ob u) → delC X.env.cells H' b = some o := fun b o q nf => by
      rw [delC_out (fun z => ?_)]
      · exact q
      · cases qq : cellV X.env.cells X.env.scope X.N σ b with
        | some v =>
          have := fz b _ _ (exC_some qq)
          rw [q] at this
          exact nf _ _ (Option.some.inj this)
        | none =>
          have := fr0 b _ (hobs b z) (by rw [exC_none qq]; exact C.free b z)
          rw [q] at this; cases this
    exact (hok a o e).stay (fun _ _ _ q => q) (fun b q => st b _ q (fun _ _ z => by cases z)) fun b xs q => st b _ q (fun _ _ z => by cases z)
  cases r with
  | ok fl =>
    cases fl with
    | ret u =>
      obtain ⟨v, H', os, bare, un, hok, rv, q⟩ := (show CE X.stack X.prog X.w (exC X.env.cells X.env.scope X.N σ obs H) s _ u s' from hq)
      have un2 : Un (frs X.stack) [] H (delC X.env.cells H') s.heap s'.heap := by
        refine ⟨fun b o e n hb hx => ?_, fun b o e n hb hx => ?_, fun b o e n hx => ?_, un.there, fun b xs e => ?_, fun b o x e => ?_, fun b ps e => ?_⟩
        · cases qq : cellV X.env.cells X.env.scope X.N σ b with
          | some w =>
            have h1 := cellK hok un.frzs b w qq
            rw [hobs b (inC qq)] at e
            cases e; exact h1
          | none => exact un.keep b o e (by rw [exC_none qq]; exact n) hb hx
        · exact un.slot b o e (by rw [exC_out (fun z => nfr b z hb)]; exact n) hb hx
        · by_cases z : InC X.env.cells b
          · exact delC_in z
          · rw [delC_out z]; exact un.free b o e (by rw [exC_out z]; exact n) hx
        · rw [delC_out (C.out e)]; exact un.tups b xs (C.same _ _ e)
        · rw [delC_out (C.out e)]; exact un.frzs b o x (C.same _ _ e)
        · rw [delC_out (C.out e)]; exact un.tbls b ps (C.same _ _ e)
      exact I.after ⟨v, delC X.env.cells H', os, bare, un2, hokD hok un.frzs (fun b o e n => un.free b o e n (by simp)), rv, q un.frzs (fun a z n => un.free a _ (hobs a z) n (by simp))⟩
    | next => exact False.elim hq
    | brk => exact False.elim hq
    | cont => exact False.elim hq
  | error e =>
    obtain ⟨a, B, H', cls, d, ea, fl, hok, ub, na, os, bare, q⟩ := (show L2.CX X.prog X.w X.stack (exC X.env.cells X.env.scope X.N σ obs H) s _ e s' from hq)
    have ub2 : UB (frs X.stack) H (delC X.env.cells H') s.heap B s'.heap := by
      refine ⟨fun b o e n hb => ?_, ub.slot, fun b o e n => ?_, ub.there, fun b xs e => ?_, fun b o x e => ?_, fun b ps e => ?_⟩
      · cases qq : cellV X.env.cells X.env.scope X.N σ b with
        | some w =>
          have h1 := cellK hok ub.frzs b w qq
          rw [hobs b (inC qq)] at e
          cases e; exact h1
        | none => exact ub.keep b o e (by rw [exC_none qq]; exact n) hb
      · by_cases z : InC X.env.cells b
        · exact delC_in z
        · rw [delC_out z]; exact ub.free b o e (by rw [exC_out z]; exact n)
      · rw [delC_out (C.out e)]; exact ub.tups b xs (C.same _ _ e)
      · rw [delC_out (C.out e)]; exact ub.frzs b o x (C.same _ _ e)
      · rw [delC_out (C.out e)]; exact ub.tbls b ps (C.same _ _ e)
    refine hx pins σ H s e s' I ⟨a, B, delC X.env.cells H', cls, d, ea, fl, hokD hok ub.frzs (fun b o e n => ub.free b o e n), ub2, ?_, os, bare, q ub.frzs (fun a z n => ub.free a _ (hobs a z) n)⟩
    by_cases z : InC X.env.cells a
    · exact delC_in z
    · rw [delC_out z]; exact na
theorem run_expFU {Q : VK} {E : XK} {c : Code} (I : Inv X pins σ H s) (nd : X.N.Nodup) (hout : ∀ a, InC X.env.cells a → X.base.get? a = none ∧ a ∉ X.fs) (hx : Passes (L2.CX X.prog X.w) X E)
    (h : ∀ obs, (∀ a, InC X.env.cells a → s.heap.get? a = some (obs a)) → Env0 X.prog X.w X.K X.mg X.base X.A X.stack s (exC X.env.cells X.env.scope X.N σ obs H) → codeAny (model X.prog X.w) X.A c (CR (L2.CX X.prog X.w) X.stack X.prog X.w (exC X.env.cells X.env.scope X.N σ obs H) s (fun v H' => (∀ b o u, exC X.env.cells X.env.scope X.N σ obs H b = some (.frz o u) → H' b = some (.frz o u)) → (∀ a, InC X.env.cells a → exC X.env.cells X.env.scope X.N σ obs H a = none → H' a = none) → Q v (delC X.env.cells H')) (fun cls d H' => (∀ b o u, exC X.env.cells X.env.scope X.N σ obs H b = some (.frz o u) → H' b = some (.frz o u)) → (∀ a, InC X.env.cells a → exC X.env.cells X.env.scope X.N σ obs H a = none → H' a = none) → E cls d (delC X.env.cells H'))) s) :
    codeAny (model X.prog X.w) X.A c (fun r s' => match r with
      | .ok (.ret u) => EP X pins σ Q u s'
      | .ok _ => False
      | .error e => X.xe e s') s := run_expFA (fun e => e) I nd hout hx h
theorem run_expF {Q : VK} {E : XK} {c : Code} (I : Inv X pins σ H s) (nd : X.N.Nodup) (hout : ∀ a, InC X.env.cells a → X.base.get? a = none ∧ a ∉ X.fs) (hx : Passes (L2.CX X.prog X.w) X E)
    (h : ∀ obs, (∀ a, InC X.env.cells a → s.heap.get? a = some (obs a)) → Env0 X.prog X.w X.K X.mg X.base X.A X.stack s (exC X.env.cells X.env.scope X.N σ obs H) → codeAny (model X.prog X.w) X.A c (CR (L2.CX X.prog X.w) X.stack X.prog X.w (exC X.env.cells X.env.scope X.N σ obs H) s (fun v H' => (∀ b o u, exC X.env.cells X.env.scope X.N σ obs H b = some (.frz o u) → H' b = some (.frz o u)) → Q v (delC X.env.cells H')) (fun cls d H' => (∀ b o u, exC X.env.cells X.env.scope X.N σ obs H b = some (.frz o u) → H' b = some (.frz o u)) → E cls d (delC X.env.cells H'))) s) :
    codeAny (model X.prog X.w) X.A c (fun r s' => match r with
      | .ok (.ret u) => EP X pins σ Q u s'
      | .ok _ => False
      | .error e => X.xe e s') s := by
  refine run_expFU I nd hout hx fun obs ho e => codeAny_mono (h obs ho e) fun r s' hr => CR.imp (fun v H' g z _ => g z) (fun c d H' g z _ => g z) hr
end
abbrev FzK (G H' : Hp) : Prop := ∀ b o u, G b = some (.frz o u) → H' b = some (.frz o u)
/-- o.m(..), the callee told of the captured cells as they are -/
def tMethXF (C : Addr) (m : Str) (s0 : Shared) (cm : List (Str × Addr)) (sc : Scope) (N : List Str) (sp : Sp) (dvs : List V) (E : XK) (ta : TE) (t : TA) : TE := fun σ H Q => ta σ H fun x H1 => ∃ a dx fs, x = .ref a ∧ H1 a = some (.ins C dx fs) ∧ fs.lookup m = none ∧
  t σ H1 fun vs H2 => CEnv cm sc N H2 → ∀ obs : Addr → Obj, (∀ c o, InC cm c → s0.heap.get? c = some o → obs c = o) → sp (.ref a :: vs ++ dvs) (exC cm sc N σ obs H2) (fun v H' => FzK (exC cm sc N σ obs H2) H' → Q v (delC cm H')) (fun cls d H' => FzK (exC cm sc N σ obs H2) H' → E cls d (delC cm H'))
/-- f(..) of a function value in slot i, likewise -/
def tCallVF (P : Program) (w : World) (K : PySem.W.Frag) (mg : Str → Option Value) (base : Heap) (k i : Nat) (s0 : Shared) (cm : List (Str × Addr)) (sc : Scope) (N : List Str) (E : XK) (t : TA) : TE := fun σ H Q => ∃ f, σ[i]? = some (some (.ref f)) ∧ t σ H fun vs H2 => CEnv cm sc N H2 → ∀ obs : Addr → Obj, (∀ c o, InC cm c → s0.heap.get? c = some o → obs c = o) →
  ∃ sp, Act P w K mg base k f sp ∧ sp vs (exC cm sc N σ obs H2) (fun v H' => FzK (exC cm sc N σ obs H2) H' → Q v (delC cm H')) (fun cls d H' => FzK (exC cm sc N σ obs H2) H' → E cls d (delC cm H'))
section
variable {X : Cx} {k : Nat} {C : Addr} {m x : Str} {ps : List Str} {dvs : List V} {sp : Sp} {E : XK} {apos pos p : Pos} {o e : Expr} {es : List Expr} {ta : TE} {t : TA}
theorem obs_eq {pins : List (Addr × Obj)} {σ : L2.St} {H : Hp} {s : Shared} {obs : Addr → Obj} (I : Inv X pins σ H s) (hout : ∀ a, InC X.env.cells a → X.base.get? a = none ∧ a ∉ X.fs) (hz : ∀ a, InC X.env.cells a → X.H_0 a = none) (hex : X.ex = []) (ho : ∀ a, InC X.env.cells a → s.heap.get? a = some (obs a)) : ∀ c o, InC X.env.cells c → X.s_0.heap.get? c = some o → obs c = o := fun c o z e => by
  have := I.base.keep c o e (hz c z) (hout c z).2 (by rw [hex]; simp)
  rw [ho c z] at this
  exact Option.some.inj this
theorem pe_methXF {pl : Sem Bool} (he : PE X o ta) (G : MethG X.prog X.w X.K X.mg X.base (L2.CX X.prog X.w) k C m ps dvs sp) (hr : Room k X.A) (hx : Passes (L2.CX X.prog X.w) X E) (nd : X.N.Nodup) (hout : ∀ a, InC X.env.cells a → X.base.get? a = none ∧ a ∉ X.fs) (hz : ∀ a, InC X.env.cells a → X.H_0 a = none) (hex : X.ex = []) (ha : PA X (e :: es) t)
    (hst : starEach (e :: es) X.env = (false, eval e X.env) :: starEach es X.env := by rfl) (hpl : (backTo pos (starEach es X.env)).any (·.1) = false := by rfl)
    (ht : eval (.Call (.Attribute o m apos) (e :: es) [] pos) X.env = (do
      let ov ← eval o X.env
      standAt apos.atName
      let (f, first) ← holding [ov] (getMethod ov m pl)
      callWith pos f first (backTo pos (starEach (e :: es) X.env)) (backToKw pos (keywordEach [] X.env))) := by rfl) :
    PE X (.Call (.Attribute o m apos) (e :: es) [] pos) (tMethXF C m X.s_0 X.env.cells X.env.scope X.N sp dvs E ta t) := by
  refine ⟨fun pins s σ H Q I h => ?_⟩
  obtain ⟨f, fd, ds, c, hm, F, vd, hb⟩ := G.ex
  refine PySem.W.methodCall_KW (pl := pl) (thn (he.run pins s σ H _ I h) fun u s1 ⟨x, H1, I1, rx, a, dx, fs, ex, ea, l, q⟩ => ?_) ht
  subst ex
  obtain rfl : u = Value.ref a := rx
  refine getmeth_ok I1 ea c hm l ?_
  refine PySem.W.callWith_K (first := [.ref a]) (h₀ := X.base) I.ok.mod.kin hm.kp (thn (ha.run pos pins s1 σ H1 _ I1 q) fun us s2 ⟨vs, H2, I2, r, q2⟩ => ⟨I2.kIn, ?_⟩) hst hpl
  refine wpAny_call (codeAny_mono (run_expF (Q := Q) (E := E) I2 nd hout hx fun obs ho e0 => ?_) fun r s' hq => ?_)
  · have r2 : Vals (.ref a :: vs ++ dvs) (.ref a :: us ++ ds) := (L2.Vals.append (.cons rfl r) vd)
    have q3 := q2 (cenv_of I2 nd) obs (obs_eq I2 hout hz hex ho)
    have hl : (Value.ref a :: us ++ ds).length = ps.length := by rw [← r2.length]; exact F.len _ _ _ _ q3
    exact F.run X.A X.stack s2 _ ⟨.ref a :: us, []⟩ (.ref a :: us ++ ds) (.ref a :: vs ++ dvs) _ _ hr e0 (hb s2 (.ref a :: us) I2.kIn hl) r2 q3
  · cases r with
    | error e => exact hq
    | ok fl =>
      cases fl with
      | ret u => exact hq
      | next => exact False.elim hq
      | brk => exact False.elim hq
      | cont => exact False.elim hq
end
/-! ### the captured cells shown are those that were -/
section
variable {cl : List (Str × Addr)} {sc : Scope} {N ps fr : List Str} {σ : L2.St} {obs : Addr → Obj} {H Hf H3 : Hp} {ws : List V}
theorem exC_put (S : NScope N ps fr sc) (C : CapsAt cl fr ws Hf) (hσ : ∀ (i : Nat) v, ws[i]? = some v → σ[ps.length + i]? = some (some v)) (ho : ∀ c v ob, InC cl c → Hf c = some (CellO c v ob) → obs c = ob) : exC cl sc N σ obs H = putC cl Hf H := funext fun b => by
  by_cases z : InC cl b
  · obtain ⟨y, e⟩ := id z
    obtain ⟨i, hi⟩ := List.mem_iff_getElem?.mp (C.only y b e)
    obtain ⟨c, v, e1, e2, ob, e3⟩ := C.has i y hi
    rw [e] at e1
    cases e1
    have hil : i < fr.length := (List.getElem?_eq_some_iff.mp hi).1
    have hN : N[ps.length + i]? = some y := by
      have e : (N.take (ps.length + fr.length))[ps.length + i]? = (ps ++ fr)[ps.length + i]? := congrArg (fun l => l[ps.length + i]?) S.pre
      rw [List.getElem?_append_right (by omega), Nat.add_sub_cancel_left, hi, List.getElem?_take_of_lt (by omega)] at e
      exact e
    rw [exC_some (cellV_at S.nd C.inj ⟨ps.length + i, y, hN, e, hσ i v e2, .inr (S.frk y (List.mem_of_getElem? hi))⟩), putC_in z, e3, ho b v ob z e3]
  · rw [exC_out z, putC_out z]
theorem put_del (C : CapsAt cl fr ws Hf) (h : FzK Hf H3) : putC cl Hf (delC cl H3) = H3 := funext fun b => by
  by_cases z : InC cl b
  · obtain ⟨v, ob, e⟩ := C.tr z
    rw [putC_in z, e]
    exact (h b _ _ e).symm
  · rw [putC_out z, delC_out z]
theorem put_self : putC cl Hf (delC cl Hf) = Hf := funext fun b => by
  by_cases z : InC cl b
  · rw [putC_in z]
  · rw [putC_out z, delC_out z]
end
/-! ### a lambda told of the heap as it is -/
def spLamF (f : Addr) (L : LF) (fr : List Str) (spN : Hp → List V → Sp) : Sp := fun vs H Q E => ∃ ws, H f = some (LamO f L) ∧ H L.c = some (CodeO L.c L.qual) ∧ CapsAt L.cl fr ws H ∧ L.dT = none ∧
  spN H ws vs (delC L.cl H) (fun v H' => (∀ a, InC L.cl a → H' a = none) → Q v (putC L.cl H H')) (fun cls d H' => (∀ a, InC L.cl a → H' a = none) → E cls d (putC L.cl H H'))
section
variable {P : Program} {w : World} {K : PySem.W.Frag} {mg : Str → Option Value} {base : Heap} {N ps fr : List Str} {L : LF} {f : Addr} {k : Nat} {spN : Hp → List V → Sp}
theorem act_lamF (S : NScope N ps fr L.scope) (len : ∀ Hf ws vs H Q E, spN Hf ws vs H Q E → vs.length = ps.length)
    (hb : ∀ (pm ctv : Value) (us : List Value), us.length = ps.length → bindArgs (L.fd pm ctv) ⟨us, []⟩ = pure (ps.zip us))
    (hbody : NScope N ps fr L.scope → ∀ (A : Around) (outer : List Env) (s : Shared) (Hf : Hp) (vs ws : List V) (Q : VK) (E : XK), Room k (A.deeper (envF L.nf f s.heap.objs.size)) → CellsOut base outer L.cl → (∀ a, InC L.cl a → delC L.cl Hf a = none) → CapsAt L.cl fr ws Hf → (∀ c v ob, InC L.cl c → Hf c = some (CellO c v ob) → s.heap.get? c = some ob) → spN Hf ws vs (delC L.cl Hf) Q E →
      ∃ te, PE (ncx (L2.CX P w) P w K mg base N L.nf f A outer s (delC L.cl Hf) E) L.body te ∧ te (startF N vs (ws.map some)) (delC L.cl Hf) Q) :
    Act P w K mg base (k + 1) f (spLamF f L fr spN) := fun A outer s H us vs Q E hr e0 r h => by
  obtain ⟨ws, hf, hc, C, hd, q⟩ := h
  have lim : s.heap.NoLimit := e0.mod.nolimit.keeps fun b o e => (e0.bs b o e).1
  obtain ⟨od, sl, pm, ctv, ho⟩ := lamO_at e0.hok hf
  have out : CellsOut base outer L.cl := fun a z => by
    obtain ⟨v, ob, e⟩ := C.tr z
    refine ⟨?_, fun hb => by rw [e0.frf a hb] at e; cases e⟩
    cases y : base.get? a with
    | none => rfl
    | some o => rw [(e0.bs a o y).2] at e; cases e
  refine ⟨⟨_, od, _, sl, ho⟩, capsRun C e0 fun e1 C1 => ?_⟩
  have hl := len _ _ _ _ _ _ q
  have bd : BindsTo s (L.fd pm ctv) ⟨us, []⟩ (ps.zip us) := .of_eq (hb pm ctv us (by rw [← r.length, hl]))
  refine kla_callFunE hr.depth ho rfl S.co S.gen rfl (codeO_at e0.hok hc) (bd _ _ _ _ ?_)
  refine wpAny_newFunctionEnv S.nocell (fun ⟨n, _⟩ hy => S.par n (List.of_mem_zip hy).1) (fun h₁ hns hsb => ⟨lim.fresh _ hsb, ?_⟩) S.kind
  show codeAny _ _ (.expr L.body (envF L.nf f s.heap.objs.size)) _ _
  have kp : ∀ b o, s.heap.get? b = some o → h₁.get? b = some o := fun b o e => hsb.extBut b o (Nat.ne_of_lt (Heap.lt_size e)) (Heap.get?_push_of_some _ e)
  obtain ⟨te, ht, hq⟩ := hbody S A outer s H vs ws _ _ (hr.deeper _) out (fun a z => delC_in z) C (fun c v ob z e => (cellO_at (e0.hok c _ e)).1) q
  have I := inv_startN (CX := L2.CX P w) (F := L.nf) (f := f) (A := A) (E := fun cls d H' => (∀ a, InC L.cl a → H' a = none) → E cls d (putC L.cl H H')) (tk := s.toks + (ps.zip us).length) S hr.hd e1 hl r C1 hns kp
  refine kla_codeExpr (wpAny_mono (ht.run [] _ _ _ _ I hq) (fun v s' hs => ?_) fun e s' hs => hs)
  obtain ⟨v, H', J, rv, q⟩ := hs
  exact ⟨v, H', J.os, J.bare, J.base, J.hok, rv, q⟩
end
end Hk

set_option Elab.async false
set_option linter.all false
set_option maxRecDepth 100000
set_option maxHeartbeats 4000000
/-! A function value is called, told of the frame's cells as they are. -/
namespace Hk
open PySem PySem.Spec PySem.W PySem.Calls PyProof.Rows L2 LamX NdefX
section
variable {X : Cx} {pins : List (Addr × Obj)} {σ : L2.St} {H : Hp} {s : Shared}
theorem env_expF (I : Inv X pins σ H s) (nd : X.N.Nodup) (hout : ∀ a, InC X.env.cells a → X.base.get? a = none ∧ a ∉ X.fs) :
    ∃ obs, (∀ a, InC X.env.cells a → s.heap.get? a = some (obs a)) ∧ Env0 X.prog X.w X.K X.mg X.base X.A X.stack s (exC X.env.cells X.env.scope X.N σ obs H) := by
  have C := cenv_of I nd
  obtain ⟨obs, hobs⟩ : ∃ obs : Addr → Obj, ∀ a, InC X.env.cells a → s.heap.get? a = some (obs a) := by
    refine ⟨fun a => (s.heap.get? a).getD default, fun a ⟨y, e⟩ => ?_⟩
    obtain ⟨v, o, ho, _⟩ := I.cell y a e
    show s.heap.get? a = some ((s.heap.get? a).getD default)
    rw [ho]; rfl
  have inC : ∀ {a v}, cellV X.env.cells X.env.scope X.N σ a = some v → InC X.env.cells a := fun {a v} e => by
    obtain ⟨i, y, _, e2, _⟩ := cellV_some e
    exact ⟨y, e2⟩
  have okc : ∀ {a v}, cellV X.env.cells X.env.scope X.N σ a = some v → ∃ u, L2.RelV v u ∧ (obs a).data = .cell (some u) := fun {a v} e => by
    obtain ⟨i, y, e1, e2, e3, kc⟩ := cellV_some e
    have ho := hobs a ⟨y, e2⟩
    obtain ⟨m, hn, hl⟩ := I.loc
    obtain ⟨u, r, l⟩ := hl i y v e1 e3 (kc.elim (fun z => .inr (.inl z)) fun z => .inr (.inr z))
    rcases l with ⟨k, _⟩ | ⟨_, c, hc, o, ho', hd'⟩
    · have k' : X.env.scope.names.lookup y = some .local := k
      rcases kc with z | z <;> rw [z] at k' <;> cases k'
    · rw [e2] at hc; cases hc
      rw [ho] at ho'; cases ho'
      exact ⟨u, r, hd'⟩
  have nfr : ∀ a, InC X.env.cells a → a ∉ frs X.stack := fun a z hb => by
    rcases List.mem_cons.mp (I.stkSub a hb) with e | e
    · obtain ⟨y, hy⟩ := z
      exact I.cne y a hy e
    · exact (hout a z).2 e
  have hokX : HOk X.prog X.w (exC X.env.cells X.env.scope X.N σ obs H) s.heap := fun a o e => by
    cases q : cellV X.env.cells X.env.scope X.N σ a with
    | some v =>
      rw [exC_some q] at e
      cases e
      obtain ⟨u, r, d⟩ := okc q
      exact cellO_ok r (hobs a (inC q)) d
    | none =>
      rw [exC_none q] at e
      exact (I.hok a o e).stay (fun _ _ _ q => q) (fun b q => C.same _ _ q) fun b xs q => C.same _ _ q
  have e1 : Env0 X.prog X.w X.K X.mg X.base X.A X.stack s (exC X.env.cells X.env.scope X.N σ obs H) := by
    have e0 := I.env0
    refine ⟨e0.frames, e0.mod, fun b o e => ⟨(e0.bs b o e).1, ?_⟩, e0.bsz, e0.funs, fun b hb => ?_, hokX, e0.bare⟩
    · rw [exC_out (fun z => ?_)]
      · exact (e0.bs b o e).2
      · rw [(hout b z).1] at e; cases e
    · rw [exC_out (fun z => nfr b z hb)]
      exact e0.frf b hb
  exact ⟨obs, hobs, e1⟩
theorem run_actF {k : Nat} {E : XK} {Q : VK} {f : Addr} {us : List Value} {vs : List V} (hr : Room k X.A) (hx : Passes (L2.CX X.prog X.w) X E) (nd : X.N.Nodup) (hout : ∀ a, InC X.env.cells a → X.base.get? a = none ∧ a ∉ X.fs) (hz : ∀ a, InC X.env.cells a → X.H_0 a = none) (hex : X.ex = []) (I : Inv X pins σ H s) (r : Vals vs us)
    (q : CEnv X.env.cells X.env.scope X.N H → ∀ obs : Addr → Obj, (∀ c o, InC X.env.cells c → X.s_0.heap.get? c = some o → obs c = o) →
      ∃ sp, Act X.prog X.w X.K X.mg X.base k f sp ∧ sp vs (exC X.env.cells X.env.scope X.N σ obs H) (fun v H' => FzK (exC X.env.cells X.env.scope X.N σ obs H) H' → Q v (delC X.env.cells H')) (fun cls d H' => FzK (exC X.env.cells X.env.scope X.N σ obs H) H' → E cls d (delC X.env.cells H'))) :
    PySem.W.FnAt f s.heap ∧ wpAny (model X.prog X.w) X.A (call (.ref f) us) (EP X pins σ Q) X.xe s := by
  have C := cenv_of I nd
  obtain ⟨obs, hobs, e1⟩ := env_expF I nd hout
  obtain ⟨sp, ac, q1⟩ := q C obs (obs_eq I hout hz hex hobs)
  refine ⟨(ac X.A X.stack s _ us vs _ _ hr e1 r q1).1, wpAny_call (codeAny_mono (run_expF (Q := Q) (E := E) I nd hout hx fun obs ho e0 => ?_) fun r s' hq => ?_)⟩
  · obtain ⟨sp, ac, q1⟩ := q C obs (obs_eq I hout hz hex ho)
    exact (ac X.A X.stack s _ us vs _ _ hr e0 r q1).2
  · cases r with
    | error e => exact hq
    | ok fl =>
      cases fl with
      | ret u => exact hq
      | next => exact False.elim hq
      | brk => exact False.elim hq
      | cont => exact False.elim hq
end
section
variable {X : Cx} {k i : Nat} {x : Str} {E : XK} {p pos : Pos} {e : Expr} {es : List Expr} {t : TA}
/-- f(..) of a function value in slot i -/
theorem pe_callVF (hr : Room k X.A) (hx : Passes (L2.CX X.prog X.w) X E) (nd : X.N.Nodup) (hout : ∀ a, InC X.env.cells a → X.base.get? a = none ∧ a ∉ X.fs) (hz : ∀ a, InC X.env.cells a → X.H_0 a = none) (hex : X.ex = []) (hN : X.N[i]? = some x) (hv : Vis X.env.scope x) (ha : PA X (e :: es) t)
    (hd : (x == ("__debug__" : Str)) = false := by decide) (hcd : (x == ("__classdict__" : Str)) = false := by decide)
    (he : starEach (e :: es) X.env = (false, eval e X.env) :: starEach es X.env := by rfl) (hpl : (backTo pos (starEach es X.env)).any (·.1) = false := by rfl) :
    PE X (.Call (.Name x p) (e :: es) [] pos) (tCallVF X.prog X.w X.K X.mg X.base k i X.s_0 X.env.cells X.env.scope X.N E t) := by
  refine ⟨fun pins s σ H Q I h => ?_⟩
  obtain ⟨f, hs, ht⟩ := h
  refine wpAny_Call_Name_kw (thn ((pe_var (pos := p) hN hv hd hcd).run pins s σ H (fun v H1 => v = .ref f ∧ H1 = H) I ⟨.ref f, hs, rfl, rfl⟩) fun u s1 ⟨v, H1, I1, r1, q1⟩ => ?_)
  obtain ⟨ev, eH⟩ := q1
  subst ev
  rw [eH] at I1
  obtain rfl : u = Value.ref f := r1
  have h := thn (ha.run pos pins s1 σ H _ I1 ht) fun us s2 ⟨vs, H2, I2, r, q⟩ => run_actF (Q := Q) hr hx nd hout hz hex I2 r q
  show wpAny _ _ (callWith pos (.ref f) [] (backTo pos (starEach (e :: es) X.env)) []) _ _ _
  rw [he] at h ⊢
  exact PySem.W.callWith_of (by show ((false || (backTo pos (starEach es X.env)).any (·.1)) || false) = false; rw [hpl]; rfl) PySem.W.keeps_F (PySem.Calls.evalArgs_plain h)
theorem pe_callVF0 (hr : Room k X.A) (hx : Passes (L2.CX X.prog X.w) X E) (nd : X.N.Nodup) (hout : ∀ a, InC X.env.cells a → X.base.get? a = none ∧ a ∉ X.fs) (hz : ∀ a, InC X.env.cells a → X.H_0 a = none) (hex : X.ex = []) (hN : X.N[i]? = some x) (hv : Vis X.env.scope x)
    (hd : (x == ("__debug__" : Str)) = false := by decide) (hcd : (x == ("__classdict__" : Str)) = false := by decide) :
    PE X (.Call (.Name x p) [] [] pos) (tCallVF X.prog X.w X.K X.mg X.base k i X.s_0 X.env.cells X.env.scope X.N E tNil) := by
  refine ⟨fun pins s σ H Q I h => ?_⟩
  obtain ⟨f, hs, q⟩ := h
  refine wpAny_Call_Name_kw (thn ((pe_var (pos := p) hN hv hd hcd).run pins s σ H (fun v H1 => v = .ref f ∧ H1 = H) I ⟨.ref f, hs, rfl, rfl⟩) fun u s1 ⟨v, H1, I1, r1, q1⟩ => ?_)
  obtain ⟨ev, eH⟩ := q1
  subst ev
  rw [eH] at I1
  obtain rfl : u = Value.ref f := r1
  obtain ⟨z, c⟩ := run_actF (Q := Q) hr hx nd hout hz hex I1 .nil q
  exact PySem.W.callWith_F0 (first := []) z c
theorem pe_callVFK {P : Program} {w : World} {K : PySem.W.Frag} {mg : Str → Option Value} {base : Heap} (e1 : X.prog = P) (e2 : X.w = w) (e3 : X.K = K) (e4 : X.mg = mg) (e5 : X.base = base) (hr : Room k X.A) (hx : Passes (L2.CX X.prog X.w) X E) (nd : X.N.Nodup) (hout : ∀ a, InC X.env.cells a → X.base.get? a = none ∧ a ∉ X.fs) (hz : ∀ a, InC X.env.cells a → X.H_0 a = none) (hex : X.ex = []) (hN : X.N[i]? = some x) (hv : Vis X.env.scope x) (ha : PA X (e :: es) t)
    (hd : (x == ("__debug__" : Str)) = false := by decide) (hcd : (x == ("__classdict__" : Str)) = false := by decide)
    (he : starEach (e :: es) X.env = (false, eval e X.env) :: starEach es X.env := by rfl) (hpl : (backTo pos (starEach es X.env)).any (·.1) = false := by rfl) :
    PE X (.Call (.Name x p) (e :: es) [] pos) (tCallVF P w K mg base k i X.s_0 X.env.cells X.env.scope X.N E t) := by
  subst e1 e2 e3 e4 e5
  exact pe_callVF hr hx nd hout hz hex hN hv ha hd hcd he hpl
theorem pe_callVF0K {P : Program} {w : World} {K : PySem.W.Frag} {mg : Str → Option Value} {base : Heap} (e1 : X.prog = P) (e2 : X.w = w) (e3 : X.K = K) (e4 : X.mg = mg) (e5 : X.base = base) (hr : Room k X.A) (hx : Passes (L2.CX X.prog X.w) X E) (nd : X.N.Nodup) (hout : ∀ a, InC X.env.cells a → X.base.get? a = none ∧ a ∉ X.fs) (hz : ∀ a, InC X.env.cells a → X.H_0 a = none) (hex : X.ex = []) (hN : X.N[i]? = some x) (hv : Vis X.env.scope x)
    (hd : (x == ("__debug__" : Str)) = false := by decide) (hcd : (x == ("__classdict__" : Str)) = false := by decide) :
    PE X (.Call (.Name x p) [] [] pos) (tCallVF P w K mg base k i X.s_0 X.env.cells X.env.scope X.N E tNil) := by
  subst e1 e2 e3 e4 e5
  exact pe_callVF0 hr hx nd hout hz hex hN hv hd hcd
end
end Hk

set_option Elab.async false
set_option linter.all false
set_option maxRecDepth 100000
set_option maxHeartbeats 4000000
/-! A nested def told of the heap as it is. -/
namespace Hk
open PySem PySem.Spec PySem.W PySem.Calls PyProof.Rows L2 LamX NdefX
def spCloF (f : Addr) (F : NF) (fr : List Str) (spN : Hp → List V → Sp) : Sp := fun vs H Q E => ∃ ws, H f = some (FnO f F) ∧ H F.c = some (CodeO F.c F.qual) ∧ CapsAt F.cl fr ws H ∧
  spN H ws vs (delC F.cl H) (fun v H' => (∀ a, InC F.cl a → H' a = none) → Q v (putC F.cl H H')) (fun cls d H' => (∀ a, InC F.cl a → H' a = none) → E cls d (putC F.cl H H'))
section
variable {P : Program} {w : World} {K : PySem.W.Frag} {mg : Str → Option Value} {base : Heap} {N ps fr : List Str} {F : NF} {f : Addr} {k : Nat} {spN : Hp → List V → Sp}
theorem act_cloF (S : NScope N ps fr F.scope) (len : ∀ Hf ws vs H Q E, spN Hf ws vs H Q E → vs.length = ps.length)
    (hb : ∀ (doc pm ctv : Value) (us : List Value), us.length = ps.length → bindArgs (F.fd doc pm ctv) ⟨us, []⟩ = pure (ps.zip us))
    (hbody : ∀ (A : Around) (outer : List Env) (s : Shared) (Hf : Hp) (vs ws : List V) (Q : VK) (E : XK), Room k (A.deeper (envF F f s.heap.objs.size)) → CellsOut base outer F.cl → (∀ a, InC F.cl a → delC F.cl Hf a = none) → CapsAt F.cl fr ws Hf → (∀ c v ob, InC F.cl c → Hf c = some (CellO c v ob) → s.heap.get? c = some ob) → spN Hf ws vs (delC F.cl Hf) Q E →
      ∃ t, PSs (ncx (L2.CX P w) P w K mg base N F f A outer s (delC F.cl Hf) E) F.body t ∧ t { nx := fun _ H2 => Q .non H2, rt := Q } (startF N vs (ws.map some)) (delC F.cl Hf)) :
    Act P w K mg base (k + 1) f (spCloF f F fr spN) := fun A outer s H us vs Q E hr e0 r h => by
  obtain ⟨ws, hf, hc, C, q⟩ := h
  have nolim : s.heap.NoLimit := e0.mod.nolimit.keeps fun b o z => (e0.bs b o z).1
  obtain ⟨od, sl, doc, pm, ctv, ho⟩ := fnO_at e0.hok hf
  have out : CellsOut base outer F.cl := fun a z => by
    obtain ⟨v, ob, e⟩ := C.tr z
    refine ⟨?_, fun hb => by rw [e0.frf a hb] at e; cases e⟩
    cases y : base.get? a with
    | none => rfl
    | some o => rw [(e0.bs a o y).2] at e; cases e
  refine ⟨⟨_, od, _, sl, ho⟩, capsRun C e0 fun e1 C1 => ?_⟩
  have hl := len _ _ _ _ _ _ q
  refine codeAny_call_function hr.depth ho rfl S.co S.gen rfl (codeO_at e0.hok hc) ?_
  rw [hb doc pm ctv us (r.length ▸ hl)]
  refine wpAny_pure (wpAny_newFunctionEnv S.nocell (fun ⟨y, _⟩ hy => S.par y (List.of_mem_zip hy).1) (fun g hns hsb => ⟨nolim.fresh _ hsb, ?_⟩) S.kind)
  show codeAny _ _ (.func F.body (envF F f s.heap.objs.size)) _ _
  have kp : ∀ b o, s.heap.get? b = some o → g.get? b = some o := fun b o z => hsb.extBut b o (Nat.ne_of_lt (Heap.lt_size z)) (Heap.get?_push_of_some _ z)
  obtain ⟨t, ht, hq⟩ := hbody A outer s H vs ws _ _ (hr.deeper _) out (fun a z => delC_in z) C (fun c v ob z e => (cellO_at (e0.hok c _ e)).1) q
  have I := inv_startN (CX := L2.CX P w) (F := F) (f := f) (A := A) (E := fun cls d H' => (∀ a, InC F.cl a → H' a = none) → E cls d (putC F.cl H H')) (tk := s.toks + (ps.zip us).length) S hr.hd e1 hl r C1 hns kp
  refine codeAny_func (wpAny_mono (ht.run [] _ _ _ _ I hq) (fun fl s2 hs => ?_) fun e s2 hs => hs)
  cases fl with
  | ret u =>
    obtain ⟨v, σ2, H2, J, r2, q⟩ := hs
    exact ⟨v, H2, J.os, J.bare, J.base, J.hok, r2, q⟩
  | next =>
    obtain ⟨σ2, H2, J, q⟩ := hs
    exact ⟨V.non, H2, J.os, J.bare, J.base, J.hok, rfl, q⟩
  | brk => exact hs.elim fun _ z => z.elim fun _ y => y.2.elim
  | cont => exact hs.elim fun _ z => z.elim fun _ y => y.2.elim
end
/-! ### a function value called in a frame with cells of its own alone (a law) -/
/-- what is behind a call that was told of the cells cm: what is frozen stays, the cells that were not told are still none -/
structure FzU (cm : List (Str × Addr)) (G H' : Hp) : Prop where
  fz : FzK G H'
  un : ∀ a, InC cm a → G a = none → H' a = none
def tCallVO (P : Program) (w : World) (K : PySem.W.Frag) (mg : Str → Option Value) (base : Heap) (k i : Nat) (cm : List (Str × Addr)) (sc : Scope) (N : List Str) (E : XK) (t : TA) : TE := fun σ H Q => ∃ f, σ[i]? = some (some (.ref f)) ∧ t σ H fun vs H2 => CEnv cm sc N H2 → ∀ obs : Addr → Obj,
  ∃ sp, Act P w K mg base k f sp ∧ sp vs (exC cm sc N σ obs H2) (fun v H' => FzU cm (exC cm sc N σ obs H2) H' → Q v (delC cm H')) (fun cls d H' => FzU cm (exC cm sc N σ obs H2) H' → E cls d (delC cm H'))
section
variable {X : Cx} {pins : List (Addr × Obj)} {σ : L2.St} {H : Hp} {s : Shared}
theorem run_actO {k : Nat} {E : XK} {Q : VK} {f : Addr} {us : List Value} {vs : List V} (hr : Room k X.A) (hx : Passes (L2.CX X.prog X.w) X E) (nd : X.N.Nodup) (hfn : ∀ y c, X.env.cells.lookup y = some c → X.fn y = true) (I : Inv X pins σ H s) (r : Vals vs us)
    (q : CEnv X.env.cells X.env.scope X.N H → ∀ obs : Addr → Obj,
      ∃ sp, Act X.prog X.w X.K X.mg X.base k f sp ∧ sp vs (exC X.env.cells X.env.scope X.N σ obs H) (fun v H' => FzU X.env.cells (exC X.env.cells X.env.scope X.N σ obs H) H' → Q v (delC X.env.cells H')) (fun cls d H' => FzU X.env.cells (exC X.env.cells X.env.scope X.N σ obs H) H' → E cls d (delC X.env.cells H'))) :
    PySem.W.FnAt f s.heap ∧ wpAny (model X.prog X.w) X.A (call (.ref f) us) (EP X pins σ Q) X.xe s := by
  have C := cenv_of I nd
  have hout := out_own I hfn
  obtain ⟨obs, hobs, e1⟩ := env_expF I nd hout
  obtain ⟨sp, ac, q1⟩ := q C obs
  refine ⟨(ac X.A X.stack s _ us vs _ _ hr e1 r q1).1, wpAny_call (codeAny_mono (run_expFU (Q := Q) (E := E) I nd hout hx fun obs ho e0 => ?_) fun r s' hq => ?_)⟩
  · obtain ⟨sp, ac, q1⟩ := q C obs
    exact codeAny_mono (ac X.A X.stack s _ us vs _ _ hr e0 r q1).2 fun r s' hr => CR.imp (fun v H' g z1 z2 => g ⟨z1, z2⟩) (fun c d H' g z1 z2 => g ⟨z1, z2⟩) hr
  · cases r with
    | error e => exact hq
    | ok fl =>
      cases fl with
      | ret u => exact hq
      | next => exact False.elim hq
      | brk => exact False.elim hq
      | cont => exact False.elim hq
end
/-! ### .. what that says of the heap behind it -/
section
variable {cm : List (Str × Addr)} {sc : Scope} {N : List Str} {σ : L2.St} {obs : Addr → Obj} {H H3 : Hp}
theorem FzU.nin (u : FzU cm (exC cm sc N σ obs H) H3) (C : CEnv cm sc N H) {b : Addr} {o : HO} (h : H3 b = some o) (n : ∀ ob u, o ≠ .frz ob u) : ¬ InC cm b := fun z => by
  cases q : cellV cm sc N σ b with
  | some v =>
    have := u.fz b _ _ (exC_some q)
    rw [h] at this
    exact n _ _ (Option.some.inj this)
  | none =>
    have := u.un b z (by rw [exC_none q]; exact C.free b z)
    rw [h] at this; cases this
theorem FzU.del (u : FzU cm (exC cm sc N σ obs H) H3) (C : CEnv cm sc N H) {b : Addr} {o : HO} (h : H3 b = some o) (n : ∀ ob u, o ≠ .frz ob u) : delC cm H3 b = some o := by
  rw [delC_out (u.nin C h n)]; exact h
theorem FzU.fw {Ts : List Addr} {nm : Nat → Nat → Str} {S : Addr → Prop} (u : FzU cm (exC cm sc N σ obs H) H3) (C : CEnv cm sc N H) (w : Fw Ts nm S (exC cm sc N σ obs H) H3) : Fw Ts nm S H (delC cm H3) := by
  refine ⟨fun b o h z => ?_, fun b h => ?_, w.tab.ext2 (fun b ps e => u.del C e fun _ _ z => by cases z) (fun c q e => u.del C e codeO_nf)⟩
  · rw [delC_out (C.out h)]
    exact w.keep b o (C.same _ _ h) z
  · by_cases y : InC cm b
    · exact C.free b y
    · rw [delC_out y] at h
      have := w.dom b h
      rw [exC_out y] at this; exact this
theorem FzU.tups (u : FzU cm (exC cm sc N σ obs H) H3) (C : CEnv cm sc N H) {ts : List Addr} {xs : List (List V)} (t : TupsAt H3 ts xs) : TupsAt (delC cm H3) ts xs := t.mono fun b x h => u.del C h fun _ _ z => by cases z
end
section
variable {X : Cx} {k i : Nat} {x : Str} {E : XK} {p pos : Pos} {e : Expr} {es : List Expr} {t : TA}
theorem pe_callVO {P : Program} {w : World} {K : PySem.W.Frag} {mg : Str → Option Value} {base : Heap} (e1 : X.prog = P) (e2 : X.w = w) (e3 : X.K = K) (e4 : X.mg = mg) (e5 : X.base = base) (hr : Room k X.A) (hx : Passes (L2.CX X.prog X.w) X E) (nd : X.N.Nodup) (hfn : ∀ y c, X.env.cells.lookup y = some c → X.fn y = true) (hN : X.N[i]? = some x) (hv : Vis X.env.scope x) (ha : PA X (e :: es) t)
    (hd : (x == ("__debug__" : Str)) = false := by decide) (hcd : (x == ("__classdict__" : Str)) = false := by decide)
    (he : starEach (e :: es) X.env = (false, eval e X.env) :: starEach es X.env := by rfl) (hpl : (backTo pos (starEach es X.env)).any (·.1) = false := by rfl) :
    PE X (.Call (.Name x p) (e :: es) [] pos) (tCallVO P w K mg base k i X.env.cells X.env.scope X.N E t) := by
  subst e1 e2 e3 e4 e5
  refine ⟨fun pins s σ H Q I h => ?_⟩
  obtain ⟨f, hs, ht⟩ := h
  refine wpAny_Call_Name_kw (thn ((pe_var (pos := p) hN hv hd hcd).run pins s σ H (fun v H1 => v = .ref f ∧ H1 = H) I ⟨.ref f, hs, rfl, rfl⟩) fun u s1 ⟨v, H1, I1, r1, q1⟩ => ?_)
  obtain ⟨ev, eH⟩ := q1
  subst ev
  rw [eH] at I1
  obtain rfl : u = Value.ref f := r1
  have h := thn (ha.run pos pins s1 σ H _ I1 ht) fun us s2 ⟨vs, H2, I2, r, q⟩ => run_actO (Q := Q) hr hx nd hfn I2 r q
  show wpAny _ _ (callWith pos (.ref f) [] (backTo pos (starEach (e :: es) X.env)) []) _ _ _
  rw [he] at h ⊢
  exact PySem.W.callWith_of (by show ((false || (backTo pos (starEach es X.env)).any (·.1)) || false) = false; rw [hpl]; rfl) PySem.W.keeps_F (PySem.Calls.evalArgs_plain h)
end
end Hk

set_option Elab.async false
set_option linter.all false
set_option maxRecDepth 100000
set_option maxHeartbeats 4000000
/-! x in l, l.index(x) of data, with K told. -/
namespace Hk
open PySem PySem.Spec PyProof.Rows L2
theorem un65 {k : Nat} {A : Around} (r : Room k A) : A.units + 65 < cLine := by have := r.un; omega
section
variable {X : Cx} {K : PySem.W.Frag} (hK : X.K = K)
include hK
theorem op_inDK (hu : X.A.units + 65 < cLine) : OpR X (compareOp .In) (rInD K) := by subst hK; exact op_inD hu
theorem op_notInDK (hu : X.A.units + 65 < cLine) : OpR X (compareOp .NotIn) (rNotInD K) := by subst hK; exact op_notInD hu
theorem mt_indexDK (hu : X.A.units + 65 < cLine) : MtR X "list.index" (rIndexD K) := by subst hK; exact mt_indexD hu
end
end Hk

set_option Elab.async false
set_option linter.all false
set_option maxRecDepth 100000
set_option maxHeartbeats 4000000
/-! Comprehensions whose turns are told of the frame's cells. -/
namespace Hk
open PySem PySem.Spec PySem.W PySem.Calls PyProof.Rows L2 LamX NdefX
section
variable {P : Program} {w : World} {cm : List (Str × Addr)} {sc : Scope} {N : List Str} {σ : L2.St} {obs : Addr → Obj}
/-- what a stretch of work over the shown cells gives over the heap without them -/
theorem un_exG {fs ch : List Addr} {H H' : Hp} {h h' : Heap} (C : CEnv cm sc N H) (hobs : ∀ a, InC cm a → h.get? a = some (obs a)) (nch : ∀ b ∈ ch, ¬ InC cm b) (nfs : ∀ a, InC cm a → a ∉ fs) (hok' : HOk P w H' h') (un : Un fs ch (exC cm sc N σ obs H) H' h h') :
    Un fs ch H (delC cm H') h h' ∧ HOk P w (delC cm H') h' ∧ FzU cm (exC cm sc N σ obs H) H' := by
  have U : FzU cm (exC cm sc N σ obs H) H' := ⟨un.frzs, fun a z n => un.free a _ (hobs a z) n (fun y => nch a y z)⟩
  have keepC : ∀ a, InC cm a → h'.get? a = some (obs a) := fun a z => by
    cases q : cellV cm sc N σ a with
    | some v =>
      have e := un.frzs a _ _ (exC_some q)
      exact (cellO_at (hok' a _ (show H' a = some (CellO a v (obs a)) from e))).1
    | none => exact un.keep a _ (hobs a z) (by rw [exC_none q]; exact C.free a z) (nfs a z) (fun y => nch a y z)
  refine ⟨⟨fun b o e n hb hx => ?_, fun b o e n hb hx => un.slot b o e (by rw [exC_out fun z => nfs b z hb]; exact n) hb hx, fun b o e n hx => ?_, un.there, fun b xs e => ?_, fun b o u e => ?_, fun b ps e => ?_⟩, fun a o e => ?_, U⟩
  · by_cases z : InC cm b
    · rw [hobs b z] at e; cases e; exact keepC b z
    · exact un.keep b o e (by rw [exC_out z]; exact n) hb hx
  · by_cases z : InC cm b
    · exact delC_in z
    · rw [delC_out z]; exact un.free b o e (by rw [exC_out z]; exact n) hx
  · rw [delC_out (C.out e)]; exact un.tups b xs (C.same _ _ e)
  · rw [delC_out (C.out e)]; exact un.frzs b o u (C.same _ _ e)
  · rw [delC_out (C.out e)]; exact un.tbls b ps (C.same _ _ e)
  · have na : ¬ InC cm a := fun z => by rw [delC_in z] at e; cases e
    rw [delC_out na] at e
    exact (hok' a o e).stay (fun _ _ _ q => q) (fun b q => U.del C q fun _ _ z => by cases z) fun b xs q => U.del C q fun _ _ z => by cases z
end
section
variable {X : Cx} {pins : List (Addr × Obj)} {σ : L2.St} {H : Hp} {s : Shared}
/-- a block's start, over the shown cells -/
theorem blk_exp {scope : Scope} {ce : Env} {fp : List Addr} {σ' : L2.St} {s4 : Shared} {obs : Addr → Obj} (I : Inv X pins σ H s) (nd : X.N.Nodup) (hfn : ∀ y c, X.env.cells.lookup y = some c → X.fn y = true) (J : Inv (X.blk s H scope ce fp) [] σ' H s4) (hce : ce.cells = []) (hfp : ∀ b ∈ fp, FpOk X pins H b)
    (hL : ce.locals = s.heap.objs.size) (hok : HOk X.prog X.w (exC X.env.cells X.env.scope X.N σ obs H) s4.heap) : Inv (X.blk s (exC X.env.cells X.env.scope X.N σ obs H) scope ce fp) [] σ' (exC X.env.cells X.env.scope X.N σ obs H) s4 := by
  have C := cenv_of I nd
  have hout := out_own I hfn
  have nfr : ∀ a, InC X.env.cells a → a ∉ frs X.stack := fun a z hb => by
    rcases List.mem_cons.mp (I.stkSub a hb) with e | e
    · obtain ⟨y, hy⟩ := z
      exact I.cne y a hy e
    · exact (hout a z).2 e
  have lt : ∀ a, InC X.env.cells a → a < s.heap.objs.size := fun a ⟨y, hy⟩ => by
    obtain ⟨v, q⟩ := I.cell y a hy
    exact q.lt
  have bk : ∀ {b}, exC X.env.cells X.env.scope X.N σ obs H b = none → H b = none := fun {b} e => by
    cases q : H b with
    | none => rfl
    | some o => rw [C.same _ _ q] at e; cases e
  have ok := J.ok
  have b4 := J.base
  have sB : Same H (exC X.env.cells X.env.scope X.N σ obs H) := C.same
  constructor
  · exact { mod := ok.mod, kind := ok.kind, glob := ok.glob, blt := ok.blt, above := ok.above, inj := ok.inj, has := ok.has, cab := ok.cab, hd := ok.hd, frames := ok.frames, stk := ok.stk, exf := ok.exf, bsz := ok.bsz, noex := ok.noex, exfs := ok.exfs, funs := ok.funs
            bs := fun b o e => ⟨(ok.bs b o e).1, by
              show exC _ _ _ σ obs H b = none
              rw [exC_out fun z => by rw [(hout b z).1] at e; cases e]; exact (ok.bs b o e).2⟩
            frf := fun b hb => by
              show exC _ _ _ σ obs H b = none
              rw [exC_out fun z => nfr b z hb]; exact ok.frf b hb }
  · exact J.os
  · exact J.bare
  · exact ⟨fun b o e n hb hx => b4.keep b o e (bk n) hb hx, fun b o e n hb hx => b4.slot b o e (bk n) hb hx, fun b o e n hx => n, b4.there, fun b xs e => e, fun b o u e => e, fun b ps e => ⟨#[], by rw [Array.append_empty]; exact e⟩⟩
  · exact J.loc
  · exact J.cell
  · show exC _ _ _ σ obs H ce.locals = none
    rw [exC_out fun z => absurd (hL ▸ lt _ z) (Nat.lt_irrefl _)]; exact J.free
  · intro x c e
    have e : ce.cells.lookup x = some c := e
    rw [hce] at e; cases e
  · intro p hp
    exact absurd (show p ∈ ([] : List (Addr × Obj)) ++ [] from hp) (by simp)
  · exact hok
  · exact J.len
/-- [elt for ..]: the turns told of the cells -/
def tLcX (cm : List (Str × Addr)) (sc : Scope) (N : List Str) (wi : TI) (g : TG) (tt : TT) (te : TE) (vs : List Nat) : TE := fun σ H Q => wi σ H fun J H1 => CEnv cm sc N H1 → ∀ obs : Addr → Obj,
  LcG J g tt te vs σ (exC cm sc N σ obs H1) fun v H' => FzU cm (exC cm sc N σ obs H1) H' → Q v (delC cm H')
theorem lcx_run {elt tg iter : Expr} {ifs : List Expr} {scope : Scope} {own : List (Str × Nat)} {pos pos' : Pos} {wi : TI} {g : TG} {tt : TT} {te : TE} {use : Option (Value → Sem Unit)} {Qf : Value → Shared → Prop} {Q : VK}
    (calm : X.calm = true) (nd : X.N.Nodup) (hfn : ∀ y c, X.env.cells.lookup y = some c → X.fn y = true) (I : Inv X pins σ H s) (hi : PI X tg iter wi) (ok : BlkOk X.N X.env.scope scope own) (hnil : ∀ n, cellsFrom n scope.names (cloFrom X.env.cells scope.names []) = [])
    (pgs : ∀ (s : Shared) (H : Hp) (C : Addr) (cl : List (Str × Addr)) (fp : List Addr), PG (X.blk s H scope (compEnvC scope cl C X.env) fp) tg g) (pts : ∀ (s : Shared) (H : Hp) (C : Addr) (cl : List (Str × Addr)) (fp : List Addr), PTs (X.blk s H scope (compEnvC scope cl C X.env) fp) ifs tt)
    (pes : ∀ (s : Shared) (H : Hp) (C : Addr) (cl : List (Str × Addr)) (fp : List Addr), PE (X.blk s H scope (compEnvC scope cl C X.env) fp) elt te) (fold : ∀ x, foldedSetIterable iter X.env x = pure x)
    (h : tLcX X.env.cells X.env.scope X.N wi g tt te (own.map (·.2)) σ H Q)
    (fin : ∀ L C s' m H', Inv X pins σ H' s' → Q (.ref L) H' → s'.heap.Ns C m → FpOk X pins H' C → compPost (model X.prog X.w) X.A X.xe use Qf (.ref L) C (.ok .next) s') :
    wpAny (model X.prog X.w) X.A (comprehension (.ListComp elt [⟨tg, iter, ifs, 0⟩] scope pos) scope X.env pos' (newList []) false (eval iter X.env) use) Qf X.xe s := by
  have clos := closure_ok (env := X.env) (scope := scope) fun y hy e => (ok.free y hy e).elim (fun k => I.ok.has _ (.inl k)) fun k => I.ok.has _ (.inr k)
  refine wpAny_comprehension_free rfl fold clos ok.kind (fun y hy e => (ok.uniq y hy).trans (congrArg some e)) (thn (hi.run pins s σ H _ I h) fun xv sA hA => thn hA fun itv sB hB => ?_)
  obtain ⟨it, fp, tn, J, HB, rfl, IB, T, tB, fB, q⟩ := hB
  refine wpAny_newObj_type (newEnv_comp ?_) (Nat.zero_le _)
  have eL : HB sB.heap.objs.size = none := IB.hok.fresh (Nat.le_refl _)
  have e0 : (sB.heap.push { cls := .type "list", data := .seq ([] : List Value).toArray }).get? sB.heap.objs.size = some ({ cls := .type "list", data := .seq ([] : List Value).toArray } : Obj) := Heap.get?_push_size _ rfl
  have IC : Inv X pins σ (upd HB sB.heap.objs.size (.lst [])) { sB with heap := sB.heap.push { cls := .type "list", data := .seq ([] : List Value).toArray } } :=
    IB.laid (t' := sB.toks) (fun b o e => Heap.get?_push_of_some _ e) (Nat.le_refl _) ⟨Nat.zero_le _, [], 0, .nil, e0⟩
  have fC : ∀ b ∈ fp, FpOk X pins (upd HB sB.heap.objs.size (.lst [])) b ∧ b < (sB.heap.push { cls := .type "list", data := .seq ([] : List Value).toArray } : Heap).objs.size := fun b hb => by
    obtain ⟨o, e, _⟩ := T.obj _ _ tB b hb
    have l := Heap.lt_size e
    exact ⟨⟨by rw [upd_ne (Nat.ne_of_lt l)]; exact (fB b hb).1, (fB b hb).2⟩, by rw [Heap.size_push]; exact Nat.lt_succ_of_lt l⟩
  have tC : tn 0 (sB.heap.push { cls := .type "list", data := .seq ([] : List Value).toArray }) := T.keep _ _ _ tB fun b _ o e => Heap.get?_push_of_some _ e
  generalize hsC : ({ sB with heap := sB.heap.push { cls := .type "list", data := .seq ([] : List Value).toArray } } : Shared) = sC at IC
  have hC : sB.heap.push { cls := .type "list", data := .seq ([] : List Value).toArray } = sC.heap := by rw [← hsC]
  rw [hC] at fC tC
  generalize hL : sB.heap.objs.size = L at eL IC fC
  have K := block_start IC ok nd fC
  rw [hnil] at K
  show codeAny _ _ (.compStart (.ListComp elt [⟨tg, iter, ifs, 0⟩] scope pos) 0 (.ref it) (.ref L) (compEnvC scope (cellsFrom (sC.heap.objs.size + 1) scope.names (cloFrom X.env.cells scope.names [])) sC.heap.objs.size X.env)) (compPost (model X.prog X.w) X.A X.xe use Qf (.ref L) sC.heap.objs.size) { sC with heap := pushCells (sC.heap.push { cls := .type "dict", data := .dict #[] }) scope.names }
  rw [hnil]
  generalize hsD : ({ sC with heap := pushCells (sC.heap.push { cls := .type "dict", data := .dict #[] }) scope.names } : Shared) = sD at K ⊢
  have kp : ∀ b o, sC.heap.get? b = some o → sD.heap.get? b = some o := fun b o e => by rw [← hsD]; exact pushCells_keeps _ _ _ _ (Heap.get?_push_of_some _ e)
  have tD : tn 0 sD.heap := T.keep _ _ _ tC fun b _ o e => kp b o e
  have back : ∀ b ∈ fp, (b ∈ X.ex ∨ X.s_0.heap.objs.size ≤ b) ∧ b ≠ X.env.locals ∧ (∀ x c, X.env.cells.lookup x = some c → c ≠ b) ∧ ∀ p ∈ X.pn ++ pins, p.1 ≠ b := fun b hb =>
    let z := (fC b hb).1
    ⟨z.2.2.2.1, z.2.1, z.2.2.2.2.1, z.2.2.2.2.2⟩
  have ID : Inv X pins σ (upd HB L (.lst [])) sD := IC.call' (ch := fp) K.os K.base K.hok K.bare back
  have outC := out_own IC hfn
  obtain ⟨obs, hobsD, env⟩ := env_expF ID nd (out_own ID hfn)
  have hobs : ∀ a, InC X.env.cells a → sC.heap.get? a = some (obs a) := fun a z => by
    obtain ⟨y, hy⟩ := id z
    obtain ⟨v, o, e, _⟩ := IC.cell y a hy
    have e2 := kp a o e
    rw [hobsD a z] at e2
    rw [e]; exact e2.symm
  have nL : ¬ InC X.env.cells L := fun ⟨y, hy⟩ => by
    obtain ⟨v, z⟩ := IB.cell y L hy
    exact absurd (hL ▸ z.lt) (Nat.lt_irrefl _)
  have nSz : ¬ InC X.env.cells sC.heap.objs.size := fun ⟨y, hy⟩ => by
    obtain ⟨v, z⟩ := IC.cell y _ hy
    exact absurd z.lt (Nat.lt_irrefl _)
  have nfp : ∀ b ∈ fp, ¬ InC X.env.cells b := fun b hb ⟨y, hy⟩ => (fC b hb).1.2.2.2.2.1 y b hy rfl
  have nfr : ∀ a, InC X.env.cells a → a ∉ frs X.stack := fun a z hb => by
    rcases List.mem_cons.mp (IC.stkSub a hb) with e | e
    · obtain ⟨y, hy⟩ := z
      exact IC.cne y a hy e
    · exact (outC a z).2 e
  have CB := cenv_of IB nd
  have CC := cenv_of IC nd
  have eG : upd (exC X.env.cells X.env.scope X.N σ obs HB) L (.lst []) = exC X.env.cells X.env.scope X.N σ obs (upd HB L (.lst [])) := funext fun b => by
    by_cases z : InC X.env.cells b
    · have nb : b ≠ L := fun y => nL (by rw [← y]; exact z)
      rw [upd_ne nb]
      unfold exC
      rw [upd_ne nb]
    · rw [exC_out z]
      by_cases y : b = L
      · rw [y, upd_same, upd_same]
      · rw [upd_ne y, upd_ne y, exC_out z]
  have KG := blk_exp (obs := obs) IC nd hfn K rfl (fun b hb => (fC b hb).1) rfl env.hok
  obtain ⟨W, ⟨m0, w0⟩, turn⟩ := q CB obs L (by rw [exC_out nL]; exact eL)
  rw [eG] at w0
  have gfp : ∀ b ∈ fp, exC X.env.cells X.env.scope X.N σ obs (upd HB L (.lst [])) b = none := fun b hb => by rw [exC_out (nfp b hb)]; exact (fC b hb).1.1
  have pg := pgs sC (exC X.env.cells X.env.scope X.N σ obs (upd HB L (.lst []))) sC.heap.objs.size [] fp
  have pt := pts sC (exC X.env.cells X.env.scope X.N σ obs (upd HB L (.lst []))) sC.heap.objs.size [] fp
  have pe := pes sC (exC X.env.cells X.env.scope X.N σ obs (upd HB L (.lst []))) sC.heap.objs.size [] fp
  have fpk : ∀ {τ : L2.St} {H' : Hp} {s' : Shared}, Inv (X.blk sC (exC X.env.cells X.env.scope X.N σ obs (upd HB L (.lst []))) scope (compEnvC scope [] sC.heap.objs.size X.env) fp) [] τ H' s' → (∀ b ∈ fp, H' b = none) → ∀ b ∈ fp, FpOk (X.blk sC (exC X.env.cells X.env.scope X.N σ obs (upd HB L (.lst []))) scope (compEnvC scope [] sC.heap.objs.size X.env) fp) [] H' b :=
    fun {τ H' s'} Z hn b hb => ⟨hn b hb, (Z.ok.exf b hb).1, Z.ok.exfs b hb, .inl hb, fun x c e => (Z.ok.exf b hb).2 x c e, fun p hp => absurd (show p ∈ ([] : List (Addr × Obj)) ++ [] from hp) (by simp)⟩
  have loop : codeAny (model X.prog X.w) X.A (.compLoop (.ListComp elt [⟨tg, iter, ifs, 0⟩] scope pos) 0 (.ref it) (.ref L) (compEnvC scope [] sC.heap.objs.size X.env)) (compPost (model X.prog X.w) X.A X.xe use Qf (.ref L) sC.heap.objs.size) sD := by
    refine compLoop_any (fun n s' => ∃ j H', Inv (X.blk sC (exC X.env.cells X.env.scope X.N σ obs (upd HB L (.lst []))) scope (compEnvC scope [] sC.heap.objs.size X.env) fp) [] (wipe σ (own.map (·.2))) H' s' ∧ tn j s'.heap ∧ (∀ b ∈ fp, H' b = none) ∧ W j n H') (fun n sE hE => ?_) m0 ⟨0, _, KG, tD, gfp, w0⟩
    obtain ⟨j, HE, IE, tE, nE, wE⟩ := hE
    rcases turn j n HE wE with ⟨stop, qq⟩ | ⟨go, Nx, hNx, step⟩
    · refine thnF (T.done (X.blk sC (exC X.env.cells X.env.scope X.N σ obs (upd HB L (.lst []))) scope (compEnvC scope [] sC.heap.objs.size X.env) fp) rfl rfl rfl calm j [] sE _ HE (fun _ _ => False) IE (fpk IE nE) tE stop) fun r sF hF => ?_
      obtain ⟨rfl, IF⟩ := hF
      obtain ⟨un, hokF, U⟩ := un_exG (P := X.prog) (w := X.w) CC hobs nfp nfr IF.hok IF.base
      have IX : Inv X pins σ (delC X.env.cells HE) sF := IC.call' (ch := fp) IF.os un hokF IF.bare back
      obtain ⟨m, hm, _⟩ := IF.loc
      refine fin L sC.heap.objs.size sF m _ IX (qq ⟨fun b o u e => U.fz b o u ?_, fun a z n => U.un a z ?_⟩) hm (IC.fpOk (Nat.le_refl _) ?_)
      · rw [← eG, upd_ne (fun y => by rw [y, exC_out nL, eL] at e; cases e)]; exact e
      · rw [← eG, upd_ne (fun y => nL (by rw [← y]; exact z))]; exact n
      · rw [delC_out nSz]; exact IF.free
    · refine thnF (T.item (X.blk sC (exC X.env.cells X.env.scope X.N σ obs (upd HB L (.lst []))) scope (compEnvC scope [] sC.heap.objs.size X.env) fp) rfl rfl rfl calm j [] sE _ HE (fun _ _ => False) IE (fpk IE nE) tE go) fun r sF hF => ?_
      obtain ⟨u, rfl, hF⟩ := hF
      refine thnF hF fun _ sG hG => ?_
      obtain ⟨x, HG, IG, rG, yG, tG, nG⟩ := hG
      refine thnF (pg.run _ sG _ HG x u _ (IG.pinned (fpk IG nG) (T.obj _ _ tG)) rG (step x HG yG)) fun _ sH hH => ?_
      obtain ⟨τ, HH, IH, hw, qH⟩ := hH
      refine thnF (pt.run _ sH τ HH _ IH qH) fun b sI hI => ?_
      obtain ⟨HI, II, qI⟩ := hI
      have next : ∀ {s' : Shared} {H' : Hp}, Inv (X.blk sC (exC X.env.cells X.env.scope X.N σ obs (upd HB L (.lst []))) scope (compEnvC scope [] sC.heap.objs.size X.env) fp) ([] ++ pinsAt fp sG.heap) τ H' s' → Nx H' →
          ∃ m, m < n ∧ ∃ j H', Inv (X.blk sC (exC X.env.cells X.env.scope X.N σ obs (upd HB L (.lst []))) scope (compEnvC scope [] sC.heap.objs.size X.env) fp) [] (wipe σ (own.map (·.2))) H' s' ∧ tn j s'.heap ∧ (∀ b ∈ fp, H' b = none) ∧ W j m H' := fun {s' H'} Z nx => by
        obtain ⟨m, hm, wm⟩ := hNx H' nx
        have pin : ∀ b ∈ fp, ∀ o, sG.heap.get? b = some o → s'.heap.get? b = some o ∧ H' b = none := fun b hb o e => by
          have y := Z.pin (b, o) (List.mem_append_right _ (List.mem_append_right _ (mem_pinsAt hb e)))
          exact ⟨y.1, y.2.1⟩
        refine ⟨m, hm, j + 1, H', (Z.unpinned (pins := [])).weak (by rw [← hw, wipe_length]) (fun k v e => ?_), T.keep _ _ _ tG fun b hb o e => (pin b hb o e).1, fun b hb => ?_, wm⟩
        · rw [← hw] at e
          exact (wipe_some e).1
        · obtain ⟨o, e, _⟩ := T.obj _ _ tG b hb
          exact (pin b hb o e).2
      cases b with
      | false => exact next II qI
      | true =>
        refine thnF (pe.run _ sI τ HI _ II qI) fun z sJ hJ => ?_
        obtain ⟨v, HJ, IJ, rJ, acc, dJ, lJ, nx⟩ := hJ
        exact app_ok (X := X.blk sC (exC X.env.cells X.env.scope X.N σ obs (upd HB L (.lst []))) scope (compEnvC scope [] sC.heap.objs.size X.env) fp) IJ dJ lJ rJ fun sK IK => next IK nx
  exact codeAny_compStart_list loop (T.self X.A 0 _ _ _ tD loop)
theorem pe_lcX {elt tg iter : Expr} {ifs : List Expr} {scope : Scope} {own : List (Str × Nat)} {pos : Pos} {wi : TI} {g : TG} {tt : TT} {te : TE} (calm : X.calm = true) (nd : X.N.Nodup) (hfn : ∀ y c, X.env.cells.lookup y = some c → X.fn y = true) (hi : PI X tg iter wi) (ok : BlkOk X.N X.env.scope scope own) (hnil : ∀ n, cellsFrom n scope.names (cloFrom X.env.cells scope.names []) = [])
    (pgs : ∀ (s : Shared) (H : Hp) (C : Addr) (cl : List (Str × Addr)) (fp : List Addr), PG (X.blk s H scope (compEnvC scope cl C X.env) fp) tg g) (pts : ∀ (s : Shared) (H : Hp) (C : Addr) (cl : List (Str × Addr)) (fp : List Addr), PTs (X.blk s H scope (compEnvC scope cl C X.env) fp) ifs tt)
    (pes : ∀ (s : Shared) (H : Hp) (C : Addr) (cl : List (Str × Addr)) (fp : List Addr), PE (X.blk s H scope (compEnvC scope cl C X.env) fp) elt te) (fold : ∀ x, foldedSetIterable iter X.env x = pure x := by intro _; rfl) :
    PE X (.ListComp elt [⟨tg, iter, ifs, 0⟩] scope pos) (tLcX X.env.cells X.env.scope X.N wi g tt te (own.map (·.2))) := ⟨fun pins s σ H Q I h => by
  rw [eval_ListComp]
  refine lcx_run calm nd hfn I hi ok hnil pgs pts pes fold h fun L C s' m H' J q hn f => ⟨m, hn, fun h'' sb => ?_⟩
  exact ⟨.ref L, H', J.turned (t' := s'.toks) (fun b o hb e => (sb.2 b hb).trans e) f.1 f.2.1 f.2.2.2.1 f.2.2.2.2.1 f.2.2.2.2.2, rfl, q⟩⟩
end
end Hk

set_option Elab.async false
set_option linter.all false
set_option maxRecDepth 100000
set_option maxHeartbeats 4000000
/-! sorted(.., key=f): f is told of the frame's cells. -/
namespace Hk
open PySem PySem.Spec PySem.W PySem.Calls PyProof.Rows L2 LamX NdefX
def rSortX (P : Program) (w : World) (K : PySem.W.Frag) (mg : Str → Option Value) (base : Heap) (k : Nat) (cm : List (Str × Addr)) (sc : Scope) (N : List Str) (σ : L2.St) : List V → List V → Hp → VK → Prop := fun vs zs H Q => ∃ (l f : Addr) (xs : List V) (key : V → PyData), vs = [.ref l] ∧ zs = [.ref f] ∧ SqL K H l xs ∧ xs.length ≤ 100000 ∧
  (∀ x ∈ xs, ∃ n, key x = .int n) ∧
  (∀ x ∈ xs, ∀ (H' : Hp), Same H H' → CEnv cm sc N H' → ∀ obs, ∃ sp, Act P w K mg base k f sp ∧ ∀ (Q' : VK), (∀ n H'', Same (exC cm sc N σ obs H') H'' → key x = .int n → Q' (.int n) H'') → sp [x] (exC cm sc N σ obs H') Q' fun _ _ _ => False) ∧
  ∀ p H', Same H H' → H p = none → H' p = some (.lst (xs.mergeSort (dataLe false key))) → Q (.ref p) H'
section
variable {X : Cx} {k : Nat}
theorem sortX_run {pins : List (Addr × Obj)} {s : Shared} {σ : L2.St} {H : Hp} {vs zs : List V} {us ws : List Value} {Q : VK} (hr : Room (k + 2) X.A) (hu : X.A.units + 64 < cLine) (nd : X.N.Nodup) (hfn : ∀ y c, X.env.cells.lookup y = some c → X.fn y = true) (I : Inv X pins σ H s) (rv : Vals vs us) (rz : Vals zs ws)
    (h : rSortX X.prog X.w X.K X.mg X.base k X.env.cells X.env.scope X.N σ vs zs H Q) : wpAny (model X.prog X.w) X.A (call (.builtin "sorted") us ([Str.ofString "key"].zip ws)) (EP X pins σ Q) X.xe s := by
  obtain ⟨l, f, xs, key, rfl, rfl, hs, hz, hkey, hsp, q⟩ := h
  rw [Vals.ref1 rv, Vals.ref1 rz]
  obtain ⟨its, rx, hl, _⟩ := I.list hs
  have hlen := rx.length
  have hZ : its.length < sizeLine := by rw [← hlen]; exact Nat.lt_of_le_of_lt hz (by decide)
  have hal : AllAlike (xs.map key) := fun d hd d' hd' => by
    obtain ⟨x, hx, rfl⟩ := List.mem_map.mp hd
    obtain ⟨x', hx', rfl⟩ := List.mem_map.mp hd'
    obtain ⟨n, e⟩ := hkey x hx
    obtain ⟨n', e'⟩ := hkey x' hx'
    rw [e, e']; rfl
  have hsk : PySem.W.Sortable (xs.map key) := .inr fun d hd => by
    obtain ⟨x, hx, rfl⟩ := List.mem_map.mp hd
    obtain ⟨n, e⟩ := hkey x hx
    rw [e]
    exact ⟨(fun z => by cases z), fun xs z => by cases z⟩
  have hdp : ∀ d, d ∈ xs.map key → X.A.in1.in1.units + d.depth < cLine := fun d hd => by
    obtain ⟨x, hx, rfl⟩ := List.mem_map.mp hd
    obtain ⟨n, e⟩ := hkey x hx
    show X.A.units + 1 + 1 + _ < _
    rw [e]; simp only [PyData.depth]; omega
  refine sorted_of_sort hl.isList (Nat.le_of_lt hZ) (ksk_s1 _ _) (fun x => ksk_l1 _ _) fun E' => ?_
  show wpAny _ _ (Builtin.«list.sort» ⟨[.ref (s.heap.objs.size + 1)], [(Str.ofString "key", .ref f)]⟩) _ _ _
  rw [ksk_t1]
  have hfr : H (s.heap.objs.size + 1) = none := I.hok.fresh (Nat.le_succ _)
  have I1 : Inv X pins σ (upd H (s.heap.objs.size + 1) (.lst xs)) { s with heap := copyHeap s.heap its, toks := s.toks } := I.laid (fun _ _ => copyHeap_old) (Nat.le_succ _) ⟨by rw [hlen]; exact Nat.le_of_lt hZ, its, 0, rx, copyHeap_at s.heap its⟩
  refine key_treeI (key := key) I1 upd_same (copyHeap_at s.heap its) rx hZ hal hsk hdp (fun x hx v H' s' rxv I' kp => ?_) fun s' H' I' kp e => ⟨rfl, .ref _, H', I', rfl, q _ H' (fun b o e' => kp b o (ne_of_none e' hfr) (by rw [upd_ne (ne_of_none e' hfr)]; exact e')) hfr e⟩
  have sm : Same H H' := fun b o e' => kp b o (ne_of_none e' hfr) (by rw [upd_ne (ne_of_none e' hfr)]; exact e')
  have C := cenv_of I' nd
  refine wpAny_call (codeAny_mono (run_expFA (X := X.nox) (Q := fun y H'' => (∀ b o, H' b = some o → H'' b = some o) ∧ KeyV H'' y (key x)) (E := fun _ _ _ => False) (A' := X.A.in1.in1) (fun e => e.in1.in1) (I'.wish _) nd (out_own (X := X.nox) (I'.wish _) hfn) (fun pins σ H s e s' I h => ?_) fun obs ho e0 => ?_) fun r s2 hq => ?_)
  · obtain ⟨_, _, _, _, _, _, _, _, _, _, _, _, hE⟩ := h
    exact hE.elim
  · obtain ⟨sp, ac, g⟩ := hsp x hx H' sm C obs
    refine codeAny_mono (ac X.A.in1.in1 X.stack s' _ [v] [x] _ _ hr.in1.in1 e0 (.cons rxv .nil) (g (fun y H'' => FzU X.env.cells (exC X.env.cells X.env.scope X.N σ obs H') H'' → (∀ b o, H' b = some o → delC X.env.cells H'' b = some o) ∧ KeyV (delC X.env.cells H'') y (key x)) fun n H'' s2 e _ => ⟨fun b o eb => ?_, .inl ⟨n, rfl, e⟩⟩)).2 fun r s2 hq => CR.imp (fun v H' g z1 z2 => g ⟨z1, z2⟩) (fun _ _ _ z => z.elim) hq
    rw [delC_out (C.out eb)]
    exact s2 _ _ (C.same _ _ eb)
  · cases r with
    | error e => exact False.elim hq
    | ok fl =>
      cases fl with
      | ret u =>
        obtain ⟨v, H'', J, r, q⟩ := (show EP X.nox pins σ _ u s2 from hq)
        exact ⟨v, H'', J.unwish, r, q⟩
      | next => exact False.elim hq
      | brk => exact False.elim hq
      | cont => exact False.elim hq
def tSortX (P : Program) (w : World) (K : PySem.W.Frag) (mg : Str → Option Value) (base : Heap) (k : Nat) (cm : List (Str × Addr)) (sc : Scope) (N : List Str) (t tk : TA) : TE := fun σ H Q => t σ H fun vs H1 => tk σ H1 fun zs H2 => rSortX P w K mg base k cm sc N σ vs zs H2 Q
theorem pe_sortX {P : Program} {w : World} {K : PySem.W.Frag} {mg : Str → Option Value} {base : Heap} (e1 : X.prog = P) (e2 : X.w = w) (e3 : X.K = K) (e4 : X.mg = mg) (e5 : X.base = base) {e : Expr} {kws : List Keyword} {p pos : Pos} {t tk : TA} (hr : Room (k + 2) X.A) (nd : X.N.Nodup) (hfn : ∀ y c, X.env.cells.lookup y = some c → X.fn y = true) (hg : Gl X "sorted") (hm : X.mg "sorted" = none) (ha : PA X [e] t) (hk : PK X kws tk)
    (hv : bootBuiltins ("sorted" : Str) = some (.builtin "sorted") := by decide +kernel) (he : backTo pos (starEach [e] X.env) = (false, eval e X.env) :: backTo pos (starEach [] X.env) := by rfl) (hpl : (backTo pos (starEach [e] X.env)).any (·.1) = false := by rfl)
    (hall : (backToKw pos (keywordEach kws X.env)).all (·.1.isSome) = true := by rfl) (hnone : (backToKw pos (keywordEach kws X.env)).any (·.1.isNone) = false := by rfl) (hks : (backToKw pos (keywordEach kws X.env)).filterMap (·.1) = [Str.ofString "key"] := by rfl) :
    PE X (.Call (.Name "sorted" p) [e] kws pos) (tSortX P w K mg base k X.env.cells X.env.scope X.N t tk) := by
  subst e1 e2 e3 e4 e5
  refine ⟨fun pins s σ H Q I h => wpAny_Call_Name_kw (ld_blt I hg hm hv ?_ (by decide) (by decide))⟩
  refine PyProof.Rows.callWith_kw (thn (ha.run pos pins s σ H _ I h) fun us s1 h1 => ?_) he hpl hall hnone
  obtain ⟨vs, H1, I1, r1, q1⟩ := h1
  refine thn (hk.run pos pins s1 σ H1 _ I1 q1) fun ws s2 h2 => ?_
  obtain ⟨zs, H2, I2, r2, q2⟩ := h2
  rw [hks]
  exact sortX_run hr hr.units nd hfn I2 r1 r2 q2
end
end Hk

set_option Elab.async false
set_option linter.all false
set_option maxRecDepth 100000
set_option maxHeartbeats 4000000
/-! A comprehension of pairs of a text and a new empty list. -/
namespace Hk
open PySem PySem.Spec PySem.W PyProof.Rows L2 LamX NdefX
/-- [(x, []) for x in xs] -/
theorem lc_empties (xs : List Str) {J : It} {G : Hp → Prop} {Y : Nat → Hp → V → Hp → Prop} (w : Walk J xs.length G Y) {g : TG} {te : TE} {vs : List Nat} {σ : L2.St} {H1 : Hp} {Q : VK}
    (hn : xs.length ≤ 100000) (hG : ∀ H, Same H1 H → G H) (hY : ∀ i H x H', Y i H x H' → H' = H)
    (hs : ∀ i a x H H' (R : V → Hp → Prop), xs[i]? = some a → Same H1 H → Y i H x H' → (∀ p t, H' p = none → upd H' p (.lst []) t = none → R (.ref t) (upd (upd H' p (.lst [])) t (.tup [.str a, .ref p]))) → g x (wipe σ vs) H' fun σ2 H2 => wipe σ2 vs = wipe σ vs ∧ te σ2 H2 (fun y H4 => R y H4))
    (hd : ∀ D H ts ps, H1 D = none → Same H1 H → H D = some (.lst (ts.map V.ref)) → ps.length = xs.length → ps.Nodup → (∀ p ∈ ps, H p = some (.lst []) ∧ H1 p = none ∧ p ≠ D) → TupsAt H ts ((xs.zip ps).map fun z => [V.str z.1, V.ref z.2]) → Q (.ref D) H) : LcG J g tYes te vs σ H1 Q := by
  refine lc_accH w No (fun i acc H => Same H1 H ∧ ∃ ts ps, acc = ts.map V.ref ∧ ps.length = i ∧ ps.Nodup ∧ (∀ p ∈ ps, H p = some (.lst []) ∧ H1 p = none) ∧ TupsAt H ts (((xs.take i).zip ps).map fun z => [V.str z.1, V.ref z.2])) (Nat.lt_of_le_of_lt hn (by decide)) (fun _ _ z => z) ⟨Same.refl _, [], [], rfl, rfl, List.nodup_nil, (fun _ hp => nomatch hp), trivial⟩ (fun H D i acc nD e _ => hG H e.same)
    (fun D i x H H' acc R nD hD hi e hJ hy r0 r1 => ?_) (fun D acc H nD hl e hJ hD => ?_)
  · obtain ⟨s1, ts, ps, rfl, pl, pn, pe, ht⟩ := hJ
    have hx : xs[i]? = some xs[i] := List.getElem?_eq_getElem hi
    obtain rfl := hY _ _ _ _ hy
    have r2 : ∀ p t, H' p = none → upd H' p (.lst []) t = none → R (some (.ref t)) (upd (upd H' p (.lst [])) t (.tup [.str xs[i], .ref p])) := fun p t np nt => by
      have sa : Same H' (upd H' p (.lst [])) := same_put (Same.refl _) np
      have sb : Same H' (upd (upd H' p (.lst [])) t (.tup [.str xs[i], .ref p])) := sa.trans (same_put (Same.refl _) nt)
      have npt : p ≠ t := fun z => by rw [← z, upd_same] at nt; cases nt
      have npD : p ≠ D := fun z => by rw [z, hD] at np; cases np
      have ntD : t ≠ D := fun z => by rw [z, sa _ _ hD] at nt; cases nt
      refine r1 _ _ (.of_same sb) ⟨s1.trans (offA_mono sb), ts ++ [t], ps ++ [p], by simp, by simp [pl], ?_, fun b hb => ?_, ?_⟩
      · rw [List.nodup_append]
        refine ⟨pn, by simp, fun x hx y hy => ?_⟩
        rw [List.mem_singleton.mp hy]
        intro z
        have := (pe x hx).1
        rw [z] at this
        rw [offA_same _ _ this] at np
        cases np
      · rcases List.mem_append.mp hb with hb | hb
        · exact ⟨offA_mono sb _ _ (pe b hb).1, (pe b hb).2⟩
        · rw [List.mem_singleton.mp hb]
          exact ⟨by rw [offA_ne npD, upd_ne npt, upd_same], e.same.free np⟩
      · rw [List.take_add_one, hx, List.zip_append (by rw [List.length_take, pl]; omega), List.map_append]
        exact TupsAt.snoc (by rw [offA_ne ntD]; exact upd_same) (TupsAt.mono (fun t x h => offA_mono sb _ _ h) ht)
    have key := hs i xs[i] x H' H' (fun y H4 => R (some y) H4) hx e.same hy r2
    simp only [tYes, if_true]
    exact key
  · obtain ⟨s1, ts, ps, rfl, pl, pn, pe, ht⟩ := hJ
    rw [List.take_length] at ht
    exact hd D H ts ps nD e.same hD pl pn (fun p hp => ⟨offA_same _ _ (pe p hp).1, (pe p hp).2, fun z => by
      have := (pe p hp).1
      rw [z] at this
      simp [offA] at this⟩) (TupsAt.mono (fun t x h => offA_same _ _ h) ht)
end Hk

set_option Elab.async false
set_option linter.all false
set_option maxRecDepth 100000
set_option maxHeartbeats 4000000
/-! Listeners and nets, in plain Lean and at the heap. -/
namespace Hk
open PySem PySem.Spec PySem.W PyProof.Rows L2
structure Lis where
  ad : Addr
  dx : Addr
  n : Int
  p : Str
  wk : V
  r : Int
  once : Bool
  gate : V
  group : Str
  muted : Bool
  gone : Bool
def leL (x y : Lis) : Bool := decide (x.r < y.r ∨ (x.r = y.r ∧ x.n ≤ y.n))
def orderM (ls : List Lis) : List Lis := (ls.filter fun l => !l.gone).mergeSort leL
def keyL (ls : List Lis) (v : V) : PyData := match ls.find? (fun l => decide (v = .ref l.ad)) with
  | some l => .tuple [.int l.r, .int l.n]
  | none => .tuple [.int 0, .int 0]
theorem keyL_pair (ls : List Lis) (v : V) : ∃ i j, keyL ls v = .tuple [.int i, .int j] := by
  unfold keyL
  split
  · exact ⟨_, _, rfl⟩
  · exact ⟨_, _, rfl⟩
theorem find_ad : ∀ {ls : List Lis} {l : Lis}, (ls.map (·.ad)).Nodup → l ∈ ls → ls.find? (fun x => decide ((V.ref l.ad) = .ref x.ad)) = some l
  | x :: ls, l, hn, hl => by
    rw [List.map_cons, List.nodup_cons] at hn
    rcases List.mem_cons.mp hl with e | e
    · rw [← e, List.find?_cons]; simp
    · have : l.ad ≠ x.ad := fun z => hn.1 (z ▸ List.mem_map_of_mem (f := (·.ad)) e)
      rw [List.find?_cons]
      have e0 : decide (V.ref l.ad = V.ref x.ad) = false := decide_eq_false fun z => this (V.ref.inj z)
      rw [e0]
      exact find_ad hn.2 e
theorem keyL_at {ls : List Lis} {l : Lis} (hn : (ls.map (·.ad)).Nodup) (hl : l ∈ ls) : keyL ls (.ref l.ad) = .tuple [.int l.r, .int l.n] := by
  unfold keyL
  rw [find_ad hn hl]
theorem order_refs {ls us : List Lis} (hn : (ls.map (·.ad)).Nodup) (hu : ∀ l ∈ us, l ∈ ls) : (us.map fun l => V.ref l.ad).mergeSort (dataLe false (keyL ls)) = (us.mergeSort leL).map fun l => V.ref l.ad := by
  refine (sort_maps (r := leL) (s := dataLe false (keyL ls)) (fun l : Lis => V.ref l.ad) (l := us) fun x hx y hy => ?_).symm
  have h := congrFun (congrFun (dataLe_ii (β := Lis) (·.r) (·.n)) x) y
  rw [dataLe_eq] at h ⊢
  simp only [keyL_at hn (hu x hx), keyL_at hn (hu y hy)]
  unfold leL
  exact h.symm
end Hk

set_option Elab.async false
set_option linter.all false
set_option maxRecDepth 100000
set_option maxHeartbeats 4000000
/-! Rows (rank, number, ..) sorted by rank * 100 + number are in the listeners' order; comprehensions of new tuples with a test. -/
namespace Hk
open PySem PySem.Spec PySem.W PyProof.Rows L2
def kI (H : Hp) : V → Int
  | .ref t => match H t with
    | some (.tup (.int r :: .int n :: _)) => r * 100 + n
    | _ => 0
  | _ => 0
def keyH (H : Hp) (v : V) : PyData := .int (kI H v)
theorem TupsAt.of_all {H : Hp} {α : Type} {f : α → List V} : ∀ {zs : List (Addr × α)}, (∀ z ∈ zs, H z.1 = some (.tup (f z.2))) → TupsAt H (zs.map (·.1)) (zs.map fun z => f z.2)
  | [], _ => trivial
  | z :: r, h => ⟨h z (List.mem_cons_self ..), TupsAt.of_all fun y hy => h y (List.mem_cons_of_mem _ hy)⟩
theorem TupsAt.all {H : Hp} {α : Type} {f : α → List V} {ts : List Addr} {as : List α} (h : TupsAt H ts (as.map f)) : ∀ z ∈ ts.zip as, H z.1 = some (.tup (f z.2)) := fun z hz => by
  obtain ⟨i, hi⟩ := List.mem_iff_getElem?.mp hz
  exact (h.zat hi).1
theorem order_all {ls : List Lis} (h : ∀ x ∈ ls, x.gone = false) : orderM ls = ls.mergeSort leL := by
  unfold orderM
  rw [List.filter_eq_self.mpr (fun x hx => by rw [h x hx]; rfl)]
theorem sort_rows {H : Hp} {ts : List Addr} {ls : List Lis} {f : Lis → List V} (hf : ∀ x, ∃ r, f x = .int x.r :: .int x.n :: r) (ht : TupsAt H ts (ls.map f)) (hn : ∀ x ∈ ls, 0 ≤ x.n ∧ x.n < 100 ∧ x.gone = false) :
    ∃ ts', (ts.map V.ref).mergeSort (dataLe false (keyH H)) = ts'.map V.ref ∧ TupsAt H ts' ((orderM ls).map f) := by
  have hl : ts.length = ls.length := by have := ht.len; rwa [List.length_map] at this
  have e1 : ts.map V.ref = (ts.zip ls).map fun z => V.ref z.1 := by
    conv => lhs; rw [← List.map_fst_zip (l₁ := ts) (l₂ := ls) (by omega)]
    rw [List.map_map]; rfl
  have e2 : ls = (ts.zip ls).map (·.2) := (List.map_snd_zip (by omega)).symm
  have ka : ∀ z ∈ ts.zip ls, kI H (V.ref z.1) = z.2.r * 100 + z.2.n := fun z hz => by
    obtain ⟨r, e⟩ := hf z.2
    have hz' := ht.all z hz
    rw [e] at hz'
    unfold kI
    dsimp only
    rw [hz']
  have hm : ∀ z ∈ ts.zip ls, z.2 ∈ ls := fun z hz => (List.of_mem_zip hz).2
  have s1 := sort_maps (r := fun z y : Addr × Lis => leL z.2 y.2) (s := dataLe false (keyH H)) (fun z : Addr × Lis => V.ref z.1) (l := ts.zip ls) fun x hx y hy => by
    have : dataLe false (keyH H) = fun a b => decide (kI H a ≤ kI H b) := dataLe_int (kI H)
    rw [this]
    unfold leL
    show decide _ = decide _
    rw [ka x hx, ka y hy]
    have h1 := hn _ (hm x hx)
    have h2 := hn _ (hm y hy)
    refine decide_eq_decide.mpr ?_
    omega
  have s2 := sort_maps (r := fun z y : Addr × Lis => leL z.2 y.2) (s := leL) (fun z : Addr × Lis => z.2) (l := ts.zip ls) fun x hx y hy => rfl
  refine ⟨((ts.zip ls).mergeSort fun z y => leL z.2 y.2).map (·.1), ?_, ?_⟩
  · rw [e1, ← s1, List.map_map]; rfl
  · rw [order_all fun x hx => (hn x hx).2.2]
    have e3 : ls.mergeSort leL = ((ts.zip ls).mergeSort fun z y => leL z.2 y.2).map (·.2) := by rw [s2, ← e2]
    rw [e3, List.map_map]
    exact TupsAt.of_all fun z hz => ht.all z ((List.mergeSort_perm _ _).mem_iff.mp hz)
theorem zip_filt {β : Type} (c : Lis → Bool) (f : Lis → β) : ∀ {us : List Addr} {as : List Lis}, us.length = as.length → (((us.zip as).filter fun z => c z.2).map fun z => f z.2) = (as.filter c).map f
  | [], [], _ => rfl
  | u :: us, a :: as, h => by
    have ih := zip_filt c f (us := us) (as := as) (by simpa using h)
    rw [List.zip_cons_cons, List.filter_cons, List.filter_cons]
    cases c a <;> simp [ih]
/-- a comprehension of new tuples, with a test -/
theorem lc_tupsF {α : Type} (xs : List α) (c : α → Bool) (f : α → List V) {J : It} {G : Hp → Prop} {Y : Nat → Hp → V → Hp → Prop} (w : Walk J xs.length G Y) {g : TG} {tt : TT} {te : TE} {vs : List Nat} {σ : L2.St} {H1 : Hp} {Q : VK}
    (hn : xs.length ≤ 100000) (hG : ∀ H, Same H1 H → G H)
    (hs : ∀ i a x H H' (R : Option V → Hp → Prop), xs[i]? = some a → Same H1 H → Y i H x H' → (c a = false → ∀ H2, Same H H2 → R none H2) → (c a = true → ∀ t H2, H2 t = none → Same H H2 → R (some (.ref t)) (upd H2 t (.tup (f a)))) → g x (wipe σ vs) H' fun σ2 H2 => wipe σ2 vs = wipe σ vs ∧ tt σ2 H2 fun b H3 => if b = true then te σ2 H3 (fun y H4 => R (some y) H4) else R none H3)
    (hd : ∀ D H ts, H1 D = none → Same H1 H → H D = some (.lst (ts.map V.ref)) → TupsAt H ts ((xs.filter c).map f) → Q (.ref D) H) : LcG J g tt te vs σ H1 Q := by
  refine lc_accH w No (fun i acc H => Same H1 H ∧ ∃ ts, acc = ts.map V.ref ∧ TupsAt H ts (((xs.take i).filter c).map f)) (Nat.lt_of_le_of_lt hn (by decide)) (fun _ _ z => z) ⟨Same.refl _, [], rfl, trivial⟩ (fun H D i acc nD e _ => hG H e.same)
    (fun D i x H H' acc R nD hD hi e hJ hy r0 r1 => ?_) (fun D acc H nD hl e hJ hD => ?_)
  · obtain ⟨s1, ts, rfl, ht⟩ := hJ
    have hx : xs[i]? = some xs[i] := List.getElem?_eq_getElem hi
    have tf : ((xs.take (i + 1)).filter c).map f = ((xs.take i).filter c).map f ++ (if c xs[i] = true then [f xs[i]] else []) := by
      rw [List.take_add_one, hx, List.filter_append, List.map_append]
      congr 1
      show (List.filter c [xs[i]]).map f = _
      rw [List.filter_cons]
      split <;> rfl
    refine hs i xs[i] x H H' R hx e.same hy (fun hc H2 s2 => ?_) (fun hc t H2 nt s2 => ?_)
    · refine r0 _ (.of_same s2) ⟨s1.trans (offA_mono s2), ts, rfl, ?_⟩
      rw [tf, hc]
      simp only [Bool.false_eq_true, if_false, List.append_nil]
      exact TupsAt.mono (fun t x h => offA_mono s2 _ _ h) ht
    · refine r1 _ _ (.of_same (same_new s2 nt)) ⟨s1.trans (offA_mono (same_new s2 nt)), ts ++ [t], by simp, ?_⟩
      rw [tf, hc, if_pos rfl]
      have ne : t ≠ D := fun z => by rw [z, s2 _ _ hD] at nt; cases nt
      exact TupsAt.snoc (by rw [offA_ne ne]; exact upd_same) (TupsAt.mono (fun t x h => offA_mono (same_new s2 nt) _ _ h) ht)
  · obtain ⟨s1, ts, rfl, ht⟩ := hJ
    rw [List.take_length] at ht
    exact hd D H ts nD e.same hD (TupsAt.mono (fun t x h => offA_same _ _ h) ht)
end Hk

set_option Elab.async false
set_option linter.all false
set_option maxRecDepth 100000
set_option maxHeartbeats 4000000
/-! Data of bounded depth and size. -/
namespace Hk
open PySem PySem.Spec PyProof.Rows L2
def DOk (k : Nat) (d : PyData) : Prop := d.depth ≤ k ∧ smallD d = true
theorem DOk.int {k : Nat} {i : Int} : DOk k (.int i) := ⟨by simp [PyData.depth], by simp [smallD]⟩
theorem DOk.str {k : Nat} {i : Str} : DOk k (.str i) := ⟨by simp [PyData.depth], by simp [smallD]⟩
theorem DOk.bool {k : Nat} {i : Bool} : DOk k (.bool i) := ⟨by simp [PyData.depth], by simp [smallD]⟩
theorem DOk.none {k : Nat} : DOk k .none := ⟨by simp [PyData.depth], by simp [smallD]⟩
theorem DOk.list {k : Nat} {ds : List PyData} (h : ∀ d ∈ ds, DOk k d) (hl : ds.length ≤ 100000) : DOk (k + 1) (.list ds) :=
  ⟨by have := depthAll_of fun d hd => (h d hd).1
      simp only [PyData.depth]; omega, smallL_of hl fun d hd => (h d hd).2⟩
theorem DOk.tuple {k : Nat} {ds : List PyData} (h : ∀ d ∈ ds, DOk k d) (hl : ds.length ≤ 100000) : DOk (k + 1) (.tuple ds) :=
  ⟨by have := depthAll_of fun d hd => (h d hd).1
      simp only [PyData.depth]; omega, smallT_of hl fun d hd => (h d hd).2⟩
theorem DOk.mono {j k : Nat} {d : PyData} (h : DOk j d) (l : j ≤ k) : DOk k d := ⟨Nat.le_trans h.1 l, h.2⟩
theorem dok_nil {k : Nat} : ∀ d ∈ ([] : List PyData), DOk k d := fun _ h => nomatch h
theorem dok_cons {k : Nat} {d : PyData} {ds : List PyData} (h : DOk k d) (t : ∀ d ∈ ds, DOk k d) : ∀ e ∈ d :: ds, DOk k e := fun e he => (List.mem_cons.mp he).elim (fun z => z ▸ h) (t e)
theorem dok_map {k : Nat} {α : Type} {f : α → PyData} {xs : List α} (h : ∀ x ∈ xs, DOk k (f x)) : ∀ e ∈ xs.map f, DOk k e := fun e he => by
  obtain ⟨x, hx, rfl⟩ := List.mem_map.mp he
  exact h x hx
/-- a list of tuples, told twice -/
theorem dp_rows {K : PySem.W.Frag} {H : Hp} {α : Type} {f : α → List V} {d : α → PyData} {p : Addr} {ts : List Addr} {as : List α} (h : H p = some (.lst (ts.map V.ref))) (t : TupsAt H ts (as.map f)) (hf : ∀ a ∈ as, DpAll K H (f a) (match d a with | .tuple ds => ds | _ => []) ∧ ∃ ds, d a = .tuple ds) : Dp K H (.ref p) (.list (as.map d)) := by
  refine .lst (.of h) ?_
  clear h
  induction as generalizing ts with
  | nil =>
    match ts, t with
    | [], _ => exact .nil
  | cons a r ih =>
    match ts, t with
    | t1 :: tr, t =>
      obtain ⟨h1, ds, h2⟩ := hf a (List.mem_cons_self ..)
      rw [h2] at h1
      refine .cons ?_ (ih t.2 fun b hb => hf b (List.mem_cons_of_mem _ hb))
      rw [h2]
      exact .tup (.of t.1) h1
/-! ### == and != of the same data -/
def DEq (k : Nat) (d : PyData) : Prop := d.canLay0 = true ∧ d.depth ≤ k ∧ PyData.eqv d d = true
theorem eqvAll_self : ∀ {ds : List PyData}, (∀ d ∈ ds, PyData.eqv d d = true) → PyData.eqvAll ds ds = true
  | [], _ => by simp only [PyData.eqvAll]
  | d :: r, h => by
    simp only [PyData.eqvAll]
    rw [h d (List.mem_cons_self ..), eqvAll_self fun e he => h e (List.mem_cons_of_mem _ he)]; rfl
theorem DEq.int {k : Nat} {i : Int} : DEq k (.int i) := ⟨by simp only [PyData.canLay0], by simp [PyData.depth], by simp [PyData.eqv]⟩
theorem DEq.str {k : Nat} {i : Str} (h : PyData.strOk i = true) : DEq k (.str i) := ⟨by simp only [PyData.canLay0]; exact h, by simp [PyData.depth], by simp [PyData.eqv]⟩
theorem DEq.bool {k : Nat} {i : Bool} : DEq k (.bool i) := ⟨by simp only [PyData.canLay0], by simp [PyData.depth], by simp [PyData.eqv]⟩
theorem DEq.none {k : Nat} : DEq k .none := ⟨by simp only [PyData.canLay0], by simp [PyData.depth], by simp [PyData.eqv]⟩
theorem DEq.list {k : Nat} {ds : List PyData} (h : ∀ d ∈ ds, DEq k d) : DEq (k + 1) (.list ds) := by
  refine ⟨?_, ?_, ?_⟩
  · simp only [PyData.canLay0]; exact canAll_of fun d hd => (h d hd).1
  · have := depthAll_of fun d hd => (h d hd).2.1
    simp only [PyData.depth]; omega
  · simp only [PyData.eqv]; exact eqvAll_self fun d hd => (h d hd).2.2
theorem DEq.tuple {k : Nat} {ds : List PyData} (h : ∀ d ∈ ds, DEq k d) : DEq (k + 1) (.tuple ds) := by
  refine ⟨?_, ?_, ?_⟩
  · simp only [PyData.canLay0]; exact canAll_of fun d hd => (h d hd).1
  · have := depthAll_of fun d hd => (h d hd).2.1
    simp only [PyData.depth]; omega
  · simp only [PyData.eqv]; exact eqvAll_self fun d hd => (h d hd).2.2
theorem deq_nil {k : Nat} : ∀ d ∈ ([] : List PyData), DEq k d := fun _ h => nomatch h
theorem deq_cons {k : Nat} {d : PyData} {ds : List PyData} (h : DEq k d) (t : ∀ d ∈ ds, DEq k d) : ∀ e ∈ d :: ds, DEq k e := fun e he => (List.mem_cons.mp he).elim (fun z => z ▸ h) (t e)
theorem deq_map {k : Nat} {α : Type} {f : α → PyData} {xs : List α} (h : ∀ x ∈ xs, DEq k (f x)) : ∀ e ∈ xs.map f, DEq k e := fun e he => by
  obtain ⟨x, hx, rfl⟩ := List.mem_map.mp he
  exact h x hx
theorem DEq.shaped {k : Nat} {d : PyData} (h : DEq k d) (hk : k ≤ 60) : SeqAt.shaped d = true := by
  unfold SeqAt.shaped
  exact Bool.and_eq_true_iff.mpr ⟨h.1, decide_eq_true (by have := h.2.1; omega)⟩
theorem rNe_same {K : PySem.W.Frag} {H : Hp} {x y : V} {d : PyData} {k : Nat} {Q : VK} (h1 : Dp K H x d) (h2 : Dp K H y d) (h : DEq k d) (hk : k ≤ 60) (q : Q (.bl false) H) : rNeD K x y H Q := ⟨d, d, h1, h2, h.shaped hk, h.shaped hk, by rw [h.2.2]; exact q⟩
theorem rEq_same {K : PySem.W.Frag} {H : Hp} {x y : V} {d : PyData} {k : Nat} {Q : VK} (h1 : Dp K H x d) (h2 : Dp K H y d) (h : DEq k d) (hk : k ≤ 60) (q : Q (.bl true) H) : rEqD K x y H Q := ⟨d, d, h1, h2, h.shaped hk, h.shaped hk, by rw [h.2.2]; exact q⟩
end Hk

set_option Elab.async false
set_option linter.all false
set_option maxRecDepth 100000
set_option maxHeartbeats 4000000
/-! The head's Hook over the names' reach and the table of the interpreter's statics (a class's attributes are read only where that table is known). -/
namespace Hk
open PySem PySem.Spec PyProof.Rows L2 He
def asS (g : Addr → Option Obj) (n : Nat) : List Addr := asD g n ++ [cStatics]
def obsS (n : Nat) (fa : List Fa) (fn : List DefD) (ts : List Tab) (tf : List Defn) (ex : PySem.W.Frag → Bool) (g : Addr → Option Obj) : AlX := (obsT fa fn ts (frT g (asS g n)), ex (frT g (asS g n)) && tabsB g tf (frT g (asS g n)))
theorem saysS_of {n : Nat} {fa : List Fa} {fn : List DefD} {ts : List Tab} {tf : List Defn} {ex : PySem.W.Frag → Bool} {w : World} {h : Heap} (e : obsS n fa fn ts tf ex h.get? = valX fn ts w) : SaysX fa fn ts tf ex w h (frT h.get? (asS h.get? n)) := by
  generalize hK : frT h.get? (asS h.get? n) = K
  have e1 : obsT fa fn ts K = valT fn ts w := by rw [← hK]; exact congrArg (fun z : AlX => z.1) e
  have e2 : (ex K && tabsB h.get? tf K) = true := by rw [← hK]; exact congrArg (fun z : AlX => z.2) e
  obtain ⟨h1, h2⟩ := ba e2
  refine ⟨e1, h1, fun p hp => (ba (List.all_eq_true.mp h2 p hp)).1, fun p hp => ?_, fun p hp => ?_⟩
  all_goals
    obtain ⟨h3, h4⟩ := ba (List.all_eq_true.mp h2 p hp)
    cases q : h.get? (cT K p).2 with
    | none => rw [q] at h4; cases h4
    | some o =>
      rw [q] at h4
      first
        | exact congrArg some (emptyTab_eq h4)
        | (rw [← hK] at q ⊢; exact frT_none q h4)
def hookS (n : Nat) (fa : List Fa) (fn : List DefD) (ts : List Tab) (tf : List Defn) (ex : PySem.W.Frag → Bool) : PySem.W.Hook where
  α := AlX
  obs := fun s => obsS n fa fn ts tf ex s.heap.get?
  val := fun w => valX fn ts w
  says := fun w h => ∃ K : PySem.W.Frag, K.In h ∧ SaysX fa fn ts tf ex w h K
  of := fun _ _ e => ⟨_, frT_in, saysS_of e⟩
  keeps := fun _ _ _ ⟨K, hK, c⟩ k => ⟨K, PySem.W.Frag.In.keeps hK k, ⟨c.t, c.more, c.hd, c.out, fun p hp => k _ _ (c.empty p hp)⟩⟩
theorem obsS_eq {n : Nat} {fa : List Fa} {fn : List DefD} {ts : List Tab} {tf : List Defn} {ex : PySem.W.Frag → Bool} {g : Addr → Option Obj} {s : Shared} (h : ∀ a, g a = s.heap.get? a) : obsS n fa fn ts tf ex g = (hookS n fa fn ts tf ex).obs s := by
  have e : g = s.heap.get? := funext h
  rw [e] <;> rfl
end Hk

set_option Elab.async false
set_option linter.all false
set_option maxRecDepth 100000
set_option maxHeartbeats 4000000
/-! x is True, of any x. -/
namespace Hk
open PySem PySem.Spec PyProof.Rows L2
def rIsV : R2 := fun x y H Q => ∃ b : Bool, y = .bl b ∧ Q (.bl (decide (x = .bl b))) H
theorem op_isV {X : Cx} : OpR X (compareOp .Is) rIsV := by
  intro pins s σ H x y v u Q I rx ry h
  obtain ⟨b, rfl, q⟩ := h
  cases (show u = Value.bool b from ry)
  by_cases e : x = .bl b
  · subst e
    cases (show v = Value.bool b from rx)
    exact wpAny_is_self rfl ⟨.bl true, H, I, rfl, by simpa using q⟩
  · have hne : v ≠ Value.bool b := fun z => by
      subst z
      cases x <;> first
        | (exact e rfl)
        | (cases rx; exact e rfl)
        | (obtain ⟨t, z⟩ := rx; cases z; done)
        | (cases rx; done)
    refine wpAny_is_other ?_ hne ⟨.bl false, H, I, rfl, by simpa [e] using q⟩
    cases x <;> first
      | (cases rx; rfl)
      | (obtain ⟨t, rfl⟩ := rx; rfl)
def rNotV : R2 := fun x y H Q => ∃ b : Bool, y = .bl b ∧ Q (.bl (!decide (x = .bl b))) H
theorem op_notV {X : Cx} : OpR X (compareOp .IsNot) rNotV := by
  intro pins s σ H x y v u Q I rx ry h
  obtain ⟨b, rfl, q⟩ := h
  cases (show u = Value.bool b from ry)
  by_cases e : x = .bl b
  · subst e
    cases (show v = Value.bool b from rx)
    exact wpAny_isNot_self rfl ⟨.bl false, H, I, rfl, by simpa using q⟩
  · have hne : v ≠ Value.bool b := fun z => by
      subst z
      cases x <;> first
        | (exact e rfl)
        | (cases rx; exact e rfl)
        | (obtain ⟨t, z⟩ := rx; cases z; done)
        | (cases rx; done)
    refine wpAny_isNot_other ?_ hne ⟨.bl true, H, I, rfl, by simpa [e] using q⟩
    cases x <;> first
      | (cases rx; rfl)
      | (obtain ⟨t, rfl⟩ := rx; rfl)
end Hk

set_option Elab.async false
set_option linter.all false
set_option maxRecDepth 100000
set_option maxHeartbeats 4000000
/-! Rows written and read, in plain Lean. -/
namespace Hk
open PySem PySem.Spec PyProof.Rows L2 TL
structure Row where
  p : Str
  n : Str
  r : Int
  o : Bool
  g : Str
deriving DecidableEq
def rowVs (r : Row) : List V := [.str r.p, .str r.n, .int r.r, .bl r.o, .str r.g]
def rowWords (r : Row) : List Str := [r.p, r.n, toString r.r] ++ ((if r.o then [("once" : Str)] else []) ++ (if r.g ≠ ("" : Str) then [("in" : Str), r.g] else []))
def rowText (r : Row) : Str := Txt.join " " (rowWords r)
def rowsText (rs : List Row) : Str := Txt.join "\n" (rs.map rowText)
structure Good (r : Row) : Prop where
  p : isPat r.p = true
  n : isWord r.n = true
  lo : -9 ≤ r.r
  hi : r.r ≤ 9
  g : r.g = ("" : Str) ∨ isWord r.g = true
  pl : r.p.length ≤ 100
  ps : ∀ c ∈ tl r.p, 33 ≤ c ∧ c ≤ 122
/-! ### ranks -/
def rankL : List Nat → Option Int
  | [c] => if 48 ≤ c ∧ c ≤ 57 then some ((c : Int) - 48) else none
  | [c, d] => if c = 45 ∧ 49 ≤ d ∧ d ≤ 57 then some (48 - (d : Int)) else none
  | _ => none
def rankOf (z : Str) : Option Int := rankL (tl z)
theorem starts_minus (z : Str) : Txt.startswith z ("-" : Str) = decide ((tl z).head? = some 45) := by
  unfold Txt.startswith Builtin.Str.subAt
  have e : (("-" : Str)).length = 1 := by decide +kernel
  have e2 : (("-" : Str)).cps = #[45] := by decide +kernel
  rw [e, e2, Bool.eq_iff_iff]
  simp only [Bool.and_eq_true, decide_eq_true_eq, beq_iff_eq]
  have el : z.length = (tl z).length := len_tl z
  constructor
  · rintro ⟨h1, h2⟩
    have h3 : (z.cps.extract 0 (0 + 1)).toList = [45] := by rw [h2]
    rw [Array.toList_extract] at h3
    cases h : tl z with
    | nil => rw [el, h] at h1; simp at h1
    | cons c r =>
      have : z.cps.toList = c :: r := h
      rw [this] at h3
      simp at h3
      simp [h3]
  · intro h
    cases hc : tl z with
    | nil => rw [hc] at h; simp at h
    | cons c r =>
      rw [hc] at h
      simp at h
      subst h
      refine ⟨by rw [el, hc]; simp, ?_⟩
      apply Array.toList_inj.mp
      rw [Array.toList_extract]
      have : z.cps.toList = 45 :: r := hc
      rw [this]
      simp
theorem take_all' {α : Type} (xs : List α) (k : Nat) : ((xs.drop (min k xs.length)).take (xs.length - min k xs.length)) = xs.drop k := by
  by_cases h : k ≤ xs.length
  · rw [Nat.min_eq_left h, List.take_of_length_le (by rw [List.length_drop]; exact Nat.le_refl _)]
  · rw [Nat.min_eq_right (by omega), List.drop_eq_nil_of_le (by omega : xs.length ≤ k), List.drop_length]; simp
theorem cutV_from (xs : List V) (k : Nat) : cutV xs (some (k : Int)) none = xs.drop k := by
  unfold cutV
  rw [HT.sIx_nat, HT.sIx_none]
  exact take_all' xs k
theorem cutV_to (xs : List V) (k : Nat) : cutV xs none (some (k : Int)) = xs.take k := by
  unfold cutV
  rw [HT.sIx_nat, HT.sIx_none, List.drop_zero, Nat.sub_zero]
  by_cases h : k ≤ xs.length
  · rw [Nat.min_eq_left h]
  · rw [Nat.min_eq_right (by omega), List.take_of_length_le (Nat.le_refl _), List.take_of_length_le (by omega)]
theorem tl_cutFrom (z : Str) (k : Nat) : tl (cutS z (some (k : Int)) none) = (tl z).drop k := by
  unfold cutS
  rw [HT.sIx_nat, HT.sIx_none, len_tl]
  show ((z.cps.toList.drop _).take _) = _
  exact take_all' (tl z) k
theorem tl_cut1 (z : Str) : tl (cutS z (some 1) none) = (tl z).drop 1 := tl_cutFrom z 1
def ranks : List Int := [-9, -8, -7, -6, -5, -4, -3, -2, -1, 0, 1, 2, 3, 4, 5, 6, 7, 8, 9]
theorem mem_ranks {r : Int} (h1 : -9 ≤ r) (h2 : r ≤ 9) : r ∈ ranks := by
  unfold ranks
  simp only [List.mem_cons, List.not_mem_nil, or_false]
  omega
theorem rank_all : ∀ r ∈ ranks, rankOf (toString r : String) = some r ∧ (tl (toString r : String)).all (fun c => c == 45 || (48 ≤ c && c ≤ 57)) = true ∧ Str.length (toString r : String) ≤ 2 := by decide +kernel
theorem rank_str {r : Int} (h1 : -9 ≤ r) (h2 : r ≤ 9) : rankOf (toString r : String) = some r := (rank_all r (mem_ranks h1 h2)).1
theorem int_text : ∀ c ∈ [48, 49, 50, 51, 52, 53, 54, 55, 56, 57], intText? ⟨#[c]⟩ = some ((c : Int) - 48) ∧ intText? ⟨#[45, c]⟩ = some (48 - (c : Int)) := by decide +kernel
/-! ### rows -/
def rowTail (ws : List Str) : Option Str := if ws = [] then some ("" : Str) else match ws with
  | [a, b] => if a = ("in" : Str) ∧ isWord b = true then some b else none
  | _ => none
def rowOf (ws : List Str) : Option Row := match ws with
  | a :: b :: c :: rest => if isPat a = true ∧ isWord b = true then (rankOf c).bind fun r =>
      let once := decide (rest.take 1 = [("once" : Str)])
      (rowTail (if once then rest.drop 1 else rest)).map fun g => ⟨a, b, r, once, g⟩ else none
  | _ => none
def lineRow (z : Str) : Option Row := rowOf (sps z)
theorem rowOf_few {ws : List Str} (h : ws.length < 3) : rowOf ws = none := by
  match ws, h with
  | [], _ => rfl
  | [_], _ => rfl
  | [_, _], _ => rfl
theorem rowOf_bad {x y c : Str} {rest : List Str} (h : ¬ (isPat x = true ∧ isWord y = true)) : rowOf (x :: y :: c :: rest) = none := by
  simp only [rowOf]
  rw [if_neg h]
theorem rowOf_norank {x y c : Str} {rest : List Str} (h : rankOf c = none) : rowOf (x :: y :: c :: rest) = none := by
  simp only [rowOf]
  rw [h]
  split
  · simp only [Option.bind_none]
  · simp only
theorem rowOf_rank {x y c : Str} {rest : List Str} {r : Int} (hp : isPat x = true) (hn : isWord y = true) (h : rankOf c = some r) :
    rowOf (x :: y :: c :: rest) = (rowTail (if decide (rest.take 1 = [("once" : Str)]) then rest.drop 1 else rest)).map fun g => (⟨x, y, r, decide (rest.take 1 = [("once" : Str)]), g⟩ : Row) := by
  simp only [rowOf]
  rw [if_pos ⟨hp, hn⟩, h]
  simp only [Option.bind_some]
theorem rowTail_cases {us : List Str} {g : Str} (hg : rowTail us = some g) : (us = [] ∧ g = ("" : Str)) ∨ us = [("in" : Str), g] ∧ isWord g = true := by
  unfold rowTail at hg
  split at hg
  · rename_i e; subst e; cases hg; exact .inl ⟨rfl, rfl⟩
  · split at hg
    · split at hg
      · rename_i z; cases hg; obtain ⟨rfl, z2⟩ := z; exact .inr ⟨rfl, z2⟩
      · cases hg
    · cases hg
theorem rowTail_nil : rowTail [] = some ("" : Str) := by unfold rowTail; rw [if_pos rfl]
theorem rowTail_len {us : List Str} (h : us ≠ []) (h2 : us.length ≠ 2) : rowTail us = none := by
  unfold rowTail
  rw [if_neg h]
  match us, h2 with
  | [_], _ => rfl
  | _ :: _ :: _ :: _, _ => rfl
theorem rowTail_two {a b : Str} : rowTail [a, b] = if a = ("in" : Str) ∧ isWord b = true then some b else none := by
  unfold rowTail
  rw [if_neg (by simp)]
theorem join_tail {us : List Str} {g : Str} (hg : rowTail us = some g) : Txt.join (Str.ofString "") (us.drop 1) = g := by
  rcases rowTail_cases hg with ⟨e, e'⟩ | ⟨e, _⟩
  · subst e; subst e'; decide +kernel
  · subst e
    refine ext_tl ?_
    rw [join_eq, tl_join, show tl (Str.ofString "") = [] by decide +kernel, joinL_nil]
    simp
/-- the lines of a text -/
def linesOf (z : Str) : List Str := if z = ("" : Str) then [] else nls z
/-! ### the text of a row -/
theorem tl_append (a b : Str) : tl (a ++ b) = tl a ++ tl b := by
  show (a.cps ++ b.cps).toList = _
  simp
theorem tl_rowText (r : Row) : tl (rowText r) = tl r.p ++ 32 :: tl r.n ++ 32 :: tl (toString r.r : String) ++ (if r.o = true then tl (" once" : Str) else []) ++ (if r.g ≠ ("" : Str) then tl (" in " : Str) ++ tl r.g else []) := by
  have e1 : tl (" " : Str) = [32] := by decide +kernel
  have e2 : tl (" once" : Str) = 32 :: tl ("once" : Str) := by decide +kernel
  have e3 : tl (" in " : Str) = 32 :: (tl ("in" : Str) ++ [32]) := by decide +kernel
  unfold rowText rowWords
  rw [join_eq, tl_join, e1, e2, e3]
  cases r.o <;> by_cases h : r.g = ("" : Str) <;> simp [h, joinL]
theorem rowText_eq (r : Row) : (r.p ++ Str.ofString " " ++ r.n ++ Str.ofString " " ++ Str.ofString (toString r.r) ++ if (if r.o = true then (1 : Int) else 0) = 1 then Str.ofString " once" else Str.empty) ++ (if (if (!decide (r.g = Str.ofString "")) = true then (1 : Int) else 0) = 1 then Str.ofString " in " ++ r.g else Str.empty) = rowText r := by
  refine ext_tl ?_
  rw [tl_rowText]
  have e1 : tl (" " : Str) = [32] := by decide +kernel
  have e0 : tl Str.empty = [] := rfl
  simp only [tl_append, e1]
  cases r.o <;> by_cases h : r.g = ("" : Str) <;> simp [h, e0, tl_append]
theorem word_len {z : Str} (h : isWord z = true) : z.length ≤ 4 := (word_signs h).2.1
theorem Good.gl {r : Row} (h : Good r) : r.g.length ≤ 4 := by
  rcases h.g with e | e
  · rw [e]; decide +kernel
  · exact word_len e
theorem Good.rl {r : Row} (h : Good r) : Str.length (toString r.r : String) ≤ 2 := (rank_all r.r (mem_ranks h.lo h.hi)).2.2
theorem Good.log {r : Row} (h : Good r) : r.r.natAbs.log2 < 1920 := by
  have h1 := h.lo
  have h2 := h.hi
  have : r.r.natAbs < 2 ^ 1920 := Nat.lt_of_le_of_lt (by omega : r.r.natAbs ≤ 9) (by decide)
  rcases Nat.eq_zero_or_pos r.r.natAbs with e | e
  · rw [e]; decide
  · exact (Nat.log2_lt (by omega)).mpr this
theorem rowWords_len {r : Row} (h : Good r) : ∀ w ∈ rowWords r, w.length ≤ 100 := by
  intro w hw
  unfold rowWords at hw
  have h1 := word_len h.n
  have h2 := h.gl
  have h3 := h.rl
  have h4 := h.pl
  have e1 : Str.length ("once" : Str) = 4 := by decide +kernel
  have e2 : Str.length ("in" : Str) = 2 := by decide +kernel
  simp only [List.cons_append, List.nil_append, List.mem_cons, List.mem_append] at hw
  rcases hw with e | e | e | e | e
  · rw [e]; exact h4
  · rw [e]; omega
  · rw [e]; exact Nat.le_trans h3 (by decide)
  · split at e
    · rw [List.mem_singleton.mp e, e1]; decide
    · cases e
  · split at e
    · rcases List.mem_cons.mp e with e | e
      · rw [e, e2]; decide
      · rw [List.mem_singleton.mp e]; omega
    · cases e
theorem rowWords_le (r : Row) : (rowWords r).length ≤ 6 := by
  unfold rowWords
  cases r.o <;> by_cases h : r.g = ("" : Str) <;> simp [h]
theorem rowText_len {r : Row} (h : Good r) : (rowText r).length ≤ 700 := by
  have h1 := join_len " " (rowWords r)
  have h2 := sum_le (rowWords_len h)
  have e : (" " : Str).length = 1 := by decide +kernel
  rw [e] at h1
  have h3 := rowWords_le r
  unfold rowText
  omega
/-! ### what is written is read -/
theorem mem_joinL {S : List Nat} {c : Nat} : ∀ ps : List (List Nat), c ∈ joinL S ps → c ∈ S ∨ ∃ p ∈ ps, c ∈ p
  | [], h => by simp [joinL] at h
  | [p], h => .inr ⟨p, List.mem_singleton.mpr rfl, by simpa [joinL] using h⟩
  | p :: q :: r, h => by
    have h : c ∈ p ++ (S ++ joinL S (q :: r)) := h
    rcases List.mem_append.mp h with h | h
    · exact .inr ⟨p, List.mem_cons_self .., h⟩
    · rcases List.mem_append.mp h with h | h
      · exact .inl h
      · rcases mem_joinL (q :: r) h with h | ⟨x, hx, hc⟩
        · exact .inl h
        · exact .inr ⟨x, List.mem_cons_of_mem _ hx, hc⟩
theorem mem_join {s : Str} {ws : List Str} {c : Nat} (h : c ∈ tl (Txt.join s ws)) : c ∈ tl s ∨ ∃ w ∈ ws, c ∈ tl w := by
  rw [join_eq, tl_join] at h
  rcases mem_joinL _ h with h | ⟨p, hp, hc⟩
  · exact .inl h
  · obtain ⟨w, hw, rfl⟩ := List.mem_map.mp hp
    exact .inr ⟨w, hw, hc⟩
theorem pat_signs {us : List Str} (h : ∀ u ∈ us, starOr u = true ∨ u = ("#" : Str)) : ∀ c ∈ tl (Txt.join "." us), 33 ≤ c ∧ c ≤ 122 := fun c hc => by
  rcases mem_join hc with hc | ⟨w, hw, hc⟩
  · have : tl (".": Str) = [46] := by decide +kernel
    rw [this] at hc
    have := List.mem_singleton.mp hc
    omega
  · rcases h w hw with h | h
    · rcases (star_signs h).2.1 c hc with e | e <;> omega
    · rw [h, show tl ("#" : Str) = [35] by decide +kernel] at hc
      have := List.mem_singleton.mp hc
      omega
theorem rowWords_signs {r : Row} (h : Good r) : ∀ w ∈ rowWords r, ∀ c ∈ tl w, 33 ≤ c ∧ c ≤ 122 := by
  intro w hw c hc
  unfold rowWords at hw
  simp only [List.cons_append, List.nil_append, List.mem_cons, List.mem_append] at hw
  rcases hw with e | e | e | e | e
  · rw [e] at hc; exact h.ps c hc
  · rw [e] at hc
    have := (word_signs h.n).2.2 c hc
    omega
  · rw [e] at hc
    have := List.all_eq_true.mp (rank_all r.r (mem_ranks h.lo h.hi)).2.1 c hc
    simp only [Bool.or_eq_true, beq_iff_eq, Bool.and_eq_true, decide_eq_true_eq] at this
    omega
  · split at e
    · rw [List.mem_singleton.mp e, show tl ("once" : Str) = [111, 110, 99, 101] by decide +kernel] at hc
      simp at hc; omega
    · cases e
  · split at e
    · rename_i hg
      rcases List.mem_cons.mp e with e | e
      · rw [e, show tl ("in" : Str) = [105, 110] by decide +kernel] at hc
        simp at hc; omega
      · rw [List.mem_singleton.mp e] at hc
        rcases h.g with e | e
        · exact absurd e hg
        · have := (word_signs e).2.2 c hc
          omega
    · cases e
theorem sps_rowText {r : Row} (h : Good r) : sps (rowText r) = rowWords r :=
  split_join (y := " ") (s := 32) (S := []) (by decide +kernel) (by decide +kernel) (by unfold rowWords; simp) fun p hp hc => by
    have := rowWords_signs h p hp 32 hc
    omega
theorem rowOf_words {r : Row} (h : Good r) : rowOf (rowWords r) = some r := by
  unfold rowWords
  rw [List.cons_append, List.cons_append, List.cons_append, List.nil_append]
  rw [rowOf_rank h.p h.n (rank_str h.lo h.hi)]
  obtain ⟨p, n, rk, o, g⟩ := r
  have hgw := h.g
  simp only at hgw ⊢
  have n1 : ("in" : Str) ≠ ("once" : Str) := by decide +kernel
  have fin : ∀ b : Bool, (rowTail (if g ≠ ("" : Str) then [("in" : Str), g] else [])).map (fun g => (⟨p, n, rk, b, g⟩ : Row)) = some ⟨p, n, rk, b, g⟩ := fun b => by
    by_cases hg : g = ("" : Str)
    · rw [if_neg (fun z => z hg), rowTail_nil, hg]; simp only [Option.map_some]
    · rw [if_pos hg, rowTail_two, if_pos ⟨rfl, hgw.elim (fun e => absurd e hg) id⟩]; simp only [Option.map_some]
  cases o with
  | true =>
    have e : List.take 1 ((if true = true then [("once" : Str)] else []) ++ if g ≠ ("" : Str) then [("in" : Str), g] else []) = [("once" : Str)] := by rw [if_pos rfl]; rfl
    rw [decide_eq_true e, if_pos rfl]
    exact fin true
  | false =>
    have e : ¬ List.take 1 ((if false = true then [("once" : Str)] else []) ++ if g ≠ ("" : Str) then [("in" : Str), g] else []) = [("once" : Str)] := by
      rw [if_neg (by decide), List.nil_append]
      by_cases hg : g = ("" : Str)
      · rw [if_neg (fun z => z hg)]; simp
      · rw [if_pos hg]
        intro z
        exact n1 (List.cons.inj (show [("in" : Str)] = [("once" : Str)] from z)).1
    rw [decide_eq_false e, if_neg (by decide)]
    exact fin false
theorem rowText_signs {r : Row} (h : Good r) : ∀ c ∈ tl (rowText r), 32 ≤ c ∧ c ≤ 122 := fun c hc => by
  rcases mem_join hc with hc | ⟨w, hw, hc⟩
  · have : tl (" ": Str) = [32] := by decide +kernel
    rw [this] at hc
    have := List.mem_singleton.mp hc
    omega
  · have := rowWords_signs h w hw c hc
    omega
theorem rowsText_signs {rs : List Row} (h : ∀ r ∈ rs, Good r) : ∀ c ∈ tl (rowsText rs), c = 10 ∨ (32 ≤ c ∧ c ≤ 122) := fun c hc => by
  rcases mem_join hc with hc | ⟨w, hw, hc⟩
  · have : tl ("\n": Str) = [10] := by decide +kernel
    rw [this] at hc
    exact .inl (List.mem_singleton.mp hc)
  · obtain ⟨r, hr, rfl⟩ := List.mem_map.mp hw
    exact .inr (rowText_signs (h r hr) c hc)
theorem nls_rowsText {rs : List Row} (hne : rs ≠ []) (h : ∀ r ∈ rs, Good r) : nls (rowsText rs) = rs.map rowText :=
  split_join (y := "\n") (s := 10) (S := []) (by decide +kernel) (by decide +kernel) (by simpa using hne) fun p hp hc => by
    obtain ⟨r, hr, rfl⟩ := List.mem_map.mp hp
    have := rowText_signs (h r hr) 10 hc
    omega
theorem rowsText_nil : rowsText [] = ("" : Str) := by decide +kernel
theorem rowsText_ne {rs : List Row} (hne : rs ≠ []) (h : ∀ r ∈ rs, Good r) : rowsText rs ≠ ("" : Str) := fun e => by
  have h1 := nls_rowsText hne h
  rw [e, show nls ("" : Str) = [("" : Str)] by decide +kernel] at h1
  cases rs with
  | nil => exact hne rfl
  | cons r q =>
    rw [List.map_cons] at h1
    have h2 := congrArg tl (List.cons.inj h1).1
    rw [tl_rowText, show tl ("" : Str) = [] by decide +kernel] at h2
    simp at h2
theorem lines_rows {rs : List Row} (h : ∀ r ∈ rs, Good r) : (linesOf (rowsText rs)).map lineRow = rs.map some := by
  by_cases hne : rs = []
  · subst hne
    unfold linesOf
    rw [if_pos rowsText_nil]; rfl
  · unfold linesOf
    rw [if_neg (rowsText_ne hne h), nls_rowsText hne h, List.map_map]
    refine List.map_congr_left fun r hr => ?_
    show rowOf (sps (rowText r)) = some r
    rw [sps_rowText (h r hr), rowOf_words (h r hr)]
theorem rowsText_len {rs : List Row} (h : ∀ r ∈ rs, Good r) : (rowsText rs).length ≤ rs.length * 701 := by
  have h1 := join_len "\n" (rs.map rowText)
  have h2 := sum_le (k := 700) (ws := rs.map rowText) fun w hw => by
    obtain ⟨r, hr, rfl⟩ := List.mem_map.mp hw
    exact rowText_len (h r hr)
  have e : ("\n" : Str).length = 1 := by decide +kernel
  rw [e, List.length_map] at h1
  rw [List.length_map] at h2
  unfold rowsText
  omega
theorem rowsText_ok {rs : List Row} (h : ∀ r ∈ rs, Good r) : PyData.strOk (rowsText rs) = true := strOk_iff.mpr fun c hc => by
  rcases rowsText_signs h c hc with e | e <;> omega
end Hk

set_option Elab.async false
set_option linter.all false
namespace Hk
open PySem PySem.Spec PyProof.Rows L2
theorem eqv_strs : ∀ xs ys : List Str, PyData.eqvAll (xs.map PyData.str) (ys.map PyData.str) = decide (xs = ys)
  | [], [] => by simp [PyData.eqvAll]
  | [], _ :: _ => by simp [PyData.eqvAll]
  | _ :: _, [] => by simp [PyData.eqvAll]
  | x :: r, y :: q => by
    simp only [List.map_cons, PyData.eqvAll, PyData.eqv, eqv_strs r q]
    rw [Bool.eq_iff_iff]
    simp
end Hk

set_option Elab.async false
set_option linter.all false
set_option maxRecDepth 100000
set_option maxHeartbeats 4000000
/-! Iterators that end while an exception is handled. -/
namespace HotX
open PySem PySem.Spec PyProof.Rows
section
variable {prog : Program} {w : World} {A : Around} {E : Value → Shared → Prop} {s : Shared}
theorem HotAt.ne {x1 it : Addr} {h : Heap} {o : Obj} {vs : Array Value} (hot : HotAt A x1 h) (ho : h.get? it = some o) (hd : o.data = .fields vs) (hv : vs[2]? = none) : x1 ≠ it := fun e => by
  obtain ⟨_, o1, vs1, h1, d1, c1⟩ := hot
  rw [e, ho] at h1
  cases h1
  rw [hd] at d1
  cases d1
  rw [hv] at c1; cases c1
theorem list_end_hot {x1 it l : Addr} {i : Nat} {items} {Q : Option Value → Shared → Prop} (hot : HotAt A x1 s.heap)
    (hit : s.heap.IsListIter it l i) (hl : s.heap.IsList l items) (hx : items[i]? = none)
    (hQ : ∀ h', Heap.ExtBut it s.heap h' → Q none { s with heap := h' }) : wpAny (model prog w) A (pyNext (.ref it)) Q E s := by
  obtain ⟨o, ho, hc, hd⟩ := id hit
  obtain ⟨ol, hol, _, nl, hdl⟩ := hl
  unfold pyNext
  refine wpAny_bind (wpAny_attempt (wpAny_callSpecial?_slot (name := Str.ofString "__next__") hit.typeIs slot_listiter_next
    (wpAny_call_entry slot_listiter_next hit.typeIs entry_listiter_next ?_ (args_listiter_next _))))
  show wpAny _ _ (field (.ref it) 0 >>= _) _ _ s
  refine wpAny_bind (wpAny_field ho hd (x := .ref l) rfl ?_)
  show wpAny _ _ (if (Value.ref l == Value.none) = true then _ else _) _ _ s
  rw [if_neg (show ¬ ((Value.ref l == Value.none) = true) from Bool.false_ne_true)]
  show wpAny _ _ (field (.ref it) 1 >>= _) _ _ s
  refine wpAny_bind (wpAny_field ho hd (x := .int i 0) rfl ?_)
  show wpAny _ _ (seqItems? (.ref l) >>= _) _ _ s
  refine wpAny_bind (wpAny_seqItems hol hdl ?_)
  simp only [Int.toNat_natCast, hx]
  refine wpAny_bind (wpAny_rule (wpAny_bind (wpAny_setField ho hd (by simp) ?_)))
  show wpAny _ _ (newExc (.type "StopIteration") [] >>= _) _ _ _
  refine wpAny_bind ?_
  simp only [newExc, newTuple]
  refine wpAny_bind (wpAny_newObj_type ?_ (by size_fits))
  refine wpAny_bind (m := firstArgMember _ _) (wpAny_of_eq (a := Value.none) (by first | rfl | (simp only [firstArgMember]; rfl)) ?_)
  refine wpAny_newObj_type ?_ (by size_fits)
  have nx := hot.ne ho hd (by rfl)
  obtain ⟨hh, o1, vs1, g1, d1, c1⟩ := hot
  refine raiseNew_hot ⟨hh, o1, vs1, Heap.get?_push_of_some _ (Heap.get?_push_of_some _ (by rw [Heap.get?_update_other _ _ nx.symm]; exact g1)), d1, c1⟩ (Nat.ne_of_lt (Heap.lt_size (Heap.get?_push_of_some _ (by rw [Heap.get?_update_other _ _ nx.symm]; exact g1)))) (Heap.get?_push_size _ rfl) rfl (by first | (simp; done) | (simp; omega) | (simp only [Array.size_append]; simp; omega)) ?_
  refine wpAny_bind (wpAny_isInstance (T := "StopIteration") (b := true) ⟨_, Heap.get?_update_self _ (Heap.get?_push_size _ rfl) rfl, rfl⟩ isSubtype_stop ?_)
  refine wpAny_pure (hQ _ fun b o nb e => ?_)
  rw [Heap.get?_update_other _ _ (Nat.ne_of_gt (Heap.lt_size (Heap.get?_push_of_some _ (by rw [Heap.get?_update_other _ _ nb.symm]; exact e))))]
  exact (((Heap.SameBut.update ..).extBut.push _).push _) b o nb e
theorem tuple_end_hot {x1 it t : Addr} {i : Nat} {items} {Q : Option Value → Shared → Prop} (hot : HotAt A x1 s.heap)
    (hit : s.heap.IsTupleIter it t i) (hl : s.heap.IsTuple t items) (hx : items[i]? = none)
    (hQ : ∀ h', Heap.ExtBut it s.heap h' → Q none { s with heap := h' }) : wpAny (model prog w) A (pyNext (.ref it)) Q E s := by
  obtain ⟨o, ho, hc, hd⟩ := id hit
  obtain ⟨ol, hol, _, nl, hdl⟩ := hl
  unfold pyNext
  refine wpAny_bind (wpAny_attempt (wpAny_callSpecial?_slot (name := Str.ofString "__next__") hit.typeIs F.slot_tuple_iterator_next
    (wpAny_call_entry F.slot_tuple_iterator_next hit.typeIs F.entry_tuple_iterator_next ?_ (F.args_tuple_iterator_next_1 _))))
  show wpAny _ _ (field (.ref it) 0 >>= _) _ _ s
  refine wpAny_bind (wpAny_field ho hd (x := .ref t) rfl ?_)
  show wpAny _ _ (if (Value.ref t == Value.none) = true then _ else _) _ _ s
  rw [if_neg (show ¬ ((Value.ref t == Value.none) = true) from Bool.false_ne_true)]
  show wpAny _ _ (field (.ref it) 1 >>= _) _ _ s
  refine wpAny_bind (wpAny_field ho hd (x := .int i 0) rfl ?_)
  show wpAny _ _ (seqItems? (.ref t) >>= _) _ _ s
  refine wpAny_bind (wpAny_seqItems hol hdl ?_)
  simp only [Int.toNat_natCast, hx]
  refine wpAny_bind (wpAny_rule (wpAny_bind (wpAny_setField ho hd (by simp) ?_)))
  show wpAny _ _ (newExc (.type "StopIteration") [] >>= _) _ _ _
  refine wpAny_bind ?_
  simp only [newExc, newTuple]
  refine wpAny_bind (wpAny_newObj_type ?_ (by size_fits))
  refine wpAny_bind (m := firstArgMember _ _) (wpAny_of_eq (a := Value.none) (by first | rfl | (simp only [firstArgMember]; rfl)) ?_)
  refine wpAny_newObj_type ?_ (by size_fits)
  have nx := hot.ne ho hd (by rfl)
  obtain ⟨hh, o1, vs1, g1, d1, c1⟩ := hot
  refine raiseNew_hot ⟨hh, o1, vs1, Heap.get?_push_of_some _ (Heap.get?_push_of_some _ (by rw [Heap.get?_update_other _ _ nx.symm]; exact g1)), d1, c1⟩ (Nat.ne_of_lt (Heap.lt_size (Heap.get?_push_of_some _ (by rw [Heap.get?_update_other _ _ nx.symm]; exact g1)))) (Heap.get?_push_size _ rfl) rfl (by first | (simp; done) | (simp; omega) | (simp only [Array.size_append]; simp; omega)) ?_
  refine wpAny_bind (wpAny_isInstance (T := "StopIteration") (b := true) ⟨_, Heap.get?_update_self _ (Heap.get?_push_size _ rfl) rfl, rfl⟩ isSubtype_stop ?_)
  refine wpAny_pure (hQ _ fun b o nb e => ?_)
  rw [Heap.get?_update_other _ _ (Nat.ne_of_gt (Heap.lt_size (Heap.get?_push_of_some _ (by rw [Heap.get?_update_other _ _ nb.symm]; exact e))))]
  exact (((Heap.SameBut.update ..).extBut.push _).push _) b o nb e
theorem ascii_end_hot {x1 it : Addr} {x : Str} {t : Tok} {i : Nat} {Q : Option Value → Shared → Prop} (hot : HotAt A x1 s.heap)
    (hit : s.heap.IsStrIter it "str_ascii_iterator" x t i) (hx : x.cps[i]? = none)
    (hQ : ∀ h', Heap.ExtBut it s.heap h' → Q none { s with heap := h' }) : wpAny (model prog w) A (pyNext (.ref it)) Q E s := by
  obtain ⟨o, ho, hc, hd⟩ := id hit
  unfold pyNext
  refine wpAny_bind (wpAny_attempt (wpAny_callSpecial?_slot (name := Str.ofString "__next__") hit.typeIs F.slot_str_ascii_iterator_next
    (wpAny_call_entry F.slot_str_ascii_iterator_next hit.typeIs F.entry_str_ascii_iterator_next ?_ (F.args_str_ascii_iterator_next_1 _))))
  show wpAny _ _ (field (.ref it) 0 >>= _) _ _ s
  refine wpAny_bind (wpAny_field ho hd (x := .str x t) rfl ?_)
  show wpAny _ _ (field (.ref it) 1 >>= _) _ _ s
  refine wpAny_bind (wpAny_field ho hd (x := .int i 0) rfl ?_)
  simp only [Int.toNat_natCast, hx]
  refine wpAny_bind (wpAny_rule (wpAny_bind (wpAny_setField ho hd (by simp) (wpAny_bind (wpAny_letGo ?_)))))
  show wpAny _ _ (newExc (.type "StopIteration") [] >>= _) _ _ _
  refine wpAny_bind ?_
  simp only [newExc, newTuple]
  refine wpAny_bind (wpAny_newObj_type ?_ (by size_fits))
  refine wpAny_bind (m := firstArgMember _ _) (wpAny_of_eq (a := Value.none) (by first | rfl | (simp only [firstArgMember]; rfl)) ?_)
  refine wpAny_newObj_type ?_ (by size_fits)
  have nx := hot.ne ho hd (by rfl)
  obtain ⟨hh, o1, vs1, g1, d1, c1⟩ := hot
  refine raiseNew_hot ⟨hh, o1, vs1, Heap.get?_push_of_some _ (Heap.get?_push_of_some _ (by rw [Heap.get?_update_other _ _ nx.symm]; exact g1)), d1, c1⟩ (Nat.ne_of_lt (Heap.lt_size (Heap.get?_push_of_some _ (by rw [Heap.get?_update_other _ _ nx.symm]; exact g1)))) (Heap.get?_push_size _ rfl) rfl (by first | (simp; done) | (simp; omega) | (simp only [Array.size_append]; simp; omega)) ?_
  refine wpAny_bind (wpAny_isInstance (T := "StopIteration") (b := true) ⟨_, Heap.get?_update_self _ (Heap.get?_push_size _ rfl) rfl, rfl⟩ isSubtype_stop ?_)
  refine wpAny_pure (hQ _ fun b o nb e => ?_)
  rw [Heap.get?_update_other _ _ (Nat.ne_of_gt (Heap.lt_size (Heap.get?_push_of_some _ (by rw [Heap.get?_update_other _ _ nb.symm]; exact e))))]
  exact (((Heap.SameBut.update ..).extBut.push _).push _) b o nb e
theorem wide_end_hot {x1 it : Addr} {x : Str} {t : Tok} {i : Nat} {Q : Option Value → Shared → Prop} (hot : HotAt A x1 s.heap)
    (hit : s.heap.IsStrIter it "str_iterator" x t i) (hx : x.cps[i]? = none)
    (hQ : ∀ h', Heap.ExtBut it s.heap h' → Q none { s with heap := h' }) : wpAny (model prog w) A (pyNext (.ref it)) Q E s := by
  obtain ⟨o, ho, hc, hd⟩ := id hit
  unfold pyNext
  refine wpAny_bind (wpAny_attempt (wpAny_callSpecial?_slot (name := Str.ofString "__next__") hit.typeIs F.slot_str_iterator_next
    (wpAny_call_entry F.slot_str_iterator_next hit.typeIs F.entry_str_iterator_next ?_ (F.args_str_iterator_next_1 _))))
  show wpAny _ _ (field (.ref it) 0 >>= _) _ _ s
  refine wpAny_bind (wpAny_field ho hd (x := .str x t) rfl ?_)
  show wpAny _ _ (field (.ref it) 1 >>= _) _ _ s
  refine wpAny_bind (wpAny_field ho hd (x := .int i 0) rfl ?_)
  simp only [Int.toNat_natCast, hx]
  refine wpAny_bind (wpAny_rule (wpAny_bind (wpAny_setField ho hd (by simp) (wpAny_bind (wpAny_letGo ?_)))))
  show wpAny _ _ (newExc (.type "StopIteration") [] >>= _) _ _ _
  refine wpAny_bind ?_
  simp only [newExc, newTuple]
  refine wpAny_bind (wpAny_newObj_type ?_ (by size_fits))
  refine wpAny_bind (m := firstArgMember _ _) (wpAny_of_eq (a := Value.none) (by first | rfl | (simp only [firstArgMember]; rfl)) ?_)
  refine wpAny_newObj_type ?_ (by size_fits)
  have nx := hot.ne ho hd (by rfl)
  obtain ⟨hh, o1, vs1, g1, d1, c1⟩ := hot
  refine raiseNew_hot ⟨hh, o1, vs1, Heap.get?_push_of_some _ (Heap.get?_push_of_some _ (by rw [Heap.get?_update_other _ _ nx.symm]; exact g1)), d1, c1⟩ (Nat.ne_of_lt (Heap.lt_size (Heap.get?_push_of_some _ (by rw [Heap.get?_update_other _ _ nx.symm]; exact g1)))) (Heap.get?_push_size _ rfl) rfl (by first | (simp; done) | (simp; omega) | (simp only [Array.size_append]; simp; omega)) ?_
  refine wpAny_bind (wpAny_isInstance (T := "StopIteration") (b := true) ⟨_, Heap.get?_update_self _ (Heap.get?_push_size _ rfl) rfl, rfl⟩ isSubtype_stop ?_)
  refine wpAny_pure (hQ _ fun b o nb e => ?_)
  rw [Heap.get?_update_other _ _ (Nat.ne_of_gt (Heap.lt_size (Heap.get?_push_of_some _ (by rw [Heap.get?_update_other _ _ nb.symm]; exact e))))]
  exact (((Heap.SameBut.update ..).extBut.push _).push _) b o nb e
end
end HotX

set_option Elab.async false
set_option linter.all false
set_option maxRecDepth 100000
set_option maxHeartbeats 4000000
/-! Walks while an exception is handled. -/
namespace HotX
open PySem PySem.Spec PyProof.Rows
section
variable {prog : Program} {w : World} {A : Around} {E : Value → Shared → Prop} {s : Shared}
theorem hotAt_of {x1 : Addr} {o1 : Obj} {vs1 : Array Value} {h : Heap} (hh : A.handled = some (.ref x1)) (d1 : o1.data = .fields vs1) (c1 : vs1[2]? = some .none) (g : h.get? x1 = some o1) : HotAt A x1 h := ⟨hh, o1, vs1, g, d1, c1⟩
theorem walks_listH {x1 : Addr} {o1 : Obj} {vs1 : Array Value} (hh : A.handled = some (.ref x1)) (d1 : o1.data = .fields vs1) (c1 : vs1[2]? = some .none) (I ax : Addr) (hne : ax ≠ I) (hx : x1 ≠ I) (items : Array Value) :
    Walks prog w A I [I, ax, x1] [I] items.size (fun i v => items[i]? = some v) (fun i h => (h.IsListIter I ax i ∧ h.IsList ax items) ∧ h.get? x1 = some o1) where
  sub := fun b hb => by simp at hb; simp [hb]
  frame := fun _ _ _ st hk => ⟨⟨st.1.1.at fun o e => hk I (by simp) o e, st.1.2.at fun o e => hk ax (by simp) o e⟩, hk x1 (by simp) _ st.2⟩
  item := fun i s Q E hi st hQ => by
    refine wpAny_pyNext_list_item st.1.1 st.1.2 (x := items[i]) (by simp [hi]) fun h' hit' hs' => ?_
    exact hQ _ h' s.toks (by simp [hi]) ⟨⟨hit', st.1.2.extBut hs'.extBut hne⟩, hs'.extBut _ _ hx st.2⟩ fun b o hb e => hs'.extBut b o (fun h => hb (by simp [h])) e
  done := fun s Q E st hQ => list_end_hot (hotAt_of hh d1 c1 st.2) st.1.1 st.1.2 (by simp) fun h' he' => hQ h' s.toks fun b o hb e => he' b o (fun h => hb (by simp [h])) e
  self := fun _ _ _ _ st hQ => wpAny_pyIter_listiter st.1.1 hQ
/-! the items of a str -/
theorem ascii_item_any {it : Addr} {x : Str} {t : Tok} {i : Nat} : True := trivial
end
end HotX
namespace L2H
open PySem PySem.Spec PyProof.Rows L2 HotX
theorem turn_listH {P : Program} {w : World} {K : PySem.W.Frag} {tg : Expr} (a it : Addr) : TurnH P w K tg (Itl K a) [it] it (fun i h => h.IsListIter it a i) where
  mem := by simp
  obj := fun i h st b hb => by
    have e : b = it := by simpa using hb
    subst e
    obtain ⟨o, e, c, d⟩ := st
    exact ⟨o, e, fun v z => by rw [d] at z; cases z⟩
  keep := fun i h h' st k => st.at fun o e => k it (by simp) o e
  item := by
    intro X hP hw hK hc i pins s σ H E I hf st hg
    subst hP hw hK
    obtain ⟨xs, x, hq, hx⟩ := hg
    obtain ⟨its, rv, p, hz⟩ := I.list hq
    obtain ⟨u, hu, ru⟩ := rv.get hx
    obtain ⟨f0, f1, f2, f3, f4, f5⟩ := hf it (by simp)
    refine wpAny_pyNext_list_item st p.isList (x := u) (by simpa using hu) fun h' st' sb => ?_
    have I1 : Inv X pins σ H { s with heap := h' } := I.turned (t' := s.toks) (fun b o hb e => (sb.2 b hb).trans e) f0 f1 f3 f4 f5
    obtain ⟨o, e, c, d⟩ := id st'
    exact ⟨u, rfl, go_of (s := { s with heap := h' }) e c d (by decide) ⟨x, H, I1, ru, ⟨rfl, fun ys hy => by rw [I.list_inj hy hq]; exact hx⟩, st', fun b hb => (hf b hb).1⟩⟩
  done := by
    intro X hP hw hK hc i pins s σ H E I hf st hg
    subst hP hw hK
    obtain ⟨xs, hq, hx⟩ := hg
    obtain ⟨its, rv, p, hz⟩ := I.list hq
    obtain ⟨f0, f1, f2, f3, f4, f5⟩ := hf it (by simp)
    have hl := rv.length
    obtain ⟨x1, hot⟩ := hc.at I
    exact list_end_hot hot st p.isList (by simp; omega) fun h' eb => ⟨rfl, I.turned (t' := s.toks) (fun b o hb e => eb b o hb e) f0 f1 f3 f4 f5⟩
  self := fun _ _ _ _ _ st h => wpAny_pyIter_listiter st h
theorem turn_strH {P : Program} {w : World} {K : PySem.W.Frag} {tg : Expr} (it : Addr) (x : Str) (t : Tok) (ty : String) (hty : ty = "str_ascii_iterator" ∨ ty = "str_iterator") :
    TurnH P w K tg (Its x) [it] it (fun i h => h.IsStrIter it ty x t i) where
  mem := by simp
  obj := fun i h st b hb => by
    have e : b = it := by simpa using hb
    subst e
    obtain ⟨o, e, c, d⟩ := st
    exact ⟨o, e, fun v z => by rw [d] at z; cases z⟩
  keep := fun i h h' st k => let ⟨o, ho, r⟩ := st; ⟨o, k it (by simp) o ho, r⟩
  item := by
    intro X hP hw hK hc i pins s σ H E I hf st hg
    subst hP hw hK
    obtain ⟨f0, f1, f2, f3, f4, f5⟩ := hf it (by simp)
    have hi : i < x.cps.size := hg
    have hcx : x.cps[i]? = some x.cps[i] := Array.getElem?_eq_getElem hi
    have hno : ["enumerate", "zip", "dict_itemiterator", "dict_reverseitemiterator", "odict_iterator", "itertools.zip_longest", "itertools.pairwise"].contains ty = false := by
      rcases hty with e | e
      · rw [e]; decide
      · rw [e]; decide
    have fin : ∀ h', h'.IsStrIter it ty x t (i + 1) → Heap.SameBut it s.heap h' → ∃ u, some (Value.str ⟨#[x.cps[i]]⟩ s.toks) = some u ∧ wpAny (model X.prog X.w) X.A (letOwnedTupleGo tg (.ref it) u) (fun _ s2 => ∃ y H', Inv X pins σ H' s2 ∧ RelV y u ∧ (Its x).yld i H y H' ∧ s2.heap.IsStrIter it ty x t (i + 1) ∧ ∀ b ∈ [it], H' b = none) E { s with heap := h', toks := s.toks + 1 } := fun h' st' sb => by
      have I1 : Inv X pins σ H { s with heap := h', toks := s.toks + 1 } := I.turned (fun b o hb e => (sb.2 b hb).trans e) f0 f1 f3 f4 f5
      obtain ⟨oi, e, cc, dd⟩ := id st'
      exact ⟨_, rfl, go_of (s := { s with heap := h', toks := s.toks + 1 }) e cc dd hno ⟨.str ⟨#[x.cps[i]]⟩, H, I1, ⟨s.toks, rfl⟩, ⟨rfl, _, hcx, rfl⟩, st', fun b hb => (hf b hb).1⟩⟩
    rcases hty with e | e
    · subst e
      exact wpAny_pyNext_ascii_item st hcx fun h' st' sb => fin h' st' sb
    · subst e
      exact wpAny_pyNext_wide_item st hcx fun h' st' sb => fin h' st' sb
  done := by
    intro X hP hw hK hc i pins s σ H E I hf st hg
    subst hP hw hK
    obtain ⟨f0, f1, f2, f3, f4, f5⟩ := hf it (by simp)
    have hx : x.cps[i]? = none := Array.getElem?_eq_none hg
    obtain ⟨x1, hot⟩ := hc.at I
    rcases hty with e | e
    · rw [e] at st
      exact ascii_end_hot hot st hx fun h' eb => ⟨rfl, I.turned (t' := s.toks) (fun b o hb e => eb b o hb e) f0 f1 f3 f4 f5⟩
    · rw [e] at st
      exact wide_end_hot hot st hx fun h' eb => ⟨rfl, I.turned (t' := s.toks) (fun b o hb e => eb b o hb e) f0 f1 f3 f4 f5⟩
  self := fun A i s Q E st h => by
    rcases hty with e | e
    · rw [e] at st; exact wpAny_pyIter_striter_ascii st h
    · rw [e] at st; exact wpAny_pyIter_striter_wide st h
/-- enumerate(list), never walked to its end -/
def IteN (K : PySem.W.Frag) (a : Addr) : It := ⟨(Ite K a).go, (Ite K a).yld, fun _ _ => False⟩
theorem turn_enumH {P : Program} {w : World} {K : PySem.W.Frag} {elts : List Expr} {kk : Nat} {tpos : Pos} (a e it : Addr) :
    TurnH P w K (.Tuple elts kk tpos) (IteN K a) [e, it] e (fun i h => (∃ old, IsEnum h e it ((i : Nat) : Int) old) ∧ h.IsListIter it a i ∧ e ≠ it) where
  mem := by simp
  obj := fun i h st b hb => by
    obtain ⟨⟨old, he⟩, ⟨o, ho, hc, hd⟩, _⟩ := st
    have e' : b = e ∨ b = it := by simpa using hb
    rcases e' with z | z
    · rw [z]; exact ⟨_, he, fun v q => nomatch q⟩
    · rw [z]; exact ⟨o, ho, fun v q => by rw [hd] at q; cases q⟩
  keep := fun i h h' st k => let ⟨⟨old, he⟩, hi, hne⟩ := st; ⟨⟨old, k e (by simp) _ he⟩, hi.at fun o q => k it (by simp) o q, hne⟩
  item := by
    intro X hP hw hK hc i pins s σ H E I hf st hg
    subst hP hw hK
    obtain ⟨⟨old, he⟩, hit, hne⟩ := st
    obtain ⟨xs, x, hq, hx⟩ := hg
    obtain ⟨its, rv, p, hz⟩ := I.list hq
    obtain ⟨u, hu, ru⟩ := rv.get hx
    have hel : e < s.heap.objs.size := Heap.lt_size he
    have hil : it < s.heap.objs.size := by obtain ⟨_, q, _⟩ := hit; exact Heap.lt_size q
    refine wpAny_pyNext_enum_item he hit p.isList (x := u) (by simpa using hu) hne fun h' ho hit' hT hsz hk => ?_
    refine ⟨_, rfl, wpAny_letOwnedTupleGo_enum (s := { s with heap := h', toks := s.toks + 1 }) ho fun h'' he' sb => ?_⟩
    have hT2 : h''.get? s.heap.objs.size = some { cls := .type "tuple", data := .seq #[.int i s.toks, u] } := (sb.2 _ (Nat.ne_of_gt hel)).trans hT
    have new : ObjOk X.prog X.w (upd H s.heap.objs.size (.tup [.int (i : Nat), x])) h'' s.heap.objs.size (.tup [.int (i : Nat), x]) :=
      ⟨by show 2 ≤ sizeLine; decide, [.int i s.toks, u], .cons ⟨_, rfl⟩ (.cons ru .nil), ⟨_, hT2, rfl, _, rfl⟩⟩
    have I1 : Inv X pins σ (upd H s.heap.objs.size (.tup [.int (i : Nat), x])) { s with heap := h'', toks := s.toks + 1 } :=
      I.turnedNew (ch := [e, it]) (fun b ob hb q => (sb.2 b (fun z => hb (by simp [z]))).trans (hk b ob (fun z => hb (by simp [z])) (fun z => hb (by simp [z])) q)) hf (Nat.le_refl _) new
    refine ⟨.ref s.heap.objs.size, _, I1, rfl, ⟨_, x, rfl, I.hok.fresh (Nat.le_refl _), rfl, fun ys hy => by rw [I.list_inj hy hq]; exact hx⟩, ⟨⟨u, ?_⟩, hit'.at fun o q => (sb.2 it (Ne.symm hne)).trans q, hne⟩, fun b hb => ?_⟩
    · have e1 : ((i + 1 : Nat) : Int) = (i : Int) + 1 := by omega
      rw [e1]; exact he'
    · have hb' : b < s.heap.objs.size := by
        have e' : b = e ∨ b = it := by simpa using hb
        rcases e' with z | z
        · rw [z]; exact hel
        · rw [z]; exact hil
      rw [upd_ne (Nat.ne_of_lt hb')]
      exact (hf b hb).1
  done := by
    intro X hP hw hK hc i pins s σ H E I hf st hg
    exact hg.elim
  self := fun A i s Q E st h => let ⟨⟨_, he⟩, _⟩ := st; wpAny_pyIter_enum he h
theorem pi_oneH {X : Cx} {pins : List (Addr × Obj)} {σ : St} {H : Hp} {s : Shared} {tg : Expr} {R : It → Hp → Prop} {J : It} {o : Obj} {tn : Nat → Heap → Prop} {tk : Nat} (I : Inv X pins σ H s) (T : TurnH X.prog X.w X.K tg J [s.heap.objs.size] s.heap.objs.size tn) (t0 : tn 0 (s.heap.push o)) (q : R J H) : PIEH X pins σ tg R (.ref s.heap.objs.size) { s with heap := s.heap.push o, toks := tk } :=
  ⟨s.heap.objs.size, [s.heap.objs.size], tn, J, H, rfl, I.kept (t' := tk) fun b o e => Heap.get?_push_of_some _ e, T, t0, fun b hb => by
    have e : b = s.heap.objs.size := by simpa using hb
    subst e
    exact I.fpOk (Nat.le_refl _) (I.hok.fresh (Nat.le_refl _)), q⟩
section
variable {X : Cx} {K : PySem.W.Frag} {tg : Expr} (hK : X.K = K)
include hK
theorem pi_listHK {l : Expr} {tl : TE} (hl : PE X l tl) : PIH X tg l (iList K tl) := by
  subst hK
  refine ⟨fun pins s σ H R I h => ?_⟩
  refine thn (hl.run pins s σ H _ I h) fun v s1 ⟨x, H1, I1, r1, q1⟩ => ?_
  obtain ⟨a, e, ⟨xs, hq⟩, q⟩ := q1
  subst e
  cases r1
  obtain ⟨its, rv, p, hz⟩ := I1.list hq
  exact wpAny_pyIter_list p.isList (pi_oneH (tk := s1.toks) I1 (turn_listH a _) ⟨_, Heap.get?_push_size _ rfl, rfl, rfl⟩ q)
def iEnumN (K : PySem.W.Frag) (ta : TA) : TI := fun σ H R => ta σ H fun vs H1 => ∃ a xs, vs = [.ref a] ∧ SqL K H1 a xs ∧ R (IteN K a) H1
theorem pi_enumHK {e : Expr} {ta : TA} {p pos tpos : Pos} {elts : List Expr} {kk : Nat} (hg : Gl X "enumerate") (hm : X.mg "enumerate" = none) (ha : PA X [e] ta) (hs : starEach [e] X.env = [(false, eval e X.env)] := by rfl) :
    PIH X (.Tuple elts kk tpos) (.Call (.Name "enumerate" p) [e] [] pos) (iEnumN K ta) := by
  subst hK
  refine ⟨fun pins s σ H R I h => ?_⟩
  refine Call_ (ld_blt I hg hm boot_enumerate (PyProof.Rows.callWith_type1 (thn (ha.run pos pins s σ H _ I h) fun us s1 ⟨vs, H1, I1, r1, q1⟩ => ?_) hs rfl))
  obtain ⟨a, xs, ex, hq, q⟩ := q1
  subst ex
  cases r1 with
  | cons r rr =>
    cases rr
    cases r
    obtain ⟨its, rv, p', hz⟩ := I1.list hq
    refine call_enumerate_list p'.isList fun h' he hit hsz hk => wpAny_pyIter_enum he ?_
    have I2 : Inv X pins σ H1 { s1 with heap := h' } := I1.kept (t' := s1.toks) hk
    refine ⟨s1.heap.objs.size + 1, [s1.heap.objs.size + 1, s1.heap.objs.size], _, _, H1, rfl, I2, turn_enumH a (s1.heap.objs.size + 1) s1.heap.objs.size, ⟨⟨.none, he⟩, hit, Nat.succ_ne_self _⟩, fun b hb => ?_, q⟩
    have e' : b = s1.heap.objs.size + 1 ∨ b = s1.heap.objs.size := by simpa using hb
    have hle : s1.heap.objs.size ≤ b := by
      rcases e' with z | z
      · rw [z]; exact Nat.le_add_right _ _
      · rw [z]; exact Nat.le_refl _
    exact I1.fpOk hle (I1.hok.fresh hle)
/-! ### all -/
theorem cr_allHK (hc : HotC X) : CallR X (.builtin "all") (rAll K) := by
  subst hK
  intro pins s σ H vs us Q I r h
  obtain ⟨a, bs, rfl, hs, q⟩ := h
  obtain ⟨its, rv, hl, _⟩ := I.list hs
  rw [Vals.ref1 r]
  have hb := rv.bls
  obtain ⟨x1, hot⟩ := hc.at I
  have lt1 : x1 < s.heap.objs.size := by
    obtain ⟨_, o1, _, g1, _⟩ := hot
    exact Heap.lt_size g1
  obtain ⟨hh, o1, vs1, g1, d1, c1⟩ := hot
  refine call_all_walk (iter_any hl.isList fun s₂ e2 st hne => ?_)
  subst e2
  refine ⟨_, _, _, _, _, _, _, rfl, walks_listH (A := X.A.in1) hh d1 c1 _ a hne (Nat.ne_of_lt lt1) its.toArray, ⟨st, Heap.get?_push_of_some _ g1⟩, truth_bools hb, fun h' tk hk => ?_⟩
  refine ⟨.bl _, H, I.kept fun b o eo => hk b o (fun hmem => ?_) (Heap.get?_push_of_some _ eo), ?_, q⟩
  · rcases List.mem_cons.mp hmem with e1 | hmem
    · exact absurd (e1 ▸ Heap.lt_size eo) (Nat.lt_irrefl _)
    · cases hmem
  · show Value.bool _ = Value.bool _
    rw [← L2.all_range, hb, List.size_toArray, List.length_map]
end
theorem pi_strH {X : Cx} {tg e : Expr} {te : TE} (he : PE X e te) : PIH X tg e (iStr te) := by
  refine ⟨fun pins s σ H R I h => ?_⟩
  refine thn (he.run pins s σ H _ I h) fun v s1 ⟨y, H1, I1, r1, x, ex, q⟩ => ?_
  subst ex
  obtain ⟨t, rfl⟩ := r1
  cases ha : x.cps.all (· < 128)
  · exact wpAny_pyIter_wide ha (pi_oneH (tk := s1.toks) I1 (turn_strH _ x t "str_iterator" (.inr rfl)) ⟨_, Heap.get?_push_size _ rfl, rfl, rfl⟩ q)
  · exact wpAny_pyIter_ascii ha (pi_oneH (tk := s1.toks) I1 (turn_strH _ x t "str_ascii_iterator" (.inl rfl)) ⟨_, Heap.get?_push_size _ rfl, rfl, rfl⟩ q)
end L2H
namespace L2H
open PySem PySem.Spec PyProof.Rows L2 HotX
theorem unpackItems_tupleH {prog : Program} {w : World} {A : Around} {E : Value → Shared → Prop} {s : Shared} {t x1 : Addr} {items : Array Value} {Q : List Value → Shared → Prop} (hot : HotAt A x1 s.heap) (ht : IsTup s.heap t items)
    (hQ : ∀ h', Heap.ExtBut s.heap.objs.size s.heap h' → Q items.toList { s with heap := h' }) : wpAny (model prog w) A (unpackItems (.ref t) items.size none) Q E s := by
  have hlt : t ≠ s.heap.objs.size := by obtain ⟨o, ho, _⟩ := ht; exact Nat.ne_of_lt (Heap.lt_size ho)
  obtain ⟨hh, o1, vs1, g1, d1, c1⟩ := hot
  have hl1 : x1 ≠ s.heap.objs.size := Nat.ne_of_lt (Heap.lt_size g1)
  unfold unpackItems
  refine wpAny_bind ?_
  · unfold notIterableAtAll
    refine wpAny_bind (wpAny_specialOf ht.typeIs slot_tuple_iter.lookup ?_)
    refine wpAny_pure ?_
    simp only [Bool.false_eq_true, if_false]
    refine wpAny_bind (wpAny_holding (iter_tuple ht ?_))
    refine wpAny_bind (wpAny_holding (draw_tuple hlt items.size 0 _ _ ⟨_, Heap.get?_push_size _ rfl, rfl, rfl⟩ (ht.push _) (by omega) fun h₁ hit₁ hs₁ => ?_))
    have hall : List.take items.size (List.drop 0 items.toList) = items.toList := by
      rw [List.drop_zero]; exact List.take_of_length_le (by simp)
    rw [hall]
    rw [if_neg (by simp)]
    have ht₁ : IsTup h₁ t items := (ht.push _).extBut hs₁.extBut hlt
    have g₁ : h₁.get? x1 = some o1 := hs₁.extBut _ _ hl1 (Heap.get?_push_of_some _ g1)
    refine wpAny_bind (wpAny_holding (tuple_end_hot (s := { s with heap := h₁ }) ⟨hh, o1, vs1, g₁, d1, c1⟩ hit₁ ht₁ (by simp) fun h₂ he₂ => ?_))
    simp only [Option.isSome_none, Bool.false_eq_true, if_false]
    refine wpAny_pure (hQ h₂ fun b o hb e => he₂ b o hb (hs₁.extBut b o hb (Heap.get?_push_of_some _ e)))
theorem pg_tupHK {X : Cx} {K : PySem.W.Frag} {es : List Expr} {k : Nat} {t : TGs} {n : Nat} {pos : Pos} (hK : X.K = K) (hc : HotC X) (h : PGs X es t)
    (hn : (assignEach es X.env).length = n := by rfl) (hst : (assignEach es X.env).findIdx? (·.1) = none := by rfl) : PG X (.Tuple es k pos) (gTup K n t) := by
  subst hK
  refine ⟨fun pins s σ H v u Q I r hw => ?_⟩
  obtain ⟨a, xs, e1, hq, hl, hw⟩ := hw
  subst e1
  cases r
  obtain ⟨its, rv, ht, hz⟩ := I.tuple hq
  obtain ⟨x1, hot⟩ := hc.at I
  rw [assign_Tuple]
  refine wpAny_bind (wpAny_standAt ?_)
  have hn' : (assignEach es X.env).length = its.toArray.size := by simp [hn, ← hl, rv.length]
  unfold unpack
  rw [hn', hst]
  refine wpAny_bind (wpAny_holding (unpackItems_tupleH hot ht fun h' hx => ?_))
  have I1 : Inv X pins σ H { s with heap := h' } := I.kept (t' := s.toks) fun b o e => hx b o (Nat.ne_of_lt (Heap.lt_size e)) e
  exact h.run pins _ σ H xs _ Q I1 (by simpa using rv) hw
end L2H

set_option Elab.async false
set_option linter.all false
set_option maxRecDepth 100000
set_option maxHeartbeats 4000000
/-! A list comprehension while an exception is handled. -/
namespace L2H
open PySem PySem.Spec PyProof.Rows L2 HotX
/-- the block's context, the handled exception pinned -/
abbrev blkH (X : Cx) (p : Addr × Obj) (s : Shared) (H : Hp) (scope : Scope) (cenv : Env) (fp : List Addr) : Cx := { X.blk s H scope cenv fp with pn := [p] }
section
variable {X : Cx} {pins : List (Addr × Obj)} {σ : St} {H : Hp} {s : Shared} {p : Addr × Obj}
theorem hotB {s' : Shared} {H' : Hp} {scope : Scope} {cenv : Env} {fp : List Addr} (h : Hot1 X.A p) : HotC (blkH X p s' H' scope cenv fp) := ⟨p, h, List.mem_singleton.mpr rfl⟩
theorem inv_pn {Y : Cx} {pn : List (Addr × Obj)} (I : Inv Y pins σ H s) (h : ∀ q ∈ pn ++ pins, s.heap.get? q.1 = some q.2 ∧ H q.1 = none ∧ q.1 ≠ Y.env.locals ∧ q.1 ∉ Y.fs ∧ ∀ v, q.2.data ≠ .cell v) : Inv { Y with pn := pn } pins σ H s :=
  ⟨⟨I.ok.mod, I.ok.kind, I.ok.glob, I.ok.blt, I.ok.above, I.ok.inj, I.ok.has, I.ok.cab, I.ok.hd, I.ok.frames, I.ok.stk, I.ok.exf, I.ok.bs, I.ok.bsz, I.ok.noex, I.ok.exfs, I.ok.funs, I.ok.frf⟩, I.os, I.bare, I.base, I.loc, I.cell, I.free, I.freeC, h, I.hok, I.len⟩
theorem lc_coreH {Q : VK} {elt tg iter : Expr} {ifs : List Expr} {scope : Scope} {own : List (Str × Nat)} {pos pos' : Pos} {wi : TI} {g : TG} {tt : TT} {te : TE} {use : Option (Value → Sem Unit)} {Qf : Value → Shared → Prop}
    (hp1 : Hot1 X.A p) (hpm : p ∈ X.pn) (hN : X.N.Nodup) (I : Inv X pins σ H s) (hi : PIH X tg iter wi) (ok : BlkOk X.N X.env.scope scope own)
    (hg : ∀ (s : Shared) (H : Hp) (C : Addr) (cl : List (Str × Addr)) (fp : List Addr), PG (blkH X p s H scope (compEnvC scope cl C X.env) fp) tg g) (ht : ∀ (s : Shared) (H : Hp) (C : Addr) (cl : List (Str × Addr)) (fp : List Addr), PTs (blkH X p s H scope (compEnvC scope cl C X.env) fp) ifs tt)
    (he : ∀ (s : Shared) (H : Hp) (C : Addr) (cl : List (Str × Addr)) (fp : List Addr), PE (blkH X p s H scope (compEnvC scope cl C X.env) fp) elt te) (hs : ∀ x, foldedSetIterable iter X.env x = pure x)
    (h : tLc wi g tt te (own.map (·.2)) σ H Q)
    (hRR : ∀ D C s' m H', Inv X pins σ H' s' → Q (.ref D) H' → s'.heap.Ns C m → FpOk X pins H' C → compPost (model X.prog X.w) X.A X.xe use Qf (.ref D) C (.ok .next) s') :
    wpAny (model X.prog X.w) X.A (comprehension (.ListComp elt [⟨tg, iter, ifs, 0⟩] scope pos) scope X.env pos' (newList []) false (eval iter X.env) use) Qf X.xe s := by
  have hfree : ∀ y ∈ scope.names, y.2 = .free → ∃ c, X.env.cells.lookup y.1 = some c := fun y hy e => by
    rcases ok.free y hy e with k | k
    · exact I.ok.has _ (.inl k)
    · exact I.ok.has _ (.inr k)
  refine wpAny_comprehension_free (use := use) rfl hs (closure_ok hfree) ok.kind (fun y hy e => by rw [ok.uniq y hy, e])
    (thn (hi.run pins s σ H _ I h) fun xv s1 hx => thn hx fun itv s2 h2 => ?_)
  obtain ⟨it, fp, tn, J, H2, e, I2, T, st2, f2, q⟩ := h2
  subst e
  refine wpAny_newObj_type (newEnv_comp ?_) (by show 0 ≤ sizeLine; decide)
  generalize hD : s2.heap.objs.size = D
  have hDn : H2 D = none := I2.hok.fresh (Nat.le_of_eq hD)
  obtain ⟨W, ⟨m0, w0⟩, turn⟩ := q D hDn
  generalize hs3 : ({ s2 with heap := s2.heap.push { cls := .type "list", data := .seq ([] : List Value).toArray } } : Shared) = s3
  have I3 : Inv X pins σ (upd H2 D (.lst [])) s3 := by
    rw [← hs3]
    refine I2.laid (t' := s2.toks) (fun b o e => Heap.get?_push_of_some _ e) (Nat.le_of_eq hD) ⟨Nat.zero_le _, [], 0, .nil, ?_⟩
    rw [← hD]
    exact Heap.get?_push_size _ rfl
  have h3 : s3.heap = s2.heap.push { cls := .type "list", data := .seq ([] : List Value).toArray } := by rw [← hs3]
  have sz : ∀ b ∈ fp, b < s2.heap.objs.size := fun b hb => by
    obtain ⟨o, e, _⟩ := T.obj _ _ st2 b hb
    exact Heap.lt_size e
  have f3 : ∀ b ∈ fp, FpOk X pins (upd H2 D (.lst [])) b ∧ b < s3.heap.objs.size := fun b hb => by
    have hlt := sz b hb
    refine ⟨⟨?_, (f2 b hb).2⟩, by rw [h3, Heap.size_push]; exact Nat.lt_succ_of_lt hlt⟩
    rw [upd_ne (by rw [← hD]; exact Nat.ne_of_lt hlt)]
    exact (f2 b hb).1
  have st3 : tn 0 s3.heap := T.keep _ _ _ st2 fun b _ o e => by rw [h3]; exact Heap.get?_push_of_some _ e
  have I4 := block_start I3 ok hN f3
  have pg := hg s3 (upd H2 D (.lst [])) s3.heap.objs.size (cellsFrom (s3.heap.objs.size + 1) scope.names (cloFrom X.env.cells scope.names [])) fp
  have pt := ht s3 (upd H2 D (.lst [])) s3.heap.objs.size (cellsFrom (s3.heap.objs.size + 1) scope.names (cloFrom X.env.cells scope.names [])) fp
  have pe := he s3 (upd H2 D (.lst [])) s3.heap.objs.size (cellsFrom (s3.heap.objs.size + 1) scope.names (cloFrom X.env.cells scope.names [])) fp
  show codeAny _ _ (.compStart (.ListComp elt [⟨tg, iter, ifs, 0⟩] scope pos) 0 (.ref it) (.ref D) (compEnvC scope (cellsFrom (s3.heap.objs.size + 1) scope.names (cloFrom X.env.cells scope.names [])) s3.heap.objs.size X.env)) (compPost (model X.prog X.w) X.A X.xe use Qf (.ref D) s3.heap.objs.size) { s3 with heap := pushCells (s3.heap.push { cls := .type "dict", data := .dict #[] }) scope.names }
  have nfp : ∀ b ∈ fp, (upd H2 D (.lst [])) b = none := fun b hb => (f3 b hb).1.1
  have pin3 := I3.pin p (List.mem_append_left _ hpm)
  have nfs : ∀ b ∈ fp, p.1 ≠ b := fun b hb => (f3 b hb).1.2.2.2.2.2 p (List.mem_append_left _ hpm)
  have stk3 : p.1 ∉ frs X.stack := fun hm => (List.mem_cons.mp (I3.stkSub p.1 hm)).elim pin3.2.2.1 pin3.2.2.2.1
  generalize hce : compEnvC scope (cellsFrom (s3.heap.objs.size + 1) scope.names (cloFrom X.env.cells scope.names [])) s3.heap.objs.size X.env = ce at I4 pg pt pe ⊢
  have cL : ce.locals = s3.heap.objs.size := by subst hce; rfl
  generalize hH3 : upd H2 D (.lst []) = H3 at I3 I4 pg pt pe w0 nfp f3 pin3
  generalize hs4 : ({ s3 with heap := pushCells (s3.heap.push { cls := .type "dict", data := .dict #[] }) scope.names } : Shared) = s4 at I4 ⊢
  have st4 : tn 0 s4.heap := T.keep _ _ _ st3 fun b _ o e => by rw [← hs4]; exact pushCells_keeps _ _ _ _ (Heap.get?_push_of_some _ e)
  have I4 : Inv (blkH X p s3 H3 scope ce fp) [] (wipe σ (own.map (·.2))) H3 s4 := inv_pn I4 fun q hq => by
    have eq : q = p := by simpa using hq
    rw [eq]
    refine ⟨by rw [← hs4]; exact pushCells_keeps _ _ _ _ (Heap.get?_push_of_some _ pin3.1), pin3.2.1, ?_, stk3, pin3.2.2.2.2⟩
    show p.1 ≠ ce.locals
    rw [cL]; exact Nat.ne_of_lt (Heap.lt_size pin3.1)
  have hB : HotC (blkH X p s3 H3 scope ce fp) := hotB hp1
  have stat : ∀ {σ' : St} {H' : Hp} {s' : Shared}, Inv (blkH X p s3 H3 scope ce fp) [] σ' H' s' → (∀ b ∈ fp, H' b = none) → ∀ b ∈ fp, FpOk (blkH X p s3 H3 scope ce fp) [] H' b := fun {σ' H' s'} I' hn b hb =>
    ⟨hn b hb, (I'.ok.exf b hb).1, I'.ok.exfs b hb, .inl hb, fun x c e => (I'.ok.exf b hb).2 x c e, fun q hq => by
      have eq : q = p := by simpa using (show q ∈ [p] ++ ([] : List (Addr × Obj)) from hq)
      rw [eq]; exact nfs b hb⟩
  have loop : codeAny (model X.prog X.w) X.A (.compLoop (.ListComp elt [⟨tg, iter, ifs, 0⟩] scope pos) 0 (.ref it) (.ref D) ce) (compPost (model X.prog X.w) X.A X.xe use Qf (.ref D) s3.heap.objs.size) s4 := by
    refine compLoop_any (fun n s' => ∃ i H', Inv (blkH X p s3 H3 scope ce fp) [] (wipe σ (own.map (·.2))) H' s' ∧ tn i s'.heap ∧ (∀ b ∈ fp, H' b = none) ∧ W i n H') ?_ m0 ⟨0, H3, I4, st4, nfp, w0⟩
    rintro n s5 ⟨i, H5, I5, st5, n5, w5⟩
    rcases turn i n H5 w5 with ⟨stop, qq⟩ | ⟨go, Nx, hNx, step⟩
    · have td := T.done (blkH X p s3 H3 scope ce fp) rfl rfl rfl hB i [] s5 _ H5 (fun _ _ => False) I5 (stat I5 n5) st5 stop
      refine thnF td fun r s6 ⟨hr, I6⟩ => ?_
      subst hr
      have I7 : Inv X pins σ H5 s6 := I3.call' (ch := fp) I6.os I6.base I6.hok I6.bare fun b hb => ⟨(f3 b hb).1.2.2.2.1, (f3 b hb).1.2.1, (f3 b hb).1.2.2.2.2.1, (f3 b hb).1.2.2.2.2.2⟩
      have nC : H5 s3.heap.objs.size = none := by
        have z : H5 ce.locals = none := I6.free
        rw [cL] at z
        exact z
      obtain ⟨m, hn, _⟩ := I6.loc
      have hn : s6.heap.Ns ce.locals m := hn
      rw [cL] at hn
      exact hRR D s3.heap.objs.size s6 m H5 I7 qq hn (I3.fpOk (Nat.le_refl _) nC)
    · have ti := T.item (blkH X p s3 H3 scope ce fp) rfl rfl rfl hB i [] s5 _ H5 (fun _ _ => False) I5 (stat I5 n5) st5 go
      refine thnF ti fun r s6 ⟨u, hr, h6⟩ => ?_
      subst hr
      refine thnF h6 fun _ s7 ⟨x, H7, I7, r7, y7, st7, n7⟩ => ?_
      have I7' := I7.pinned (stat I7 n7) (T.obj _ _ st7)
      refine thnF (pg.run _ s7 _ H7 x u _ I7' r7 (step x H7 y7)) fun _ s8 ⟨σ8, H8, I8, hw8, q8⟩ => ?_
      refine thnF (pt.run _ s8 σ8 H8 _ I8 q8) fun b s9 ⟨H9, I9, q9⟩ => ?_
      have fin : ∀ {s' : Shared} {H' : Hp}, Inv (blkH X p s3 H3 scope ce fp) ([] ++ pinsAt fp s7.heap) σ8 H' s' → Nx H' → ∃ m, m < n ∧ ∃ i H', Inv (blkH X p s3 H3 scope ce fp) [] (wipe σ (own.map (·.2))) H' s' ∧ tn i s'.heap ∧ (∀ b ∈ fp, H' b = none) ∧ W i m H' := fun {s' H'} I' nx => by
        obtain ⟨m', hm, w'⟩ := hNx H' nx
        have pin' : ∀ b ∈ fp, ∀ o, s7.heap.get? b = some o → s'.heap.get? b = some o ∧ H' b = none := fun b hb o e =>
          let z := I'.pin (b, o) (List.mem_append_right _ (List.mem_append_right _ (mem_pinsAt hb e)))
          ⟨z.1, z.2.1⟩
        have hl : (wipe σ (own.map (·.2))).length = σ8.length := by rw [← hw8, wipe_length]
        refine ⟨m', hm, i + 1, H', (I'.unpinned (pins := [])).weak hl (fun j v e => ?_), T.keep _ _ _ st7 fun b hb o e => (pin' b hb o e).1, fun b hb => ?_, w'⟩
        · rw [← hw8] at e
          exact (wipe_some e).1
        · obtain ⟨o, e, _⟩ := T.obj _ _ st7 b hb
          exact (pin' b hb o e).2
      cases b with
      | false =>
        simp only [Bool.false_eq_true, if_false] at q9 ⊢
        exact fin I9 q9
      | true =>
        simp only [if_true] at q9 ⊢
        refine thnF (pe.run _ s9 σ8 H9 _ I9 q9) fun z s10 ⟨yv, H10, I10, r10, acc, hD10, hz10, nx⟩ => ?_
        exact app_ok (X := blkH X p s3 H3 scope ce fp) I10 hD10 hz10 r10 fun s11 I11 => fin I11 nx
  exact codeAny_compStart_list loop (T.self X.A 0 _ _ _ st4 loop)
theorem pe_lcH {elt tg iter : Expr} {ifs : List Expr} {scope : Scope} {own : List (Str × Nat)} {pos : Pos} {wi : TI} {g : TG} {tt : TT} {te : TE} (hc : HotC X) (hN : X.N.Nodup) (hi : PIH X tg iter wi) (ok : BlkOk X.N X.env.scope scope own)
    (hg : ∀ (p : Addr × Obj), Hot1 X.A p → ∀ (s : Shared) (H : Hp) (C : Addr) (cl : List (Str × Addr)) (fp : List Addr), PG (blkH X p s H scope (compEnvC scope cl C X.env) fp) tg g) (ht : ∀ (p : Addr × Obj), Hot1 X.A p → ∀ (s : Shared) (H : Hp) (C : Addr) (cl : List (Str × Addr)) (fp : List Addr), PTs (blkH X p s H scope (compEnvC scope cl C X.env) fp) ifs tt)
    (he : ∀ (p : Addr × Obj), Hot1 X.A p → ∀ (s : Shared) (H : Hp) (C : Addr) (cl : List (Str × Addr)) (fp : List Addr), PE (blkH X p s H scope (compEnvC scope cl C X.env) fp) elt te) (hs : ∀ x, foldedSetIterable iter X.env x = pure x := by intro _; rfl) :
    PE X (.ListComp elt [⟨tg, iter, ifs, 0⟩] scope pos) (tLc wi g tt te (own.map (·.2))) := by
  obtain ⟨p, hp1, hpm⟩ := hc
  refine ⟨fun pins s σ H Q I h => ?_⟩
  rw [eval_ListComp]
  refine lc_coreH hp1 hpm hN I hi ok (hg p hp1) (ht p hp1) (he p hp1) hs h fun D C s' m H' I' q hn f => ⟨m, hn, fun h'' sb => ?_⟩
  obtain ⟨f0, f1, f2, f3, f4, f5⟩ := f
  exact ⟨.ref D, H', I'.turned (t' := s'.toks) (fun b o hb e => (sb.2 b hb).trans e) f0 f1 f3 f4 f5, rfl, q⟩
end
end L2H

set_option Elab.async false
set_option linter.all false
set_option maxRecDepth 100000
set_option maxHeartbeats 4000000
/-! Defs, lambdas, exceptions with an own __init__, called while an exception is handled. -/
namespace Hk
open PySem PySem.Spec PySem.W PySem.Calls PyProof.Rows L2 L2H HotX LamX NdefX
theorem FunD.okH {P : Program} {w : World} {K : PySem.W.Frag} {mg : Str → Option Value} {base : Heap} {x qual : Str} {params : Arguments} {body : List Stmt} {scope : Scope} {dvs : List V} {kws : List (Str × V)} {f : Addr} {fd : FuncData} {CX : CXT} {N ps : List Str} {k : Nat} {sp : Sp} (F : FunD K x qual params body scope dvs kws f fd) (S : FnScope N ps scope) (len : ∀ vs H Q E, sp vs H Q E → vs.length = ps.length)
    (hbody : ∀ (cdv : Value) (A : Around) (outer : List Env) (s : Shared) (H : Hp) (vs : List V) (Q : VK) (E : XK) (p : Addr × Obj), RoomH k (A.deeper (envOfC qual scope s.heap.objs.size f cdv)) → HotC (cxH CX P w K mg base N qual scope f cdv A outer s H E p) → sp vs H Q E →
      ∃ t, PSs (cxH CX P w K mg base N qual scope f cdv A outer s H E p) body t ∧ t { nx := fun _ H' => Q .non H', rt := Q } (L2.start N vs) H) : FnH P w K mg base CX (k + 1) f fd ps sp := by
  obtain ⟨oc, od, dV, kV, doc, pm, an, cdv, ct, osl, rfl, lk, hcd, _, _⟩ := F.ex
  exact fn_ofH lk hcd S len fun A outer s H vs Q E p hot hr hsp => hbody cdv A outer s H vs Q E p hr ⟨p, ⟨hot.1, hot.2⟩, List.mem_singleton.mpr rfl⟩ hsp
theorem FnH.mono' {P : Program} {w : World} {K : PySem.W.Frag} {mg : Str → Option Value} {base : Heap} {CX : CXT} {j k : Nat} {f : Addr} {fd : FuncData} {ps : List Str} {sp : Sp} (F : FnH P w K mg base CX j f fd ps sp) (h : j ≤ k) : FnH P w K mg base CX k f fd ps sp :=
  ⟨F.len, fun A outer s H args us vs Q E p hr => F.run A outer s H args us vs Q E p (hr.mono h)⟩
section
variable {CX : CXT} {P : Program} {w : World} {K : PySem.W.Frag} {mg : Str → Option Value} {base : Heap} {N : List Str} {qual : Str} {scope : Scope} {f : Addr} {cd : Value} {A : Around} {outer : List Env} {s : Shared} {H : Hp} {E : XK} {p : Addr × Obj}
theorem cxH_K : (cxH CX P w K mg base N qual scope f cd A outer s H E p).K = K := rfl
theorem cxH_prog : (cxH CX P w K mg base N qual scope f cd A outer s H E p).prog = P := rfl
theorem cxH_w : (cxH CX P w K mg base N qual scope f cd A outer s H E p).w = w := rfl
theorem cxH_mg : (cxH CX P w K mg base N qual scope f cd A outer s H E p).mg = mg := rfl
theorem cxH_base : (cxH CX P w K mg base N qual scope f cd A outer s H E p).base = base := rfl
end
/-! ### a global def with its promise there -/
structure GlobH (P : Program) (w : World) (K : PySem.W.Frag) (mg : Str → Option Value) (base : Heap) (CX : CXT) (k : Nat) (x : Str) (ps : List Str) (dvs : List V) (sp : Sp) : Prop where
  ex : ∃ f fd ds, FnH P w K mg base CX k f fd ps sp ∧ mg x = some (.ref f) ∧ PySem.W.keepIn K (.ref f) = true ∧ Vals dvs ds ∧ Binds K fd ps ds
theorem pin_ok {X : Cx} {pins : List (Addr × Obj)} {σ : L2.St} {H : Hp} {s : Shared} {p : Addr × Obj} (I : Inv X pins σ H s) (hp : p ∈ X.pn) : PinOk X.stack H s p := by
  have P1 := I.pin p (List.mem_append_left _ hp)
  exact ⟨P1.1, P1.2.1, fun hm => (List.mem_cons.mp (I.stkSub p.1 hm)).elim P1.2.2.1 P1.2.2.2.1, P1.2.2.2.2⟩
section
variable {X : Cx} {CX : CXT} {k : Nat} {x : Str} {ps : List Str} {dvs : List V} {sp : Sp} {E : XK} {q pos : Pos} {e : Expr} {es : List Expr} {t : TA}
theorem pe_callGH (G : GlobH X.prog X.w X.K X.mg X.base CX k x ps dvs sp) (hr : RoomH k X.A) (hc : HotC X) (hg : Gl X x) (hx : Passes CX X E) (ha : PA X (e :: es) t)
    (hdb : (x == ("__debug__" : Str)) = false := by decide) (he : starEach (e :: es) X.env = (false, eval e X.env) :: starEach es X.env := by rfl) (hpl : (backTo pos (starEach es X.env)).any (·.1) = false := by rfl) :
    PE X (.Call (.Name x q) (e :: es) [] pos) (tCall sp dvs E t) := by
  refine ⟨fun pins s σ H Q I h => ?_⟩
  obtain ⟨f, fd, ds, F, hm, kp, vd, hb⟩ := G.ex
  obtain ⟨p, hot, hp⟩ := hc
  refine wpAny_Call_Name_kw (ld_glob I hg hm ?_ hdb)
  refine PySem.W.callWith_K (h₀ := X.base) I.ok.mod.kin kp (thn (ha.run pos pins s σ H _ I h) fun us s1 ⟨vs, H1, I1, r, q1⟩ => ⟨I1.kIn, ?_⟩) he hpl
  have r2 : Vals (vs ++ dvs) (us ++ ds) := r.append vd
  have hl : (us ++ ds).length = ps.length := by rw [← r2.length]; exact F.len _ _ _ _ q1
  refine wpAny_call (codeAny_mono (F.run X.A X.stack s1 H1 ⟨us, []⟩ (us ++ ds) (vs ++ dvs) Q E p hr hot (pin_ok I1 hp) I1.env0 (hb s1 us I1.kIn hl) r2 q1) fun r s' hq => ?_)
  cases r with
  | error e => exact hx pins σ H1 s1 e s' I1 hq
  | ok fl =>
    cases fl with
    | ret u => exact I1.after hq
    | next => exact False.elim hq
    | brk => exact False.elim hq
    | cont => exact False.elim hq
end
section
variable {X : Cx} {k : Nat} {x : Str} {ps : List Str} {dvs : List V} {sp : Sp} {E : XK} {q pos : Pos} {e : Expr} {es : List Expr} {t : TA}
/-- .. told of the frame's cells -/
theorem pe_callXH (G : GlobH X.prog X.w X.K X.mg X.base (L2.CX X.prog X.w) k x ps dvs sp) (hr : RoomH k X.A) (hc : HotC X) (hg : Gl X x) (hx : Passes (L2.CX X.prog X.w) X E) (nd : X.N.Nodup) (hfn : ∀ y c, X.env.cells.lookup y = some c → X.fn y = true) (ha : PA X (e :: es) t)
    (hdb : (x == ("__debug__" : Str)) = false := by decide) (he : starEach (e :: es) X.env = (false, eval e X.env) :: starEach es X.env := by rfl) (hpl : (backTo pos (starEach es X.env)).any (·.1) = false := by rfl) :
    PE X (.Call (.Name x q) (e :: es) [] pos) (tCallX X.env.cells X.env.scope X.N sp dvs E t) := by
  refine ⟨fun pins s σ H Q I h => ?_⟩
  obtain ⟨f, fd, ds, F, hm, kp, vd, hb⟩ := G.ex
  obtain ⟨p, hot, hp⟩ := hc
  refine wpAny_Call_Name_kw (ld_glob I hg hm ?_ hdb)
  refine PySem.W.callWith_K (h₀ := X.base) I.ok.mod.kin kp (thn (ha.run pos pins s σ H _ I h) fun us s1 ⟨vs, H1, I1, r, q⟩ => ⟨I1.kIn, ?_⟩) he hpl
  refine wpAny_call (codeAny_mono (run_exp (Q := Q) (E := E) I1 nd hfn hx fun obs e0 => ?_) fun r s' hq => ?_)
  · have r2 : Vals (vs ++ dvs) (us ++ ds) := r.append vd
    have q2 := q (cenv_of I1 nd) obs
    have hl : (us ++ ds).length = ps.length := by rw [← r2.length]; exact F.len _ _ _ _ q2
    obtain ⟨p1, p2, p3, p4⟩ := pin_ok I1 hp
    have nc : ¬ InC X.env.cells p.1 := fun ⟨y, z⟩ => by
      obtain ⟨v, o, e1, e2⟩ := I1.cell y p.1 z
      rw [p1] at e1
      cases e1
      exact p4 v e2
    exact F.run X.A X.stack s1 _ ⟨us, []⟩ (us ++ ds) (vs ++ dvs) _ _ p hr hot ⟨p1, by rw [exC_out nc]; exact p2, p3, p4⟩ e0 (hb s1 us I1.kIn hl) r2 q2
  · cases r with
    | error e => exact hq
    | ok fl =>
      cases fl with
      | ret u => exact hq
      | next => exact False.elim hq
      | brk => exact False.elim hq
      | cont => exact False.elim hq
end
/-! ### function values -/
def ActH (P : Program) (w : World) (K : PySem.W.Frag) (mg : Str → Option Value) (base : Heap) (k : Nat) (f : Addr) (sp : Sp) : Prop :=
  ∀ (A : Around) (outer : List Env) (s : Shared) (H : Hp) (us : List Value) (vs : List V) (Q : VK) (E : XK) (p : Addr × Obj), RoomH k A → Hot1 A p → PinOk outer H s p → Env0 P w K mg base A outer s H → Vals vs us → sp vs H Q E →
    PySem.W.FnAt f s.heap ∧ codeAny (model P w) A (.call (.ref f) ⟨us, []⟩) (CR (L2.CX P w) outer P w H s Q E) s
def tCallVSH (P : Program) (w : World) (K : PySem.W.Frag) (mg : Str → Option Value) (base : Heap) (k i : Nat) (E : L2.St → XK) (t : TA) : TE := fun σ H Q => ∃ f sp, σ[i]? = some (some (.ref f)) ∧ ActH P w K mg base k f sp ∧ t σ H fun vs H1 => sp vs H1 Q (E σ)
section
variable {X : Cx} {k i : Nat} {x : Str} {E : L2.St → XK} {p pos : Pos}
theorem pe_callVS0H (hr : RoomH k X.A) (hc : HotC X) (hx : ∀ σ, PassesAt (L2.CX X.prog X.w) X σ (E σ)) (hN : X.N[i]? = some x) (hv : Vis X.env.scope x)
    (hd : (x == ("__debug__" : Str)) = false := by decide) (hcd : (x == ("__classdict__" : Str)) = false := by decide) :
    PE X (.Call (.Name x p) [] [] pos) (tCallVSH X.prog X.w X.K X.mg X.base k i E tNil) := by
  refine ⟨fun pins s σ H Q I h => ?_⟩
  obtain ⟨f, sp, hs, ac, q⟩ := h
  obtain ⟨pp, hot, hp⟩ := hc
  refine wpAny_Call_Name_kw (thn ((pe_var (pos := p) hN hv hd hcd).run pins s σ H (fun v H1 => v = .ref f ∧ H1 = H) I ⟨.ref f, hs, rfl, rfl⟩) fun u s1 ⟨v, H1, I1, r1, q1⟩ => ?_)
  obtain ⟨ev, eH⟩ := q1
  subst ev
  rw [eH] at I1
  obtain rfl : u = Value.ref f := r1
  obtain ⟨z, c⟩ := ac X.A X.stack s1 H [] [] Q (E σ) pp hr hot (pin_ok I1 hp) I1.env0 .nil q
  refine PySem.W.callWith_F0 (first := []) z (wpAny_call (codeAny_mono c fun r s' hq => ?_))
  cases r with
  | error e => exact hx σ pins H s1 e s' I1 hq
  | ok fl =>
    cases fl with
    | ret u => exact I1.after hq
    | next => exact False.elim hq
    | brk => exact False.elim hq
    | cont => exact False.elim hq
theorem pe_callVS0HK {P : Program} {w : World} {K : PySem.W.Frag} {mg : Str → Option Value} {base : Heap} (e1 : X.prog = P) (e2 : X.w = w) (e3 : X.K = K) (e4 : X.mg = mg) (e5 : X.base = base) (hr : RoomH k X.A) (hc : HotC X) (hx : ∀ σ, PassesAt (L2.CX X.prog X.w) X σ (E σ)) (hN : X.N[i]? = some x) (hv : Vis X.env.scope x)
    (hd : (x == ("__debug__" : Str)) = false := by decide) (hcd : (x == ("__classdict__" : Str)) = false := by decide) :
    PE X (.Call (.Name x p) [] [] pos) (tCallVSH P w K mg base k i E tNil) := by
  subst e1 e2 e3 e4 e5
  exact pe_callVS0H hr hc hx hN hv hd hcd
end
section
variable {P : Program} {w : World} {K : PySem.W.Frag} {mg : Str → Option Value} {base : Heap} {N ps fr : List Str} {L : LF} {f : Addr} {k : Nat} {spN : List (Option V) → Sp}
/-- a lambda without a default -/
theorem act_lamH (S : NScope N ps fr L.scope) (hdT : L.dT = none) (len : ∀ ws vs H Q E, spN ws vs H Q E → vs.length = ps.length)
    (hb : ∀ (pm ctv : Value) (us : List Value), us.length = ps.length → bindArgs (L.fd pm ctv) ⟨us, []⟩ = pure (ps.zip us))
    (hbody : ∀ (A : Around) (outer : List Env) (s : Shared) (H : Hp) (vs : List V) (ws : List (Option V)) (Q : VK) (E : XK) (p : Addr × Obj), RoomH k (A.deeper (envF L.nf f s.heap.objs.size)) → HotC (ncxH (L2.CX P w) P w K mg base N L.nf f A outer s H E p) → ws.length = fr.length → spN ws vs H Q E →
      ∃ te, PE (ncxH (L2.CX P w) P w K mg base N L.nf f A outer s H E p) L.body te ∧ te (startF N vs ws) H Q) :
    ActH P w K mg base (k + 1) f (spLam f L fr [] spN) := fun A outer s H us vs Q E p hr hot hpin e0 r h => by
  obtain ⟨ws, hf, hc, C, hd, q⟩ := h
  rw [List.append_nil] at q
  have lim : s.heap.NoLimit := e0.mod.nolimit.keeps fun b o e => (e0.bs b o e).1
  obtain ⟨od, sl, pm, ctv, ho⟩ := lamO_at e0.hok hf
  refine ⟨⟨_, od, _, sl, ho⟩, capsRun C e0 fun e1 C1 => ?_⟩
  have hl := len _ _ _ _ _ q
  have bd : BindsTo s (L.fd pm ctv) ⟨us, []⟩ (ps.zip us) := .of_eq (hb pm ctv us (by rw [← r.length, hl]))
  refine kla_callFunE hr.depth ho rfl S.co S.gen rfl (codeO_at e0.hok hc) (bd _ _ _ _ ?_)
  refine wpAny_newFunctionEnv S.nocell (fun ⟨n, _⟩ hy => S.par n (List.of_mem_zip hy).1) (fun h₁ hns hsb => ⟨lim.fresh _ hsb, ?_⟩) S.kind
  show codeAny _ _ (.expr L.body (envF L.nf f s.heap.objs.size)) _ _
  have kp : ∀ b o, s.heap.get? b = some o → h₁.get? b = some o := fun b o e => hsb.extBut b o (Nat.ne_of_lt (Heap.lt_size e)) (Heap.get?_push_of_some _ e)
  have hpin2 : PinOk outer (delC L.cl H) s p := ⟨hpin.get, by rw [delC_out (C.outN hpin.free)]; exact hpin.free, hpin.nofs, hpin.nocell⟩
  obtain ⟨te, ht, hq⟩ := hbody A outer s (delC L.cl H) vs (ws.map some) _ _ p (hr.deeper _) ⟨p, ⟨hot.1, hot.2⟩, List.mem_singleton.mpr rfl⟩ C1.len q
  have I := inv_startNH (CX := L2.CX P w) (F := L.nf) (f := f) (A := A) (E := fun cls d H' => (∀ a, InC L.cl a → H' a = none) → E cls d (putC L.cl H H')) (tk := s.toks + (ps.zip us).length) (p := p) S hpin2 e1 hl r C1 hns kp
  refine kla_codeExpr (wpAny_mono (ht.run [] _ _ _ _ I hq) (fun v s' hs => ?_) fun e s' hs => hs)
  obtain ⟨v, H', J, rv, q⟩ := hs
  exact ⟨v, H', J.os, J.bare, J.base, J.hok, rv, q⟩
end
/-! ### an exception with an own __init__ -/
structure InitH (P : Program) (w : World) (K : PySem.W.Frag) (mg : Str → Option Value) (base : Heap) (x f : Str) (ps : List Str) : Prop where
  own : OwnX K x f
  ex : ∃ fd, FnH P w K mg base CX0 1 (He.fAd K (x, some "__init__")) fd ps (sp_oinit K x f) ∧ Binds K fd ps []
theorem pmk_whyH {X : Cx} {x f : Str} {ps : List Str} {e : Expr} {ta : TA} {p pos : Pos} (G : InitH X.prog X.w X.K X.mg X.base x f ps) (hr : RoomH 2 X.A) (hc : HotC X) (hg : Gl X x) (hm : X.mg x = some (.ref (He.ga X.K x))) (ha : PA X [e] ta)
    (hdb : (x == ("__debug__" : Str)) = false := by decide) (he : starEach [e] X.env = (false, eval e X.env) :: starEach [] X.env := by rfl) (hpl : (backTo pos (starEach [] X.env)).any (·.1) = false := by rfl) :
    L2N.PMk X (.Call (.Name x p) [e] [] pos) (tWhy (He.ga X.K x) f ta) := by
  intro pins s σ H Q I h
  obtain ⟨fd, F, hb⟩ := G.ex
  refine (pmk5_oexH (CX := CX0) G.own.oex G.own.iC G.own.tI F hr hc hb pass0 hg hm (pa_M ha) hdb he hpl).pmk pins s σ H Q I ⟨_, h, fun vs H1 ⟨v, ev, q⟩ => ?_⟩
  subst ev
  refine ⟨by simp, fun a na => ⟨a, v, rfl, upd_same, fun dx nd ne => ⟨rfl, dx, [(f, v)], upd_same, ?_, ?_, ?_⟩⟩⟩
  · rw [upd_ne ne, upd_same]
  · rw [upd_ne ne] at nd; exact nd
  · rw [upd_ne ne] at nd
    have e : upd (del (upd (upd (upd H1 a (exo a (He.ga X.K x) none)) dx (exd dx [(f, v)])) a (exo a (He.ga X.K x) (some dx))) a) dx (.xd [(f, v)]) = upd H1 dx (.xd [(f, v)]) := funext fun b => by
      by_cases z : b = dx
      · rw [z, upd_same, upd_same]
      · rw [upd_ne z, upd_ne z]
        by_cases y : b = a
        · rw [y, del_same, na]
        · rw [del_ne y, upd_ne y, upd_ne z, upd_ne y]
    rw [e]
    exact q dx nd
theorem pmk_whyHK {P : Program} {w : World} {K : PySem.W.Frag} {mg : Str → Option Value} {base : Heap} {X : Cx} {x f : Str} {ps : List Str} {e : Expr} {ta : TA} {p pos : Pos} (e1 : X.prog = P) (e2 : X.w = w) (e3 : X.K = K) (e4 : X.mg = mg) (e5 : X.base = base) (G : InitH P w K mg base x f ps) (hr : RoomH 2 X.A) (hc : HotC X) (hg : Gl X x) (hm : mg x = some (.ref (He.ga K x))) (ha : PA X [e] ta)
    (hdb : (x == ("__debug__" : Str)) = false := by decide) (he : starEach [e] X.env = (false, eval e X.env) :: starEach [] X.env := by rfl) (hpl : (backTo pos (starEach [] X.env)).any (·.1) = false := by rfl) :
    L2N.PMk X (.Call (.Name x p) [e] [] pos) (tWhy (He.ga K x) f ta) := by
  subst e1 e2 e3 e4 e5
  exact pmk_whyH G hr hc hg hm ha hdb he hpl
end Hk

set_option Elab.async false
set_option linter.all false
set_option maxRecDepth 100000
set_option maxHeartbeats 4000000
/-! Exceptions whose context is known to be none, made and caught where nothing is handled. -/
namespace L2H
open PySem PySem.Spec PyProof.Rows L2 HotX
theorem pmk5_oexN {X : Cx} {CX : CXT} {x : Str} {e : Expr} {es : List Expr} {ta : TA} {p pos : Pos} {C fI : Addr} {k : Nat} {fd : FuncData} {ps : List Str} {sp : Sp} (T : OexC X.K C) (iC : PySem.W.findIn X.K (.ref C) "__init__" = some (some (.ref fI))) (tI : PySem.W.typeIn X.K (.ref fI) = some (.type "function"))
    (F1 : FnOk X.prog X.w X.K X.mg X.base CX k fI fd ps sp) (hr : Room (k + 1) X.A) (hb : Binds X.K fd ps []) (hx : Passes CX X (fun _ _ _ => False)) (hg : Gl X x) (hm : X.mg x = some (.ref C)) (ha : PA X (e :: es) ta)
    (hdb : (x == ("__debug__" : Str)) = false := by decide) (he : starEach (e :: es) X.env = (false, eval e X.env) :: starEach es X.env := by rfl) (hpl : (backTo pos (starEach es X.env)).any (·.1) = false := by rfl) :
    PMk5 X (.Call (.Name x p) (e :: es) [] pos) (tMkO C sp [] ta) := by
  intro pins s σ H Q I h
  obtain ⟨nm, q, N, bs, bm, sn, sub, ab, col, dd, k0, k1, k2, k3, k5, hC, hbm⟩ := T.cls
  refine wpAny_Call_Name_kw (ld_glob I hg hm ?_ hdb)
  refine PySem.W.callWith_K (h₀ := X.base) I.ok.mod.kin T.kC (thn (ha.run pos pins s σ H _ I h) fun us s1 ⟨vs, H1, I1, r1, hz, q1⟩ => ⟨I1.kIn, ?_⟩) he hpl
  show wpAny _ _ (call (.ref C) us) _ _ _
  obtain ⟨hp, g, dr, tk, os⟩ := s1
  have hsz : hp.objs.size ≤ hp.objs.size + 1 := Nat.le_succ _
  have hn : H1 (hp.objs.size + 1) = none := I1.hok.fresh hsz
  have hq := q1 (hp.objs.size + 1) hn
  rw [List.append_nil] at hq
  have kk : ∀ b o, hp.get? b = some o → ((hp.push (PySem.W.kdv_tup us)).push (PySem.HandSPX.excO C hp.objs.size)).get? b = some o := fun b o e => Heap.get?_push_of_some _ (Heap.get?_push_of_some _ e)
  have hget : ((hp.push (PySem.W.kdv_tup us)).push (PySem.HandSPX.excO C hp.objs.size)).get? (hp.objs.size + 1) = some (PySem.HandSPX.excO C hp.objs.size) := by heap_get
  have I2 : Inv X pins σ (upd H1 (hp.objs.size + 1) (exo (hp.objs.size + 1) C none)) ⟨(hp.push (PySem.W.kdv_tup us)).push (PySem.HandSPX.excO C hp.objs.size), g, dr, tk, os⟩ :=
    I1.laid (t' := tk) (a := hp.objs.size + 1) (o := exo (hp.objs.size + 1) C none) (h' := (hp.push (PySem.W.kdv_tup us)).push (PySem.HandSPX.excO C hp.objs.size)) kk hsz (exo_ok hget)
  have r2 : Vals (V.ref (hp.objs.size + 1) :: vs) (Value.ref (hp.objs.size + 1) :: us) := .cons rfl r1
  have hl : (Value.ref (hp.objs.size + 1) :: us ++ []).length = ps.length := by
    have e := r2.length
    rw [F1.len _ _ _ _ hq] at e
    rw [List.append_nil]
    exact e.symm
  have hus : us.length ≤ sizeLine := by
    rw [← Paired.length r1, sizeLine_eq]
    omega
  have b2 := hb _ (Value.ref (hp.objs.size + 1) :: us) I2.kIn hl
  rw [List.append_nil] at b2
  refine wpAny_call (PySem.HandSPX.call_own F.excBase_ValueError (fun Y => PySem.HandSPX.refsVE_contains Y bm hbm) (I1.kIn _ _ hC) (PySem.W.looks_findIn I1.kIn iC) (fun self => PySem.W.bind_fn I1.kIn self tI) hus
    (codeAny_mono (F1.run _ X.stack _ _ ⟨Value.ref (hp.objs.size + 1) :: us, []⟩ (Value.ref (hp.objs.size + 1) :: us) _ _ (fun _ _ _ => False) (hr.make C us []) (I2.env0.make C us []) b2 r2 hq) fun r s' hq' => ?_))
  cases r with
  | error er => exact hx pins σ _ _ er s' I2 hq'
  | ok fl =>
    cases fl with
    | ret u =>
      obtain ⟨v, H2, os2, bare2, un2, hok2, rv, ev, d, fs, ea, ed, hd1, q2⟩ := hq'
      subst ev
      obtain ⟨h2, g2, d2, t2, os'⟩ := s'
      obtain ⟨t0, G, J, kG, ge, hoe, na⟩ := mk_end0 (d2 := d2) (t2 := t2) I1 hsz kk un2 hok2 os2 bare2 ea ed hd1
      refine ⟨rv, ⟨hp.objs.size + 1, _, _, ⟨G, g2, d2, t2, os'⟩, _, .ref C, some d, rfl, J, kG, ge, hoe, ⟨rfl, rfl, fun vs hv => ?_⟩, rfl, rfl, na, rfl, bare2, raises_own T.exC T.tyC, q2⟩, fun a oe vs ea2 hg2 hd2 => ?_⟩
      · cases hv
        rfl
      · cases ea2
        have hg3 : h2.get? (hp.objs.size + 1) = some oe := hg2
        rw [hoe] at hg3
        cases hg3
        cases hd2
        show (4 : Nat) < 6
        decide
    | next => exact False.elim hq'
    | brk => exact False.elim hq'
    | cont => exact False.elim hq'
end L2H
namespace Hk
open PySem PySem.Spec PySem.W PySem.Calls PyProof.Rows L2 L2H HotX LamX NdefX
theorem pmk_whyN {X : Cx} {x f : Str} {ps : List Str} {e : Expr} {ta : TA} {p pos : Pos} (G : InitG X.prog X.w X.K X.mg X.base x f ps) (hr : Room 2 X.A) (hg : Gl X x) (hm : X.mg x = some (.ref (He.ga X.K x))) (ha : PA X [e] ta)
    (hdb : (x == ("__debug__" : Str)) = false := by decide) (he : starEach [e] X.env = (false, eval e X.env) :: starEach [] X.env := by rfl) (hpl : (backTo pos (starEach [] X.env)).any (·.1) = false := by rfl) :
    L2N.PMk X (.Call (.Name x p) [e] [] pos) (tWhy (He.ga X.K x) f ta) := by
  intro pins s σ H Q I h
  obtain ⟨fd, F, hb⟩ := G.ex
  refine (pmk5_oexN (CX := CX0) G.own.oex G.own.iC G.own.tI F hr hb pass0 hg hm (pa_M ha) hdb he hpl).pmk pins s σ H Q I ⟨_, h, fun vs H1 ⟨v, ev, q⟩ => ?_⟩
  subst ev
  refine ⟨by simp, fun a na => ⟨a, v, rfl, upd_same, fun dx nd ne => ⟨rfl, dx, [(f, v)], upd_same, ?_, ?_, ?_⟩⟩⟩
  · rw [upd_ne ne, upd_same]
  · rw [upd_ne ne] at nd; exact nd
  · rw [upd_ne ne] at nd
    have e : upd (del (upd (upd (upd H1 a (exo a (He.ga X.K x) none)) dx (exd dx [(f, v)])) a (exo a (He.ga X.K x) (some dx))) a) dx (.xd [(f, v)]) = upd H1 dx (.xd [(f, v)]) := funext fun b => by
      by_cases z : b = dx
      · rw [z, upd_same, upd_same]
      · rw [upd_ne z, upd_ne z]
        by_cases y : b = a
        · rw [y, del_same, na]
        · rw [del_ne y, upd_ne y, upd_ne z, upd_ne y]
    rw [e]
    exact q dx nd
theorem pmk_whyNK {P : Program} {w : World} {K : PySem.W.Frag} {mg : Str → Option Value} {base : Heap} {X : Cx} {x f : Str} {ps : List Str} {e : Expr} {ta : TA} {p pos : Pos} (e1 : X.prog = P) (e2 : X.w = w) (e3 : X.K = K) (e4 : X.mg = mg) (e5 : X.base = base) (G : InitG P w K mg base x f ps) (hr : Room 2 X.A) (hg : Gl X x) (hm : mg x = some (.ref (He.ga K x))) (ha : PA X [e] ta)
    (hdb : (x == ("__debug__" : Str)) = false := by decide) (he : starEach [e] X.env = (false, eval e X.env) :: starEach [] X.env := by rfl) (hpl : (backTo pos (starEach [] X.env)).any (·.1) = false := by rfl) :
    L2N.PMk X (.Call (.Name x p) [e] [] pos) (tWhy (He.ga K x) f ta) := by
  subst e1 e2 e3 e4 e5
  exact pmk_whyN G hr hg hm ha hdb he hpl
section
variable {X : Cx} {x n : Str} {c : Value} {i : Nat} {body suite : List Stmt} {b0 : Stmt} {np pos pos2 : Pos} {tb : WX → TS} {ts : Addr → Value → Option Addr → TS} {hds : List ExceptHandler}
theorem ps_try_as1N (h1 : X.stack = X.env :: X.outer) (h2 : X.env.frame = some X.env.locals) (hN : X.N.Nodup) (hi : X.N[i]? = some n) (hl : X.env.kindOf n = some .local) (hc : Names X x c)
    (hb : ∀ (W : WX) (pn : List (Addr × Obj)) (xe : Value → Shared → Prop), L2N.Takes (X.tr pn xe) W → PassesOwn (model X.prog X.w) X.A X.env xe → PSs (X.tr pn xe) body (tb W))
    (hsu : ∀ (a : Addr) (oe : Obj) (cls : Value) (d : Option Addr) (pn : List (Addr × Obj)), L2N.Zn cls d oe → (∃ vs, oe.data = .fields vs) → PSs (X.suite a ((a, oe) :: pn)) (b0 :: suite) (ts a cls d)) :
    PS X (.Try body (.ExceptHandler (some (.Name x np)) (some n) (b0 :: suite) pos2 :: hds) [] [] pos) (fun D σ H => tb (wAs1 X.K c i ts D) D σ H) := by
  refine ⟨fun pins s σ H D I h => ?_⟩
  have ok := I.ok
  have hfr : X.A.frames = some (X.env :: X.outer) := by rw [ok.frames, h1]
  refine wpAny_Try_except ?_
  refine wpAny_mono ((hb (wAs1 X.K c i ts D) (X.pn ++ pins) (fun e sa => wpAny (model X.prog X.w) X.A (noteFrame e X.env) (fun _ sb => wpAny (model X.prog X.w) X.A (setFlight e none) (fun _ sc =>
    wpAny (model X.prog X.w) X.A (handleBy e X.env (.ExceptHandler (some (.Name x np)) (some n) (b0 :: suite) pos2 :: hds)) (SP X pins D) X.xe sc) X.xe sb) X.xe sa) (fun u s1 xx => ?_) PassesOwn.looking).run [] s σ H D (I.toTry _) h) (fun f s1 r => ?_) (fun e s1 he => he)
  · obtain ⟨a, B, sI, pinz, σ1, H1, cls, d, rfl, J0, nb, up, sky, na, os, ag, hm1, hyes⟩ := xx
    have J : Inv X pins σ1 H1 sI := J0.ofTry ok
    have sky2 : Sky B (X.env :: X.outer) a (L2N.Zn cls d) X.env.locals s1.heap := by rw [← h1]; exact sky
    show wpAny (model X.prog X.w) X.A (noteFrame (.ref a) X.env) _ _ _
    refine L2N.Sky.land L2N.Zn.steady hfr h2 sky2 fun g3 fl3 up3 => ?_
    have J3 : Inv X pins σ1 H1 { s1 with heap := g3 } := J.landed nb fl3.1 (up.trans up3) os ag
    obtain ⟨o3, vs3, at3, hz3, hd3⟩ := fl3.there
    have nfr : a ∉ frs (X.env :: X.outer) := fun hm => by
      obtain ⟨_, o', e', hnf⟩ := fl3.2.2.1.mem hm
      rw [at3] at e'; cases e'
      exact hnf _ hd3
    have nL : a ≠ X.env.locals := fun z => nfr (List.mem_filterMap.mpr ⟨X.env, List.mem_cons_self, by rw [h2, z]⟩)
    have nF : a ∉ X.fs := fun hm => by
      obtain ⟨e, he, q⟩ := List.mem_filterMap.mp hm
      exact nfr (List.mem_filterMap.mpr ⟨e, List.mem_cons_of_mem _ he, q⟩)
    have S3 := J3.suite at3 hd3 na nL nF
    refine wpAny_handleBy_cons (codeAny_handlers_test ?_) (by intro q; cases q)
    have LT : PySem.W.Looks (model X.prog X.w) g3 (typeOf (.ref a)) cls := fun A Q E s k q => wpAny_typeOf_ref (k _ _ at3) (by rw [hz3.1]; exact q)
    have LM := PySem.W.exm_one (M := model X.prog X.w) (J3.kIn) LT hm1
    have look : ∀ {Q : Value → Shared → Prop} {E : Value → Shared → Prop}, Q c { s1 with heap := g3 } → wpAny (model X.prog X.w) (X.A.mark (some (.ref a))) (eval (.Name x np) X.env) Q E { s1 with heap := g3 } := fun {Q E} q => by
      obtain ⟨hg, hdbg, hm | ⟨hm, hv, hnn⟩⟩ := hc
      · exact ld_glob (X := X.suite a ((a, o3) :: (X.pn ++ pins))) S3 hg hm q hdbg
      · exact ld_blt (X := X.suite a ((a, o3) :: (X.pn ++ pins))) S3 hg hm hv q hnn hdbg
    refine look (LM.here (codeAny_handlers_suite_as (HandSPX.lands_againZ fl3 fun g4 fl4 up4 => ?_)))
    have J4 : Inv X pins σ1 H1 { s1 with heap := g4 } := J.landed nb fl4.1 ((up.trans up3).trans up4) os ag
    obtain ⟨o4, vs4, at4, hz4, hd4⟩ := fl4.there
    refine store_ok (X := X.suite a ((a, o4) :: (X.pn ++ pins))) (v := .ref a) (J4.suite at4 hd4 na nL nF) hN hi (.inl hl) rfl (fun s5 S5 => ?_) (.inr hl)
    refine wpAny_mono ((hsu a o4 cls d (X.pn ++ pins) hz4 ⟨_, hd4⟩).run [] s5 _ H1 _ S5 (hyes a na)) (fun f s6 r => ?_) (fun _ _ z => False.elim z)
    have fin : ∀ {σ6 : L2.St} {H6 : Hp} {Q : Shared → Prop}, Inv (X.suite a ((a, o4) :: (X.pn ++ pins))) [] σ6 H6 s6 → (∀ s7, Inv X pins (σ6.set i none) H6 s7 → Q s7) →
        wpAny (model X.prog X.w) X.A (do bindName X.env n .none; unbindBehindTheSuite X.env n pos2) (fun _ s7 => Q s7) X.xe s6 := fun S6 hq => gone_ok (S6.unsuite ok) hN hi hl hq
    cases f with
    | ret u =>
      obtain ⟨v6, σ6, H6, S6, r6, q6⟩ := r
      exact fin S6 fun s7 J7 => ⟨_, _, _, J7, r6, q6⟩
    | next => exact r.elim fun σ6 z => z.elim fun H6 y => fin y.1 fun s7 J7 => ⟨_, _, J7, y.2⟩
    | brk => exact r.elim fun σ6 z => z.elim fun H6 y => fin y.1 fun s7 J7 => ⟨_, _, J7, y.2⟩
    | cont => exact r.elim fun σ6 z => z.elim fun H6 y => fin y.1 fun s7 J7 => ⟨_, _, J7, y.2⟩
  · cases f with
    | next => exact r.elim fun σ6 z => z.elim fun H6 y => wpAny_execs_nil ⟨σ6, H6, y.1.ofTry ok, y.2⟩
    | brk => exact r.elim fun σ6 z => z.elim fun H6 y => ⟨σ6, H6, y.1.ofTry ok, y.2⟩
    | cont => exact r.elim fun σ6 z => z.elim fun H6 y => ⟨σ6, H6, y.1.ofTry ok, y.2⟩
    | ret u =>
      obtain ⟨v, σ6, H6, J6, rv, q⟩ := r
      exact ⟨v, σ6, H6, J6.ofTry ok, rv, q⟩
end
/-- in an except suite the caught exception is the one that is handled -/
theorem hotS {X : Cx} {a : Addr} {oe : Obj} {cls : Value} {d : Option Addr} {pn : List (Addr × Obj)} (hz : L2N.Zn cls d oe) (hf : ∃ vs, oe.data = .fields vs) : HotC (X.suite a ((a, oe) :: pn)) := by
  obtain ⟨vs, hd⟩ := hf
  exact ⟨(a, oe), ⟨rfl, vs, hd, hz.2.2 vs hd⟩, List.mem_cons_self ..⟩
theorem roomS {X : Cx} {a : Addr} {pn : List (Addr × Obj)} {k : Nat} (hr : Room k X.A) : RoomH k (X.suite a pn).A := ⟨hr.dp, hr.un⟩
end Hk
namespace Hk
open PySem PySem.Spec PyProof.Rows L2 L2H
/-- .. within a try's body -/
theorem hotT {X : Cx} {pn : List (Addr × Obj)} {xe : Value → Shared → Prop} (h : HotC X) (hp : ∀ q ∈ X.pn, q ∈ pn) : HotC (X.tr pn xe) := by
  obtain ⟨p, h1, h2⟩ := h
  exact ⟨p, ⟨h1.1, h1.2⟩, hp p h2⟩
end Hk
theorem L2H.RoomH.units {k : Nat} {A : PySem.Around} (r : L2H.RoomH k A) : A.units + 64 < PySem.cLine := by have := r.un; omega
namespace Hk
open PySem PySem.Spec PyProof.Rows L2 L2H
theorem GlobH.weak {P : Program} {w : World} {K : PySem.W.Frag} {mg : Str → Option Value} {base : Heap} {k : Nat} {x : Str} {ps : List Str} {dvs : List V} {sp : Sp} (G : GlobH P w K mg base CX0 k x ps dvs sp) : GlobH P w K mg base (L2.CX P w) k x ps dvs sp := by
  obtain ⟨f, fd, ds, F, r⟩ := G.ex
  exact ⟨f, fd, ds, ⟨F.len, fun A outer s H args us vs Q E p hr hot hpin e0 hb r h => codeAny_mono (F.run A outer s H args us vs Q E p hr hot hpin e0 hb r h) fun _ _ q => CR.weak q⟩, r⟩
end Hk
namespace Hk
open PySem PySem.Spec PySem.W PySem.Calls PyProof.Rows L2 L2H HotX LamX NdefX
section
variable {X : Cx} {k : Nat} {x : Str} {ps : List Str} {dvs : List V} {sp : Sp} {E : XK} {q pos : Pos} {e : Expr} {es : List Expr} {t : TA} {a : Addr} {oe : Obj} {pn : List (Addr × Obj)}
/-- .. in an except suite -/
theorem pe_callXHS (G : GlobH X.prog X.w X.K X.mg X.base (L2.CX X.prog X.w) k x ps dvs sp) (hr : Room k X.A) (hc : HotC (X.suite a ((a, oe) :: pn))) (hg : Gl X x) (hx : Passes (L2.CX X.prog X.w) (X.suite a ((a, oe) :: pn)) E) (nd : X.N.Nodup) (hfn : ∀ y c, X.env.cells.lookup y = some c → X.fn y = true) (ha : PA (X.suite a ((a, oe) :: pn)) (e :: es) t)
    (hdb : (x == ("__debug__" : Str)) = false := by decide) (he : starEach (e :: es) X.env = (false, eval e X.env) :: starEach es X.env := by rfl) (hpl : (backTo pos (starEach es X.env)).any (·.1) = false := by rfl) :
    PE (X.suite a ((a, oe) :: pn)) (.Call (.Name x q) (e :: es) [] pos) (tCallX X.env.cells X.env.scope X.N sp dvs E t) :=
  pe_callXH (X := X.suite a ((a, oe) :: pn)) G (roomS hr) hc hg hx nd hfn ha hdb he hpl
theorem pe_lamS {Ts : List Addr} {nm : Nat → Nat → Str} {c P : Addr} {params : Arguments} {body : Expr} {scope : Scope} (TB : TabB X.base X.mg c P) (hcode : X.env.code = .ref c) (hm : P ∈ Ts) (hn : nm pos.line pos.col = X.env.qual ++ "<lambda>") (hfree : ∀ y ∈ scope.names, y.2 = .free → X.env.scope.names.lookup y.1 = some .cell ∨ X.env.scope.names.lookup y.1 = some .free)
    (hdef : defaultsOf params X.env = ([], [])) : PE (X.suite a ((a, oe) :: pn)) (.Lambda params body scope pos) (tLam1 Ts nm fun c' => ⟨X.env.qual ++ "<lambda>", params, body, scope, cloFrom X.env.cells scope.names [], c', none⟩) :=
  pe_lam (X := X.suite a ((a, oe) :: pn)) TB hcode hm hn hfree hdef
end
end Hk

set_option Elab.async false
set_option linter.all false
set_option maxRecDepth 100000
set_option maxHeartbeats 4000000
namespace Hk
open PySem PySem.Spec PyProof.Rows L2
def topS (i : Nat) : Stmt := PySem.Challenge.pw_hearken_k19_texts_that_tell_no_rows.main.body.getD i (.Pass ⟨0, 0, 0, 0⟩)
abbrev s_is_word : Stmt := topS 19
abbrev N_is_word : List Str := ["part", "sign"]
abbrev p_is_word : List Str := ["part"]
theorem sc_is_word : FnScope N_is_word p_is_word (defScope s_is_word) := ⟨rfl, rfl, rfl, by decide +kernel, rfl, by decide +kernel, by decide +kernel⟩
def d_is_word : He.DefD := ⟨("is_word", none), "is_word", "is_word", defArgs s_is_word, defBody s_is_word, defScope s_is_word, [], []⟩
abbrev F_is_word (K : PySem.W.Frag) (f : Addr) (fd : FuncData) : Prop := FunD K "is_word" "is_word" (defArgs s_is_word) (defBody s_is_word) (defScope s_is_word) [] [] f fd
abbrev s_is_pattern : Stmt := topS 20
abbrev N_is_pattern : List Str := ["text", "words", "word"]
abbrev p_is_pattern : List Str := ["text"]
theorem sc_is_pattern : FnScope N_is_pattern p_is_pattern (defScope s_is_pattern) := ⟨rfl, rfl, rfl, by decide +kernel, rfl, by decide +kernel, by decide +kernel⟩
def d_is_pattern : He.DefD := ⟨("is_pattern", none), "is_pattern", "is_pattern", defArgs s_is_pattern, defBody s_is_pattern, defScope s_is_pattern, [], []⟩
abbrev F_is_pattern (K : PySem.W.Frag) (f : Addr) (fd : FuncData) : Prop := FunD K "is_pattern" "is_pattern" (defArgs s_is_pattern) (defBody s_is_pattern) (defScope s_is_pattern) [] [] f fd
abbrev s_law_mix : Stmt := topS 27
abbrev N_law_mix : List Str := ["_law_script", "_law_seed", "_law_mixed", "_law_cell"]
abbrev p_law_mix : List Str := ["_law_script", "_law_seed"]
theorem sc_law_mix : FnScope N_law_mix p_law_mix (defScope s_law_mix) := ⟨rfl, rfl, rfl, by decide +kernel, rfl, by decide +kernel, by decide +kernel⟩
def d_law_mix : He.DefD := ⟨("_law_mix", none), "_law_mix", "_law_mix", defArgs s_law_mix, defBody s_law_mix, defScope s_law_mix, [], []⟩
abbrev F_law_mix (K : PySem.W.Frag) (f : Addr) (fd : FuncData) : Prop := FunD K "_law_mix" "_law_mix" (defArgs s_law_mix) (defBody s_law_mix) (defScope s_law_mix) [] [] f fd
abbrev s_law_next : Stmt := topS 28
abbrev N_law_next : List Str := ["_law_h", "_law_many", "_law_cell"]
abbrev p_law_next : List Str := ["_law_h", "_law_many"]
theorem sc_law_next : FnScope N_law_next p_law_next (defScope s_law_next) := ⟨rfl, rfl, rfl, by decide +kernel, rfl, by decide +kernel, by decide +kernel⟩
def d_law_next : He.DefD := ⟨("_law_next", none), "_law_next", "_law_next", defArgs s_law_next, defBody s_law_next, defScope s_law_next, [], []⟩
abbrev F_law_next (K : PySem.W.Frag) (f : Addr) (fd : FuncData) : Prop := FunD K "_law_next" "_law_next" (defArgs s_law_next) (defBody s_law_next) (defScope s_law_next) [] [] f fd
abbrev s_rank_of : Stmt := topS 23
abbrev N_rank_of : List Str := ["word", "figure"]
abbrev p_rank_of : List Str := ["word"]
theorem sc_rank_of : FnScope N_rank_of p_rank_of (defScope s_rank_of) := ⟨rfl, rfl, rfl, by decide +kernel, rfl, by decide +kernel, by decide +kernel⟩
def d_rank_of : He.DefD := ⟨("rank_of", none), "rank_of", "rank_of", defArgs s_rank_of, defBody s_rank_of, defScope s_rank_of, [], []⟩
abbrev F_rank_of (K : PySem.W.Frag) (f : Addr) (fd : FuncData) : Prop := FunD K "rank_of" "rank_of" (defArgs s_rank_of) (defBody s_rank_of) (defScope s_rank_of) [] [] f fd
abbrev s_row_of : Stmt := topS 24
abbrev N_row_of : List Str := ["words", "rest", "once"]
abbrev p_row_of : List Str := ["words"]
theorem sc_row_of : FnScope N_row_of p_row_of (defScope s_row_of) := ⟨rfl, rfl, rfl, by decide +kernel, rfl, by decide +kernel, by decide +kernel⟩
def d_row_of : He.DefD := ⟨("row_of", none), "row_of", "row_of", defArgs s_row_of, defBody s_row_of, defScope s_row_of, [], []⟩
abbrev F_row_of (K : PySem.W.Frag) (f : Addr) (fd : FuncData) : Prop := FunD K "row_of" "row_of" (defArgs s_row_of) (defBody s_row_of) (defScope s_row_of) [] [] f fd
abbrev s_BadText___init__ : Stmt := inClass (topS 12) 0
abbrev N_BadText___init__ : List Str := ["self", "row"]
abbrev p_BadText___init__ : List Str := ["self", "row"]
theorem sc_BadText___init__ : FnScope N_BadText___init__ p_BadText___init__ (defScope s_BadText___init__) := ⟨rfl, rfl, rfl, by decide +kernel, rfl, by decide +kernel, by decide +kernel⟩
def d_BadText___init__ : He.DefD := ⟨("BadText", some "__init__"), "__init__", "BadText.__init__", defArgs s_BadText___init__, defBody s_BadText___init__, defScope s_BadText___init__, [], []⟩
abbrev F_BadText___init__ (K : PySem.W.Frag) (f : Addr) (fd : FuncData) : Prop := FunD K "__init__" "BadText.__init__" (defArgs s_BadText___init__) (defBody s_BadText___init__) (defScope s_BadText___init__) [] [] f fd
abbrev s_read : Stmt := topS 25
abbrev N_read : List Str := ["text", "found", "number", "line", "row"]
abbrev p_read : List Str := ["text"]
theorem sc_read : FnScope N_read p_read (defScope s_read) := ⟨rfl, rfl, rfl, by decide +kernel, rfl, by decide +kernel, by decide +kernel⟩
def d_read : He.DefD := ⟨("read", none), "read", "read", defArgs s_read, defBody s_read, defScope s_read, [], []⟩
abbrev F_read (K : PySem.W.Frag) (f : Addr) (fd : FuncData) : Prop := FunD K "read" "read" (defArgs s_read) (defBody s_read) (defScope s_read) [] [] f fd
abbrev s_law_kind : Stmt := topS 30
abbrev N_law_kind : List Str := ["_law_call", "e", "_law_kinds", "_law_words"]
abbrev p_law_kind : List Str := ["_law_call"]
theorem sc_law_kind : FnScope N_law_kind p_law_kind (defScope s_law_kind) := ⟨rfl, rfl, rfl, by decide +kernel, rfl, by decide +kernel, by decide +kernel⟩
def d_law_kind : He.DefD := ⟨("_law_kind", none), "_law_kind", "_law_kind", defArgs s_law_kind, defBody s_law_kind, defScope s_law_kind, [], []⟩
abbrev F_law_kind (K : PySem.W.Frag) (f : Addr) (fd : FuncData) : Prop := FunD K "_law_kind" "_law_kind" (defArgs s_law_kind) (defBody s_law_kind) (defScope s_law_kind) [] [] f fd
abbrev s_law_refused : Stmt := topS 36
abbrev N_law_refused : List Str := ["_law_text_here", "e"]
abbrev p_law_refused : List Str := ["_law_text_here"]
theorem sc_law_refused : FnScope N_law_refused p_law_refused (defScope s_law_refused) := ⟨rfl, rfl, rfl, by decide +kernel, rfl, by decide +kernel, by decide +kernel⟩
def d_law_refused : He.DefD := ⟨("_law_refused", none), "_law_refused", "_law_refused", defArgs s_law_refused, defBody s_law_refused, defScope s_law_refused, [], []⟩
abbrev F_law_refused (K : PySem.W.Frag) (f : Addr) (fd : FuncData) : Prop := FunD K "_law_refused" "_law_refused" (defArgs s_law_refused) (defBody s_law_refused) (defScope s_law_refused) [] [] f fd
abbrev s_law_alike : Stmt := topS 29
abbrev N_law_alike : List Str := ["_law_found", "_law_due", "_law_k"]
abbrev p_law_alike : List Str := ["_law_found", "_law_due"]
theorem sc_law_alike : FnScope N_law_alike p_law_alike (defScope s_law_alike) := ⟨rfl, rfl, rfl, by decide +kernel, rfl, by decide +kernel, by decide +kernel⟩
def d_law_alike : He.DefD := ⟨("_law_alike", none), "_law_alike", "_law_alike", defArgs s_law_alike, defBody s_law_alike, defScope s_law_alike, [], []⟩
abbrev F_law_alike (K : PySem.W.Frag) (f : Addr) (fd : FuncData) : Prop := FunD K "_law_alike" "_law_alike" (defArgs s_law_alike) (defBody s_law_alike) (defScope s_law_alike) [] [] f fd
abbrev s_law_text : Stmt := topS 33
abbrev N_law_text : List Str := ["_law_row_here", "_law_pattern", "_law_name", "_law_rank", "_law_once", "_law_group"]
abbrev p_law_text : List Str := ["_law_row_here"]
theorem sc_law_text : FnScope N_law_text p_law_text (defScope s_law_text) := ⟨rfl, rfl, rfl, by decide +kernel, rfl, by decide +kernel, by decide +kernel⟩
def d_law_text : He.DefD := ⟨("_law_text", none), "_law_text", "_law_text", defArgs s_law_text, defBody s_law_text, defScope s_law_text, [], []⟩
abbrev F_law_text (K : PySem.W.Frag) (f : Addr) (fd : FuncData) : Prop := FunD K "_law_text" "_law_text" (defArgs s_law_text) (defBody s_law_text) (defScope s_law_text) [] [] f fd
abbrev s_law_word : Stmt := topS 31
abbrev N_law_word : List Str := ["_law_h", "_law_k"]
abbrev p_law_word : List Str := ["_law_h"]
theorem sc_law_word : FnScope N_law_word p_law_word (defScope s_law_word) := ⟨rfl, rfl, rfl, by decide +kernel, rfl, by decide +kernel, by decide +kernel⟩
def d_law_word : He.DefD := ⟨("_law_word", none), "_law_word", "_law_word", defArgs s_law_word, defBody s_law_word, defScope s_law_word, [], []⟩
abbrev F_law_word (K : PySem.W.Frag) (f : Addr) (fd : FuncData) : Prop := FunD K "_law_word" "_law_word" (defArgs s_law_word) (defBody s_law_word) (defScope s_law_word) [] [] f fd
abbrev s_law_row : Stmt := topS 32
abbrev N_law_row : List Str := ["_law_h", "_law_words", "_law_k", "_law_pattern", "_law_group"]
abbrev p_law_row : List Str := ["_law_h"]
theorem sc_law_row : FnScope N_law_row p_law_row (defScope s_law_row) := ⟨rfl, rfl, rfl, by decide +kernel, rfl, by decide +kernel, by decide +kernel⟩
def d_law_row : He.DefD := ⟨("_law_row", none), "_law_row", "_law_row", defArgs s_law_row, defBody s_law_row, defScope s_law_row, [], []⟩
abbrev F_law_row (K : PySem.W.Frag) (f : Addr) (fd : FuncData) : Prop := FunD K "_law_row" "_law_row" (defArgs s_law_row) (defBody s_law_row) (defScope s_law_row) [] [] f fd
abbrev s_law_is_word : Stmt := topS 34
abbrev N_law_is_word : List Str := ["_law_word_here", "_law_sign"]
abbrev p_law_is_word : List Str := ["_law_word_here"]
theorem sc_law_is_word : FnScope N_law_is_word p_law_is_word (defScope s_law_is_word) := ⟨rfl, rfl, rfl, by decide +kernel, rfl, by decide +kernel, by decide +kernel⟩
def d_law_is_word : He.DefD := ⟨("_law_is_word", none), "_law_is_word", "_law_is_word", defArgs s_law_is_word, defBody s_law_is_word, defScope s_law_is_word, [], []⟩
abbrev F_law_is_word (K : PySem.W.Frag) (f : Addr) (fd : FuncData) : Prop := FunD K "_law_is_word" "_law_is_word" (defArgs s_law_is_word) (defBody s_law_is_word) (defScope s_law_is_word) [] [] f fd
abbrev s_law_is_row : Stmt := topS 35
abbrev N_law_is_row : List Str := ["_law_text_here", "_law_words", "_law_parts", "_law_part", "_law_rank", "_law_rest"]
abbrev p_law_is_row : List Str := ["_law_text_here"]
theorem sc_law_is_row : FnScope N_law_is_row p_law_is_row (defScope s_law_is_row) := ⟨rfl, rfl, rfl, by decide +kernel, rfl, by decide +kernel, by decide +kernel⟩
def d_law_is_row : He.DefD := ⟨("_law_is_row", none), "_law_is_row", "_law_is_row", defArgs s_law_is_row, defBody s_law_is_row, defScope s_law_is_row, [], []⟩
abbrev F_law_is_row (K : PySem.W.Frag) (f : Addr) (fd : FuncData) : Prop := FunD K "_law_is_row" "_law_is_row" (defArgs s_law_is_row) (defBody s_law_is_row) (defScope s_law_is_row) [] [] f fd
abbrev s_law : Stmt := topS 37
abbrev N_law : List Str := ["_law_script", "_law_h", "_law_odd", "_law_turn", "_law_rows", "_law_k", "_law_at", "_law_some", "_law_text_here", "_law_spot", "_law_bent", "_law_texts", "_law_one", "_law_lines", "_law_bad"]
abbrev p_law : List Str := ["_law_script"]
theorem sc_law : FnScope N_law p_law (defScope s_law) := ⟨rfl, rfl, rfl, by decide +kernel, rfl, by decide +kernel, by decide +kernel⟩
def d_law : He.DefD := ⟨("law", none), "law", "law", defArgs s_law, defBody s_law, defScope s_law, [], []⟩
abbrev F_law (K : PySem.W.Frag) (f : Addr) (fd : FuncData) : Prop := FunD K "law" "law" (defArgs s_law) (defBody s_law) (defScope s_law) [] [] f fd
def fa : List He.Fa := [.free "len", .int "MOST_LETTERS" 4, .free "all", .str "LETTERS" "abcdefghijklmnopqrstuvwxyz", .str "REST" "#", .int "MOST_WORDS" 6, .str "ANY" "*", .free "list", .free "max", .str "FIGURES" "0123456789", .free "int", .glo "HearError", .free "enumerate", .glo "BadText", .free "isinstance", .glo "BadLine", .glo "BadPattern", .glo "BadWord", .glo "BadCount", .glo "NoListener", .glo "Busy", .glo "TooDeep", .glo "NotHeld", .glo "NoWork", .glo "Halt", .free "ValueError", .free "tuple", .free "range", .free "str", .free "bool", .glo "is_word", .glo "is_pattern", .glo "_law_mix", .glo "_law_next", .glo "rank_of", .glo "row_of", .glo "read", .glo "_law_kind", .glo "_law_refused", .glo "_law_alike", .glo "_law_text", .glo "_law_word", .glo "_law_row", .glo "_law_is_word", .glo "_law_is_row", .glo "law"]
def fn : List He.DefD := [d_is_word, d_is_pattern, d_law_mix, d_law_next, d_rank_of, d_row_of, d_BadText___init__, d_read, d_law_kind, d_law_refused, d_law_alike, d_law_text, d_law_word, d_law_row, d_law_is_word, d_law_is_row, d_law]
def exB (K : PySem.W.Frag) : Bool := inhB K "HearError" && oexB K "BadText" "row" && decide (PySem.W.exmOne K (.ref (He.ga K "BadText")) (.ref (He.ga K "BadText")) = some true) && refB K "BadText" && true
def Tx (K : PySem.W.Frag) (mg : Str → Option Value) : Prop := ∃ h : Heap, K.In h ∧ h.Ns mainGlobals mg ∧ He.SaysD fa fn K ∧ exB K = true
section
variable {K : PySem.W.Frag} {mg : Str → Option Value}
theorem Tx.b_len (T : Tx K mg) : mg "len" = none := by obtain ⟨h, X, G, c, _⟩ := T; exact He.free_ok X G (c.fact 0 (f := .free "len") rfl)
theorem Tx.c_MOST_LETTERS (T : Tx K mg) : ∃ t, mg "MOST_LETTERS" = some (.int 4 t) := by obtain ⟨h, X, G, c, _⟩ := T; exact He.int_ok X G (c.fact 1 (f := .int "MOST_LETTERS" 4) rfl)
theorem Tx.b_all (T : Tx K mg) : mg "all" = none := by obtain ⟨h, X, G, c, _⟩ := T; exact He.free_ok X G (c.fact 2 (f := .free "all") rfl)
theorem Tx.c_LETTERS (T : Tx K mg) : ∃ t, mg "LETTERS" = some (.str "abcdefghijklmnopqrstuvwxyz" t) := by obtain ⟨h, X, G, c, _⟩ := T; exact He.str_ok X G (c.fact 3 (f := .str "LETTERS" "abcdefghijklmnopqrstuvwxyz") rfl)
theorem Tx.c_REST (T : Tx K mg) : ∃ t, mg "REST" = some (.str "#" t) := by obtain ⟨h, X, G, c, _⟩ := T; exact He.str_ok X G (c.fact 4 (f := .str "REST" "#") rfl)
theorem Tx.c_MOST_WORDS (T : Tx K mg) : ∃ t, mg "MOST_WORDS" = some (.int 6 t) := by obtain ⟨h, X, G, c, _⟩ := T; exact He.int_ok X G (c.fact 5 (f := .int "MOST_WORDS" 6) rfl)
theorem Tx.c_ANY (T : Tx K mg) : ∃ t, mg "ANY" = some (.str "*" t) := by obtain ⟨h, X, G, c, _⟩ := T; exact He.str_ok X G (c.fact 6 (f := .str "ANY" "*") rfl)
theorem Tx.b_list (T : Tx K mg) : mg "list" = none := by obtain ⟨h, X, G, c, _⟩ := T; exact He.free_ok X G (c.fact 7 (f := .free "list") rfl)
theorem Tx.b_max (T : Tx K mg) : mg "max" = none := by obtain ⟨h, X, G, c, _⟩ := T; exact He.free_ok X G (c.fact 8 (f := .free "max") rfl)
theorem Tx.c_FIGURES (T : Tx K mg) : ∃ t, mg "FIGURES" = some (.str "0123456789" t) := by obtain ⟨h, X, G, c, _⟩ := T; exact He.str_ok X G (c.fact 9 (f := .str "FIGURES" "0123456789") rfl)
theorem Tx.b_int (T : Tx K mg) : mg "int" = none := by obtain ⟨h, X, G, c, _⟩ := T; exact He.free_ok X G (c.fact 10 (f := .free "int") rfl)
theorem Tx.g_HearError (T : Tx K mg) : mg "HearError" = some (.ref (He.ga K "HearError")) := by obtain ⟨h, X, G, c, _⟩ := T; exact He.glo_ok X G (c.fact 11 (f := .glo "HearError") rfl)
theorem Tx.b_enumerate (T : Tx K mg) : mg "enumerate" = none := by obtain ⟨h, X, G, c, _⟩ := T; exact He.free_ok X G (c.fact 12 (f := .free "enumerate") rfl)
theorem Tx.g_BadText (T : Tx K mg) : mg "BadText" = some (.ref (He.ga K "BadText")) := by obtain ⟨h, X, G, c, _⟩ := T; exact He.glo_ok X G (c.fact 13 (f := .glo "BadText") rfl)
theorem Tx.b_isinstance (T : Tx K mg) : mg "isinstance" = none := by obtain ⟨h, X, G, c, _⟩ := T; exact He.free_ok X G (c.fact 14 (f := .free "isinstance") rfl)
theorem Tx.g_BadLine (T : Tx K mg) : mg "BadLine" = some (.ref (He.ga K "BadLine")) := by obtain ⟨h, X, G, c, _⟩ := T; exact He.glo_ok X G (c.fact 15 (f := .glo "BadLine") rfl)
theorem Tx.g_BadPattern (T : Tx K mg) : mg "BadPattern" = some (.ref (He.ga K "BadPattern")) := by obtain ⟨h, X, G, c, _⟩ := T; exact He.glo_ok X G (c.fact 16 (f := .glo "BadPattern") rfl)
theorem Tx.g_BadWord (T : Tx K mg) : mg "BadWord" = some (.ref (He.ga K "BadWord")) := by obtain ⟨h, X, G, c, _⟩ := T; exact He.glo_ok X G (c.fact 17 (f := .glo "BadWord") rfl)
theorem Tx.g_BadCount (T : Tx K mg) : mg "BadCount" = some (.ref (He.ga K "BadCount")) := by obtain ⟨h, X, G, c, _⟩ := T; exact He.glo_ok X G (c.fact 18 (f := .glo "BadCount") rfl)
theorem Tx.g_NoListener (T : Tx K mg) : mg "NoListener" = some (.ref (He.ga K "NoListener")) := by obtain ⟨h, X, G, c, _⟩ := T; exact He.glo_ok X G (c.fact 19 (f := .glo "NoListener") rfl)
theorem Tx.g_Busy (T : Tx K mg) : mg "Busy" = some (.ref (He.ga K "Busy")) := by obtain ⟨h, X, G, c, _⟩ := T; exact He.glo_ok X G (c.fact 20 (f := .glo "Busy") rfl)
theorem Tx.g_TooDeep (T : Tx K mg) : mg "TooDeep" = some (.ref (He.ga K "TooDeep")) := by obtain ⟨h, X, G, c, _⟩ := T; exact He.glo_ok X G (c.fact 21 (f := .glo "TooDeep") rfl)
theorem Tx.g_NotHeld (T : Tx K mg) : mg "NotHeld" = some (.ref (He.ga K "NotHeld")) := by obtain ⟨h, X, G, c, _⟩ := T; exact He.glo_ok X G (c.fact 22 (f := .glo "NotHeld") rfl)
theorem Tx.g_NoWork (T : Tx K mg) : mg "NoWork" = some (.ref (He.ga K "NoWork")) := by obtain ⟨h, X, G, c, _⟩ := T; exact He.glo_ok X G (c.fact 23 (f := .glo "NoWork") rfl)
theorem Tx.g_Halt (T : Tx K mg) : mg "Halt" = some (.ref (He.ga K "Halt")) := by obtain ⟨h, X, G, c, _⟩ := T; exact He.glo_ok X G (c.fact 24 (f := .glo "Halt") rfl)
theorem Tx.b_ValueError (T : Tx K mg) : mg "ValueError" = none := by obtain ⟨h, X, G, c, _⟩ := T; exact He.free_ok X G (c.fact 25 (f := .free "ValueError") rfl)
theorem Tx.b_tuple (T : Tx K mg) : mg "tuple" = none := by obtain ⟨h, X, G, c, _⟩ := T; exact He.free_ok X G (c.fact 26 (f := .free "tuple") rfl)
theorem Tx.b_range (T : Tx K mg) : mg "range" = none := by obtain ⟨h, X, G, c, _⟩ := T; exact He.free_ok X G (c.fact 27 (f := .free "range") rfl)
theorem Tx.b_str (T : Tx K mg) : mg "str" = none := by obtain ⟨h, X, G, c, _⟩ := T; exact He.free_ok X G (c.fact 28 (f := .free "str") rfl)
theorem Tx.b_bool (T : Tx K mg) : mg "bool" = none := by obtain ⟨h, X, G, c, _⟩ := T; exact He.free_ok X G (c.fact 29 (f := .free "bool") rfl)
theorem Tx.g_is_word (T : Tx K mg) : mg "is_word" = some (.ref (He.ga K "is_word")) := by obtain ⟨h, X, G, c, _⟩ := T; exact He.glo_ok X G (c.fact 30 (f := .glo "is_word") rfl)
theorem Tx.g_is_pattern (T : Tx K mg) : mg "is_pattern" = some (.ref (He.ga K "is_pattern")) := by obtain ⟨h, X, G, c, _⟩ := T; exact He.glo_ok X G (c.fact 31 (f := .glo "is_pattern") rfl)
theorem Tx.g__law_mix (T : Tx K mg) : mg "_law_mix" = some (.ref (He.ga K "_law_mix")) := by obtain ⟨h, X, G, c, _⟩ := T; exact He.glo_ok X G (c.fact 32 (f := .glo "_law_mix") rfl)
theorem Tx.g__law_next (T : Tx K mg) : mg "_law_next" = some (.ref (He.ga K "_law_next")) := by obtain ⟨h, X, G, c, _⟩ := T; exact He.glo_ok X G (c.fact 33 (f := .glo "_law_next") rfl)
theorem Tx.g_rank_of (T : Tx K mg) : mg "rank_of" = some (.ref (He.ga K "rank_of")) := by obtain ⟨h, X, G, c, _⟩ := T; exact He.glo_ok X G (c.fact 34 (f := .glo "rank_of") rfl)
theorem Tx.g_row_of (T : Tx K mg) : mg "row_of" = some (.ref (He.ga K "row_of")) := by obtain ⟨h, X, G, c, _⟩ := T; exact He.glo_ok X G (c.fact 35 (f := .glo "row_of") rfl)
theorem Tx.g_read (T : Tx K mg) : mg "read" = some (.ref (He.ga K "read")) := by obtain ⟨h, X, G, c, _⟩ := T; exact He.glo_ok X G (c.fact 36 (f := .glo "read") rfl)
theorem Tx.g__law_kind (T : Tx K mg) : mg "_law_kind" = some (.ref (He.ga K "_law_kind")) := by obtain ⟨h, X, G, c, _⟩ := T; exact He.glo_ok X G (c.fact 37 (f := .glo "_law_kind") rfl)
theorem Tx.g__law_refused (T : Tx K mg) : mg "_law_refused" = some (.ref (He.ga K "_law_refused")) := by obtain ⟨h, X, G, c, _⟩ := T; exact He.glo_ok X G (c.fact 38 (f := .glo "_law_refused") rfl)
theorem Tx.g__law_alike (T : Tx K mg) : mg "_law_alike" = some (.ref (He.ga K "_law_alike")) := by obtain ⟨h, X, G, c, _⟩ := T; exact He.glo_ok X G (c.fact 39 (f := .glo "_law_alike") rfl)
theorem Tx.g__law_text (T : Tx K mg) : mg "_law_text" = some (.ref (He.ga K "_law_text")) := by obtain ⟨h, X, G, c, _⟩ := T; exact He.glo_ok X G (c.fact 40 (f := .glo "_law_text") rfl)
theorem Tx.g__law_word (T : Tx K mg) : mg "_law_word" = some (.ref (He.ga K "_law_word")) := by obtain ⟨h, X, G, c, _⟩ := T; exact He.glo_ok X G (c.fact 41 (f := .glo "_law_word") rfl)
theorem Tx.g__law_row (T : Tx K mg) : mg "_law_row" = some (.ref (He.ga K "_law_row")) := by obtain ⟨h, X, G, c, _⟩ := T; exact He.glo_ok X G (c.fact 42 (f := .glo "_law_row") rfl)
theorem Tx.g__law_is_word (T : Tx K mg) : mg "_law_is_word" = some (.ref (He.ga K "_law_is_word")) := by obtain ⟨h, X, G, c, _⟩ := T; exact He.glo_ok X G (c.fact 43 (f := .glo "_law_is_word") rfl)
theorem Tx.g__law_is_row (T : Tx K mg) : mg "_law_is_row" = some (.ref (He.ga K "_law_is_row")) := by obtain ⟨h, X, G, c, _⟩ := T; exact He.glo_ok X G (c.fact 44 (f := .glo "_law_is_row") rfl)
theorem Tx.g_law (T : Tx K mg) : mg "law" = some (.ref (He.ga K "law")) := by obtain ⟨h, X, G, c, _⟩ := T; exact He.glo_ok X G (c.fact 45 (f := .glo "law") rfl)
theorem Tx.e_inh (T : Tx K mg) : (inhB K "HearError") = true := by obtain ⟨h, X, G, c, e⟩ := T; exact (Bool.and_eq_true_iff.mp ((Bool.and_eq_true_iff.mp ((Bool.and_eq_true_iff.mp ((Bool.and_eq_true_iff.mp e).1)).1)).1)).1
theorem Tx.e_xBT (T : Tx K mg) : (oexB K "BadText" "row") = true := by obtain ⟨h, X, G, c, e⟩ := T; exact (Bool.and_eq_true_iff.mp ((Bool.and_eq_true_iff.mp ((Bool.and_eq_true_iff.mp ((Bool.and_eq_true_iff.mp e).1)).1)).1)).2
theorem Tx.e_hBT (T : Tx K mg) : (decide (PySem.W.exmOne K (.ref (He.ga K "BadText")) (.ref (He.ga K "BadText")) = some true)) = true := by obtain ⟨h, X, G, c, e⟩ := T; exact (Bool.and_eq_true_iff.mp ((Bool.and_eq_true_iff.mp ((Bool.and_eq_true_iff.mp e).1)).1)).2
theorem Tx.e_rBT (T : Tx K mg) : (refB K "BadText") = true := by obtain ⟨h, X, G, c, e⟩ := T; exact (Bool.and_eq_true_iff.mp ((Bool.and_eq_true_iff.mp e).1)).2
theorem Tx.f_is_word (T : Tx K mg) : ∃ fd, F_is_word K (He.fAd K d_is_word.at_) fd := by obtain ⟨h, X, G, c, _⟩ := T; exact c.def_ 0 (d := d_is_word) rfl
theorem Tx.f_is_pattern (T : Tx K mg) : ∃ fd, F_is_pattern K (He.fAd K d_is_pattern.at_) fd := by obtain ⟨h, X, G, c, _⟩ := T; exact c.def_ 1 (d := d_is_pattern) rfl
theorem Tx.f_law_mix (T : Tx K mg) : ∃ fd, F_law_mix K (He.fAd K d_law_mix.at_) fd := by obtain ⟨h, X, G, c, _⟩ := T; exact c.def_ 2 (d := d_law_mix) rfl
theorem Tx.f_law_next (T : Tx K mg) : ∃ fd, F_law_next K (He.fAd K d_law_next.at_) fd := by obtain ⟨h, X, G, c, _⟩ := T; exact c.def_ 3 (d := d_law_next) rfl
theorem Tx.f_rank_of (T : Tx K mg) : ∃ fd, F_rank_of K (He.fAd K d_rank_of.at_) fd := by obtain ⟨h, X, G, c, _⟩ := T; exact c.def_ 4 (d := d_rank_of) rfl
theorem Tx.f_row_of (T : Tx K mg) : ∃ fd, F_row_of K (He.fAd K d_row_of.at_) fd := by obtain ⟨h, X, G, c, _⟩ := T; exact c.def_ 5 (d := d_row_of) rfl
theorem Tx.f_BadText___init__ (T : Tx K mg) : ∃ fd, F_BadText___init__ K (He.fAd K d_BadText___init__.at_) fd := by obtain ⟨h, X, G, c, _⟩ := T; exact c.def_ 6 (d := d_BadText___init__) rfl
theorem Tx.f_read (T : Tx K mg) : ∃ fd, F_read K (He.fAd K d_read.at_) fd := by obtain ⟨h, X, G, c, _⟩ := T; exact c.def_ 7 (d := d_read) rfl
theorem Tx.f_law_kind (T : Tx K mg) : ∃ fd, F_law_kind K (He.fAd K d_law_kind.at_) fd := by obtain ⟨h, X, G, c, _⟩ := T; exact c.def_ 8 (d := d_law_kind) rfl
theorem Tx.f_law_refused (T : Tx K mg) : ∃ fd, F_law_refused K (He.fAd K d_law_refused.at_) fd := by obtain ⟨h, X, G, c, _⟩ := T; exact c.def_ 9 (d := d_law_refused) rfl
theorem Tx.f_law_alike (T : Tx K mg) : ∃ fd, F_law_alike K (He.fAd K d_law_alike.at_) fd := by obtain ⟨h, X, G, c, _⟩ := T; exact c.def_ 10 (d := d_law_alike) rfl
theorem Tx.f_law_text (T : Tx K mg) : ∃ fd, F_law_text K (He.fAd K d_law_text.at_) fd := by obtain ⟨h, X, G, c, _⟩ := T; exact c.def_ 11 (d := d_law_text) rfl
theorem Tx.f_law_word (T : Tx K mg) : ∃ fd, F_law_word K (He.fAd K d_law_word.at_) fd := by obtain ⟨h, X, G, c, _⟩ := T; exact c.def_ 12 (d := d_law_word) rfl
theorem Tx.f_law_row (T : Tx K mg) : ∃ fd, F_law_row K (He.fAd K d_law_row.at_) fd := by obtain ⟨h, X, G, c, _⟩ := T; exact c.def_ 13 (d := d_law_row) rfl
theorem Tx.f_law_is_word (T : Tx K mg) : ∃ fd, F_law_is_word K (He.fAd K d_law_is_word.at_) fd := by obtain ⟨h, X, G, c, _⟩ := T; exact c.def_ 14 (d := d_law_is_word) rfl
theorem Tx.f_law_is_row (T : Tx K mg) : ∃ fd, F_law_is_row K (He.fAd K d_law_is_row.at_) fd := by obtain ⟨h, X, G, c, _⟩ := T; exact c.def_ 15 (d := d_law_is_row) rfl
theorem Tx.f_law (T : Tx K mg) : ∃ fd, F_law K (He.fAd K d_law.at_) fd := by obtain ⟨h, X, G, c, _⟩ := T; exact c.def_ 16 (d := d_law) rfl
end
def tf : List (Str × Option Str) := [("_law_refused", none)]
def nmT : List ((Nat × Nat) × Str) := [((138, 34), "_law_refused.<locals>.<lambda>")]
def nm (l c : Nat) : Str := (nmT.lookup (l, c)).getD Str.empty
def Ts (K : PySem.W.Frag) : List Addr := tf.map fun p => (He.cT K p).2
def Tb (K : PySem.W.Frag) (mg : Str → Option Value) (base : Heap) : Prop := ∀ p ∈ tf, LamX.TabB base mg (He.cT K p).1 (He.cT K p).2
theorem Tb.t_law_refused {K : PySem.W.Frag} {mg : Str → Option Value} {base : Heap} (B : Tb K mg base) : LamX.TabB base mg (He.codeOf K ("_law_refused", none)) (He.cT K ("_law_refused", none)).2 := B ("_law_refused", none) (by decide +kernel)
theorem m_law_refused (K : PySem.W.Frag) : (He.cT K ("_law_refused", none)).2 ∈ Ts K := List.mem_map_of_mem (f := fun p => (He.cT K p).2) (show (("_law_refused", none) : Str × Option Str) ∈ tf by decide +kernel)
end Hk

set_option Elab.async false
set_option linter.all false
set_option maxRecDepth 100000
set_option maxHeartbeats 4000000
namespace Hk
open PySem PySem.Spec PyProof.Rows L2
open LamX NdefX
/-! ### the head's run: early, where little memory is taken -/
abbrev Rw : PySem.W.OpenRow := PySem.W.OpenLaw.row PySem.Challenge.rw_hearken_k19_texts_that_tell_no_rows
abbrev hk : PySem.W.Hook := hookS 5 fa fn [] tf exB
def ob (s : PySem.W.SharedT) : He.AlX := obsS 5 fa fn [] tf exB (HandSHeadRun.getT s)
theorem ob_eq (s : PySem.W.SharedT) : ob s = hk.obs s.abs := obsS_eq (HandSHeadRun.getT_eq s)
def loose : List Str := "HearError" :: "Halt" :: "BadLine" :: "BadPattern" :: "BadWord" :: "BadCount" :: "NoListener" :: "Busy" :: "TooDeep" :: "NotHeld" :: "NoWork" :: "BadText" :: "LETTERS" :: "MOST_LETTERS" :: "MOST_WORDS" :: "ANY" :: "REST" :: "is_word" :: "is_pattern" :: "FIGURES" :: "rank_of" :: "row_of" :: "read" :: "_law_mix" :: "_law_next" :: "_law_alike" :: "_law_kind" :: "_law_word" :: "_law_row" :: "_law_text" :: "_law_is_word" :: "_law_is_row" :: "_law_refused" :: []
theorem run (w : World) : HandSHeadRun.RunEq Rw (PySem.W.view Rw.prog [37]) hk ob 8000 loose w := by
  intro os
  kernel_rfl
end Hk

set_option Elab.async false
set_option linter.all false
set_option maxRecDepth 100000
set_option maxHeartbeats 4000000
namespace Hk
open PySem PySem.Spec PyProof.Rows L2
open LamX NdefX
open TL
section
variable {P : Program} {w : World} {K : PySem.W.Frag} {mg : Str → Option Value} {base : Heap}
theorem last_map {ws : List Str} {s : Str} : ((ws.map V.str).getLast? = some (V.str s)) ↔ ws.getLast? = some s := by
  rw [List.getLast?_map]
  cases ws.getLast? with
  | none => simp
  | some x => simp
theorem last_str {ws : List Str} (h : ws ≠ []) : ∃ x, (ws.map V.str).getLast? = some (V.str x) ∧ ws.getLast? = some x := by
  refine ⟨ws.getLast h, ?_, List.getLast?_eq_getLast h⟩
  rw [List.getLast?_map, List.getLast?_eq_getLast h]; rfl
/-! ### is_word -/
def sp_is_word : Sp := fun vs H Q _ => ∃ z : Str, vs = [.str z] ∧ z.length ≤ 10000 ∧ ∀ H', Same H H' → Q (.bl (isWord z)) H'
theorem G_is_word (T : Tx K mg) : Glob P w K mg base (CX0) 1 "is_word" p_is_word [] sp_is_word := by
  obtain ⟨fd, F⟩ := T.f_is_word
  refine ⟨_, fd, [], F.ok sc_is_word (fun vs H Q E h => ?_) (fun cdv A outer s H vs Q E hr h => ?_), T.g_is_word, F.kp, .nil, F.bindsN fun _ _ _ _ _ _ us hl => match us, hl with | [_], _ => rfl⟩
  · obtain ⟨z, rfl, _⟩ := h; rfl
  · obtain ⟨z, rfl, hz, q⟩ := h
    refine ⟨_, PSs.nox (pss_one (ps_ret (pe_and (pe_chain op_le op_le pe_int (pe_callB call_len_str (by rfl) T.b_len (by decide +kernel) (pa_cons (pv 0) pa_nil)) (pe_gi T.c_MOST_LETTERS (by rfl))) (pe_one (pe_callB (cr_allK (K := K) rfl rfl) (by rfl) T.b_all (by decide +kernel) (pa_cons (pe_lc (own := [("sign", 1)]) (g := (gName 1)) (tt := tYes) rfl sc_is_word.nd (pi_str (pv 0)) (blkOk_by (by kernel_rfl)) (fun _ _ _ _ _ => (pg_name (i := 1) sc_is_word.nd rfl (Or.inl rfl))) (fun _ _ _ _ _ => pts_nil) (fun _ _ _ _ _ => (pe_cmpR op_in_sign (pv 1) (pe_gs T.c_LETTERS (by rfl)) (by rfl)))) pa_nil)))))), ?_⟩
    simp only [tCutE, tIfE, false_and, exists_false, false_or, or_false, tRet, tRetN, tAndV, tOrV, tNotV, tChain, rI, rI0, rU, tC, tCB, tCons, tNil, tVar, tOp, tUn, tTest, tB, tAnd, tOr, tNot, tIf, tIfS, tSeq, tAsg, tDrop, tNext, tDIn, tDNotIn, tDPop1, gName, gTup_ref, gCons_cons, gNil_nil, and_assoc, tYes, wipe, rEq, rNe, scal_ss, scal_ii, scal_bb, scal_ns, scal_sn, scal_nn, scal_in, scal_ni, tLc_eq, tFor_eq, iList, iTup, iStr, iRng1, iRng2, iZip, iEnum, gSub, tSl, rSetL_ref, rCat_ref, rRep_ref, rJoin_ref, rSlL_ref, rSlS_ref, rMulS_ref, rIxL_ref, rIxT_ref, rLenK_ref, rAll_ref, rIn_ref, tLst, tTup, tPar, tPar3, tAug, tPart, tNoPart, tCall, List.getElem?_cons_zero, List.getElem?_cons_succ, List.set_cons_zero, List.set_cons_succ, List.map_cons, List.map_nil, List.append_nil, List.nil_append, List.cons_append, Option.some.injEq, exists_eq_left', exists_eq_left, exists_eq_right, exists_eq_right', exists_eq', V.int.injEq, V.str.injEq, V.bl.injEq, V.ref.injEq, List.cons.injEq, tM0, tM1, rNewStrs, sgn_eq, split_dot, split_sp, split_nl, dot_len, sp_len, nl_len, cxOf_K, L2.start, List.length_cons, List.length_nil, List.replicate_succ, List.replicate_zero, Nat.reduceSub, Nat.zero_add, and_true, true_and, and_self, exists_and_left, exists_const, Bool.false_eq_true, if_false, if_true, ite_true, ite_false, reduceIte, decide_eq_true_eq, reduceCtorEq, Nat.reduceAdd, Nat.reduceLT, L2H.iEnumN, cxH_K, cxH_prog, cxH_w, cxH_mg, cxH_base, tCallVSH, tVeI, tOst, tWhy, tXf, tCallS, tCallX, tLam1, tListZip, tCallX, tCallXU, tCallV, tCallVS, tLam1, tLamD, tCallS, tCls, tClsD, cx_cells, cx_scope, cx_N, cx_prog, cx_w, cx_base, cx_mg, cx_qual]
    refine ⟨small (by omega), ?_⟩
    have hz' : (tl z).length ≤ 10000 := by rw [← len_tl]; exact hz
    split
    · rename_i h1
      split
      · rename_i h2
        refine lc_map (tl z) (fun c => V.bl (decide (c ∈ tl letters))) walk_str (by omega) (fun _ _ => trivial) (fun i a x H1 H' R hx s1 hy r => ?_) (fun D H1 nD s1 hD => ?_)
        · obtain ⟨rfl, c, hc, rfl⟩ := hy
          have e : c = a := by
            rw [Array.getElem?_toList] at hx
            exact Option.some.inj (hc.symm.trans hx)
          subst e
          simp only [tCutE, tIfE, false_and, exists_false, false_or, or_false, tRet, tRetN, tAndV, tOrV, tNotV, tChain, rI, rI0, rU, tC, tCB, tCons, tNil, tVar, tOp, tUn, tTest, tB, tAnd, tOr, tNot, tIf, tIfS, tSeq, tAsg, tDrop, tNext, tDIn, tDNotIn, tDPop1, gName, gTup_ref, gCons_cons, gNil_nil, and_assoc, tYes, wipe, rEq, rNe, scal_ss, scal_ii, scal_bb, scal_ns, scal_sn, scal_nn, scal_in, scal_ni, tLc_eq, tFor_eq, iList, iTup, iStr, iRng1, iRng2, iZip, iEnum, gSub, tSl, rSetL_ref, rCat_ref, rRep_ref, rJoin_ref, rSlL_ref, rSlS_ref, rMulS_ref, rIxL_ref, rIxT_ref, rLenK_ref, rAll_ref, rIn_ref, tLst, tTup, tPar, tPar3, tAug, tPart, tNoPart, tCall, List.getElem?_cons_zero, List.getElem?_cons_succ, List.set_cons_zero, List.set_cons_succ, List.map_cons, List.map_nil, List.append_nil, List.nil_append, List.cons_append, Option.some.injEq, exists_eq_left', exists_eq_left, exists_eq_right, exists_eq_right', exists_eq', V.int.injEq, V.str.injEq, V.bl.injEq, V.ref.injEq, List.cons.injEq, tM0, tM1, rNewStrs, sgn_eq, split_dot, split_sp, split_nl, dot_len, sp_len, nl_len, cxOf_K, L2.start, List.length_cons, List.length_nil, List.replicate_succ, List.replicate_zero, Nat.reduceSub, Nat.zero_add, and_true, true_and, and_self, exists_and_left, exists_const, Bool.false_eq_true, if_false, if_true, ite_true, ite_false, reduceIte, decide_eq_true_eq, reduceCtorEq, Nat.reduceAdd, Nat.reduceLT, L2H.iEnumN, cxH_K, cxH_prog, cxH_w, cxH_mg, cxH_base, tCallVSH, tVeI, tOst, tWhy, tXf, tCallS, tCallX, tLam1, tListZip, tCallX, tCallXU, tCallV, tCallVS, tLam1, tLamD, tCallS, tCls, tClsD, cx_cells, cx_scope, cx_N, cx_prog, cx_w, cx_base, cx_mg, cx_qual]
          exact r _ (Same.refl _)
        · refine ⟨D, (tl z).map fun c => decide (c ∈ tl letters), rfl, .of (by rw [hD, List.map_map]; rfl), ?_⟩
          have e : isWord z = List.all ((tl z).map fun c => decide (c ∈ tl letters)) id := by
            unfold isWord
            rw [decide_eq_true (by omega : 1 ≤ z.length), decide_eq_true (by omega : z.length ≤ 4), List.all_map]
            rfl
          rw [← e]
          exact q _ s1
      · have e : isWord z = false := by
          unfold isWord
          rw [decide_eq_false (by omega : ¬ z.length ≤ 4)]; simp
        rw [← e]; exact q _ (Same.refl _)
    · have e : isWord z = false := by
        unfold isWord
        rw [decide_eq_false (by omega : ¬ 1 ≤ z.length)]; simp
      rw [← e]; exact q _ (Same.refl _)
/-! ### is_pattern -/
def sp_is_pattern : Sp := fun vs H Q _ => ∃ z : Str, vs = [.str z] ∧ z.length ≤ 10000 ∧ ∀ H', Same H H' → Q (.bl (isPat z)) H'
theorem G_is_pattern (T : Tx K mg) : Glob P w K mg base (CX0) 2 "is_pattern" p_is_pattern [] sp_is_pattern := by
  obtain ⟨fd, F⟩ := T.f_is_pattern
  refine ⟨_, fd, [], F.ok sc_is_pattern (fun vs H Q E h => ?_) (fun cdv A outer s H vs Q E hr h => ?_), T.g_is_pattern, F.kp, .nil, F.bindsN fun _ _ _ _ _ _ us hl => match us, hl with | [_], _ => rfl⟩
  · obtain ⟨z, rfl, _⟩ := h; rfl
  · obtain ⟨z, rfl, hz, q⟩ := h
    refine ⟨_, PSs.nox (pss_cons (ps_set (i := 1) sc_is_pattern.nd rfl (Or.inl rfl) (pe_split (pv 0) pe_str))
      (pss_cons (ps_if (pt_cmpR op_eq (pe_ix (ix_listK (K := K) rfl) (pv 1) (pe_un un_neg pe_int) (fun _ _ => rfl)) (pe_gs T.c_REST (by rfl)) (nomark _))
      (pss_one (ps_expr (pe_bm0K (K := K) rfl PySem.F.plainAttrs_list PySem.F.slot_list_pop PySem.F.type_list_pop mt_pop (pv 1))))
      pss_nil)
      (pss_one (ps_ret (pe_and (pe_cmpR op_le (pe_callB (call_len_seqK (K := K) rfl) (by rfl) T.b_len (by decide +kernel) (pa_cons (pv 1) pa_nil)) (pe_gi T.c_MOST_WORDS (by rfl)) (nomark _)) (pe_one (pe_callB (cr_allK (K := K) rfl rfl) (by rfl) T.b_all (by decide +kernel) (pa_cons (pe_lc (own := [("word", 2)]) (g := (gName 2)) (tt := tYes) rfl sc_is_pattern.nd (pi_listK (K := K) rfl (pv 1)) (blkOk_by (by kernel_rfl)) (fun _ _ _ _ _ => (pg_name (i := 2) sc_is_pattern.nd rfl (Or.inl rfl))) (fun _ _ _ _ _ => pts_nil) (fun _ _ _ _ _ => (pe_or (pe_cmpR op_eq (pv 2) (pe_gs T.c_ANY (by rfl)) (nomark _)) (pe_one (pe_callG (G_is_word T) (hr.mono (by first | decide | omega)) (by rfl) pass0 (pa_cons (pv 2) pa_nil)))))) pa_nil)))))))), ?_⟩
    simp only [tCutE, tIfE, false_and, exists_false, false_or, or_false, tRet, tRetN, tAndV, tOrV, tNotV, tChain, rI, rI0, rU, tC, tCB, tCons, tNil, tVar, tOp, tUn, tTest, tB, tAnd, tOr, tNot, tIf, tIfS, tSeq, tAsg, tDrop, tNext, tDIn, tDNotIn, tDPop1, gName, gTup_ref, gCons_cons, gNil_nil, and_assoc, tYes, wipe, rEq, rNe, scal_ss, scal_ii, scal_bb, scal_ns, scal_sn, scal_nn, scal_in, scal_ni, tLc_eq, tFor_eq, iList, iTup, iStr, iRng1, iRng2, iZip, iEnum, gSub, tSl, rSetL_ref, rCat_ref, rRep_ref, rJoin_ref, rSlL_ref, rSlS_ref, rMulS_ref, rIxL_ref, rIxT_ref, rLenK_ref, rAll_ref, rIn_ref, tLst, tTup, tPar, tPar3, tAug, tPart, tNoPart, tCall, List.getElem?_cons_zero, List.getElem?_cons_succ, List.set_cons_zero, List.set_cons_succ, List.map_cons, List.map_nil, List.append_nil, List.nil_append, List.cons_append, Option.some.injEq, exists_eq_left', exists_eq_left, exists_eq_right, exists_eq_right', exists_eq', V.int.injEq, V.str.injEq, V.bl.injEq, V.ref.injEq, List.cons.injEq, tM0, tM1, rNewStrs, sgn_eq, split_dot, split_sp, split_nl, dot_len, sp_len, nl_len, cxOf_K, L2.start, List.length_cons, List.length_nil, List.replicate_succ, List.replicate_zero, Nat.reduceSub, Nat.zero_add, and_true, true_and, and_self, exists_and_left, exists_const, Bool.false_eq_true, if_false, if_true, ite_true, ite_false, reduceIte, decide_eq_true_eq, reduceCtorEq, Nat.reduceAdd, Nat.reduceLT, L2H.iEnumN, cxH_K, cxH_prog, cxH_w, cxH_mg, cxH_base, tCallVSH, tVeI, tOst, tWhy, tXf, tCallS, tCallX, tLam1, tListZip, tCallX, tCallXU, tCallV, tCallVS, tLam1, tLamD, tCallS, tCls, tClsD, cx_cells, cx_scope, cx_N, cx_prog, cx_w, cx_base, cx_mg, cx_qual]
    have hl := wds_len z
    have fin : ∀ (p : Addr) (H1 : Hp), H p = none → Same H H1 → H1 p = some (.lst ((cut (wds z)).map V.str)) → ∃ ys, (SqL K H1 p ys ∨ SqT K H1 p ys) ∧ if (ys.length : Int) ≤ 6 then
        (∃ xs, SqL K H1 p xs) ∧ LcG (Itl K p) (gName 2) tYes (tOrV (tOp rEq (tVar 2) (tC (V.str (Str.ofString "*")))) (tCall sp_is_word [] E0 (tCons (tVar 2) tNil))) [2] [some (V.str z), some (V.ref p), none] H1 fun x H1 => rAll K [x] H1 Q
      else Q (V.bl false) H1 := by
      intro p H1 hp s1 hc
      have hcl : (cut (wds z)).length ≤ (wds z).length := by
        unfold cut; split
        · rw [List.length_dropLast]; omega
        · exact Nat.le_refl _
      have hcm : ∀ w ∈ cut (wds z), w ∈ wds z := by
        unfold cut; split
        · exact fun w hw => List.dropLast_subset _ hw
        · exact fun w hw => hw
      refine ⟨_, .inl (.of hc), ?_⟩
      rw [List.length_map]
      split
      · rename_i h1
        refine ⟨⟨_, .of hc⟩, lc_map (cut (wds z)) (fun w => V.bl (starOr w)) (walk_listm (cut (wds z)) V.str) (by omega) (fun H2 s2 => s2.seq (.of hc)) (fun i a x H1 H' R hx s2 hy r => ?_) (fun D H1 nD s2 hD => ?_)⟩
        · obtain ⟨rfl, y, hy, rfl⟩ := hy
          cases Option.some.inj (hx.symm.trans hy)
          simp only [tCutE, tIfE, false_and, exists_false, false_or, or_false, tRet, tRetN, tAndV, tOrV, tNotV, tChain, rI, rI0, rU, tC, tCB, tCons, tNil, tVar, tOp, tUn, tTest, tB, tAnd, tOr, tNot, tIf, tIfS, tSeq, tAsg, tDrop, tNext, tDIn, tDNotIn, tDPop1, gName, gTup_ref, gCons_cons, gNil_nil, and_assoc, tYes, wipe, rEq, rNe, scal_ss, scal_ii, scal_bb, scal_ns, scal_sn, scal_nn, scal_in, scal_ni, tLc_eq, tFor_eq, iList, iTup, iStr, iRng1, iRng2, iZip, iEnum, gSub, tSl, rSetL_ref, rCat_ref, rRep_ref, rJoin_ref, rSlL_ref, rSlS_ref, rMulS_ref, rIxL_ref, rIxT_ref, rLenK_ref, rAll_ref, rIn_ref, tLst, tTup, tPar, tPar3, tAug, tPart, tNoPart, tCall, List.getElem?_cons_zero, List.getElem?_cons_succ, List.set_cons_zero, List.set_cons_succ, List.map_cons, List.map_nil, List.append_nil, List.nil_append, List.cons_append, Option.some.injEq, exists_eq_left', exists_eq_left, exists_eq_right, exists_eq_right', exists_eq', V.int.injEq, V.str.injEq, V.bl.injEq, V.ref.injEq, List.cons.injEq, tM0, tM1, rNewStrs, sgn_eq, split_dot, split_sp, split_nl, dot_len, sp_len, nl_len, cxOf_K, L2.start, List.length_cons, List.length_nil, List.replicate_succ, List.replicate_zero, Nat.reduceSub, Nat.zero_add, and_true, true_and, and_self, exists_and_left, exists_const, Bool.false_eq_true, if_false, if_true, ite_true, ite_false, reduceIte, decide_eq_true_eq, reduceCtorEq, Nat.reduceAdd, Nat.reduceLT, L2H.iEnumN, cxH_K, cxH_prog, cxH_w, cxH_mg, cxH_base, tCallVSH, tVeI, tOst, tWhy, tXf, tCallS, tCallX, tLam1, tListZip, tCallX, tCallXU, tCallV, tCallVS, tLam1, tLamD, tCallS, tCls, tClsD, cx_cells, cx_scope, cx_N, cx_prog, cx_w, cx_base, cx_mg, cx_qual]
          have := wds_each z a (hcm a (List.mem_of_getElem? hx))
          unfold starOr at r
          split
          · rename_i e
            subst e
            simp only [decide_true, Bool.true_or] at r
            exact r _ (Same.refl _)
          · rename_i e
            rw [decide_eq_false e, Bool.false_or] at r
            exact ⟨a, rfl, by omega, r⟩
        · refine ⟨D, (cut (wds z)).map starOr, rfl, .of (by rw [hD, List.map_map]; rfl), ?_⟩
          have e : isPat z = List.all ((cut (wds z)).map starOr) id := by
            unfold isPat
            rw [decide_eq_true (by omega : (cut (wds z)).length ≤ 6), List.all_map]
            rfl
          rw [← e]
          exact q _ (s1.trans s2)
      · have e : isPat z = false := by
          unfold isPat
          rw [decide_eq_false (by omega : ¬ (cut (wds z)).length ≤ 6)]; simp
        rw [← e]; exact q _ s1
    refine ⟨small (by omega), fun p hp => ⟨_, .of upd_same, ?_⟩⟩
    have s1 : Same H (upd H p (HO.lst (List.map V.str (wds z)))) := same_put (Same.refl _) hp
    obtain ⟨x, e1, e2⟩ := last_str (wds_ne z)
    refine ⟨.str x, (atI_neg1 (by simpa using wds_ne z)).trans e1, rfl, ?_⟩
    split
    · rename_i e
      cases e
      refine ⟨_, rfl, .inl ⟨rfl, _, .of upd_same⟩, p, _, .str ("#" : Str), rfl, rfl, upd_same, ?_, ?_⟩
      · rw [← List.getLast?_eq_getElem?]; exact e1
      · refine fin p _ hp (same_put s1 hp) ?_
        rw [upd_same]
        unfold cut
        rw [if_pos e2, List.map_dropLast]
    · rename_i e
      refine fin p _ hp s1 ?_
      rw [upd_same]
      unfold cut
      rw [if_neg (fun z => e (by rw [e2] at z; exact congrArg V.str (Option.some.inj z)))]
end
end Hk

set_option Elab.async false
set_option linter.all false
set_option maxRecDepth 100000
set_option maxHeartbeats 4000000
namespace Hk
open PySem PySem.Spec PyProof.Rows L2
open LamX NdefX
section
variable {P : Program} {w : World} {K : PySem.W.Frag} {mg : Str → Option Value} {base : Heap}
/-! ### what is drawn from: a list of a number, the cells and a place -/
def SrcOk (H : Hp) (h l : Addr) : Prop := ∃ (m p : Int) (cs : List Int), H h = some (.lst [.int m, .ref l, .int p]) ∧ H l = some (.lst (cs.map V.int)) ∧ 0 ≤ m ∧ m < 2147483647 ∧ 0 ≤ p ∧ cs.length ≤ 63
abbrev DrS (h l : Addr) : Addr → Prop := fun b => b = h ∨ b = l
theorem SrcOk.ne {H : Hp} {h l : Addr} (s : SrcOk H h l) : h ≠ l := by
  obtain ⟨m, p, cs, e1, e2, _⟩ := s
  intro e; subst e
  rw [e1] at e2
  cases cs with
  | nil => cases e2
  | cons a r =>
    cases r with
    | nil => cases e2
    | cons b r => cases e2
def sp_law_mix (K : PySem.W.Frag) : Sp := fun vs H Q _ => ∃ (a : Addr) (ns : List Int) (sd : Int), vs = [.ref a, .int sd] ∧ SqL K H a (ns.map V.int) ∧ ns.length ≤ 63 ∧ 0 ≤ sd ∧ sd < 2147483647 ∧
  ∀ H' h l, Same H H' → H h = none → H l = none → SrcOk H' h l → Q (.ref h) H'
theorem G_law_mix (T : Tx K mg) : Glob P w K mg base (CX0) 1 "_law_mix" p_law_mix [] (sp_law_mix K) := by
  obtain ⟨fd, F⟩ := T.f_law_mix
  refine ⟨_, fd, [], F.ok sc_law_mix (fun vs H Q E h => ?_) (fun cdv A outer s H vs Q E hr h => ?_), T.g__law_mix, F.kp, .nil, F.bindsN fun _ _ _ _ _ _ us hl => match us, hl with | [_, _], _ => rfl⟩
  · obtain ⟨a, ns, sd, rfl, _⟩ := h; rfl
  · obtain ⟨a, ns, sd, rfl, hS, hn, h0, h1, q⟩ := h
    refine ⟨_, PSs.nox (pss_cons (ps_set (i := 2) sc_law_mix.nd rfl (Or.inl rfl) (pv 1))
      (pss_cons (ps_for PassesOwn.never rfl (pi_listK (K := K) rfl (pv 0)) (pg_name (i := 3) sc_law_mix.nd rfl (Or.inl rfl))
      (pss_one (ps_set (i := 2) sc_law_mix.nd rfl (Or.inl rfl) (pe_op op_mod (pe_op op_add (pe_op op_add (pe_op op_mul (pv 2) pe_int) (pe_op op_mod (pv 3) pe_int)) pe_int) pe_int))))
      (pss_one (ps_ret (pe_lst (pa_cons (pv 2) (pa_cons (pe_callTy (call_list_ofK (K := K) rfl) (by rfl) T.b_list (by decide +kernel) (pa_cons (pv 0) pa_nil)) (pa_cons pe_int pa_nil)))))))), ?_⟩
    simp only [tCutE, tIfE, false_and, exists_false, false_or, or_false, tRet, tRetN, tAndV, tOrV, tNotV, tChain, rI, rI0, rU, tC, tCB, tCons, tNil, tVar, tOp, tUn, tTest, tB, tAnd, tOr, tNot, tIf, tIfS, tSeq, tAsg, tDrop, tNext, tDIn, tDNotIn, tDPop1, gName, gTup_ref, gCons_cons, gNil_nil, and_assoc, tYes, wipe, rEq, rNe, scal_ss, scal_ii, scal_bb, scal_ns, scal_sn, scal_nn, scal_in, scal_ni, tLc_eq, tFor_eq, iList, iTup, iStr, iRng1, iRng2, iZip, iEnum, gSub, tSl, rSetL_ref, rCat_ref, rRep_ref, rJoin_ref, rSlL_ref, rSlS_ref, rMulS_ref, rIxL_ref, rIxT_ref, rLenK_ref, rAll_ref, rIn_ref, tLst, tTup, tPar, tPar3, tAug, tPart, tNoPart, tCall, List.getElem?_cons_zero, List.getElem?_cons_succ, List.set_cons_zero, List.set_cons_succ, List.map_cons, List.map_nil, List.append_nil, List.nil_append, List.cons_append, Option.some.injEq, exists_eq_left', exists_eq_left, exists_eq_right, exists_eq_right', exists_eq', V.int.injEq, V.str.injEq, V.bl.injEq, V.ref.injEq, List.cons.injEq, tM0, tM1, rNewStrs, sgn_eq, split_dot, split_sp, split_nl, dot_len, sp_len, nl_len, cxOf_K, L2.start, List.length_cons, List.length_nil, List.replicate_succ, List.replicate_zero, Nat.reduceSub, Nat.zero_add, and_true, true_and, and_self, exists_and_left, exists_const, Bool.false_eq_true, if_false, if_true, ite_true, ite_false, reduceIte, decide_eq_true_eq, reduceCtorEq, Nat.reduceAdd, Nat.reduceLT, L2H.iEnumN, cxH_K, cxH_prog, cxH_w, cxH_mg, cxH_base, tCallVSH, tVeI, tOst, tWhy, tXf, tCallS, tCallX, tLam1, tListZip, tCallX, tCallXU, tCallV, tCallVS, tLam1, tLamD, tCallS, tCls, tClsD, cx_cells, cx_scope, cx_N, cx_prog, cx_w, cx_base, cx_mg, cx_qual]
    refine ⟨⟨_, hS⟩, forG (walk_listm ns V.int) (fun i σ H' => ∃ m c, σ = [some (.ref a), some (.int sd), some (.int m), c] ∧ 0 ≤ m ∧ m < 2147483647 ∧ H' = H) ⟨sd, none, rfl, h0, h1, rfl⟩ (fun i σ H' _ ⟨m, c, _, _, _, e⟩ => by rw [e]; exact hS) (fun i x σ H1 H2 hi hP hy => ?_) (fun σ H1 hP => ?_)⟩
    · obtain ⟨m, c, rfl, hm0, hm1, rfl⟩ := hP
      obtain ⟨rfl, y, hy, rfl⟩ := hy
      simp only [tCutE, tIfE, false_and, exists_false, false_or, or_false, tRet, tRetN, tAndV, tOrV, tNotV, tChain, rI, rI0, rU, tC, tCB, tCons, tNil, tVar, tOp, tUn, tTest, tB, tAnd, tOr, tNot, tIf, tIfS, tSeq, tAsg, tDrop, tNext, tDIn, tDNotIn, tDPop1, gName, gTup_ref, gCons_cons, gNil_nil, and_assoc, tYes, wipe, rEq, rNe, scal_ss, scal_ii, scal_bb, scal_ns, scal_sn, scal_nn, scal_in, scal_ni, tLc_eq, tFor_eq, iList, iTup, iStr, iRng1, iRng2, iZip, iEnum, gSub, tSl, rSetL_ref, rCat_ref, rRep_ref, rJoin_ref, rSlL_ref, rSlS_ref, rMulS_ref, rIxL_ref, rIxT_ref, rLenK_ref, rAll_ref, rIn_ref, tLst, tTup, tPar, tPar3, tAug, tPart, tNoPart, tCall, List.getElem?_cons_zero, List.getElem?_cons_succ, List.set_cons_zero, List.set_cons_succ, List.map_cons, List.map_nil, List.append_nil, List.nil_append, List.cons_append, Option.some.injEq, exists_eq_left', exists_eq_left, exists_eq_right, exists_eq_right', exists_eq', V.int.injEq, V.str.injEq, V.bl.injEq, V.ref.injEq, List.cons.injEq, tM0, tM1, rNewStrs, sgn_eq, split_dot, split_sp, split_nl, dot_len, sp_len, nl_len, cxOf_K, L2.start, List.length_cons, List.length_nil, List.replicate_succ, List.replicate_zero, Nat.reduceSub, Nat.zero_add, and_true, true_and, and_self, exists_and_left, exists_const, Bool.false_eq_true, if_false, if_true, ite_true, ite_false, reduceIte, decide_eq_true_eq, reduceCtorEq, Nat.reduceAdd, Nat.reduceLT, L2H.iEnumN, cxH_K, cxH_prog, cxH_w, cxH_mg, cxH_base, tCallVSH, tVeI, tOst, tWhy, tXf, tCallS, tCallX, tLam1, tListZip, tCallX, tCallXU, tCallV, tCallVS, tLam1, tLamD, tCallS, tCls, tClsD, cx_cells, cx_scope, cx_N, cx_prog, cx_w, cx_base, cx_mg, cx_qual]
      refine ⟨.inr ⟨by omega, by omega⟩, by omega, by omega, ?_, ?_⟩
      · exact Int.emod_nonneg _ (by omega)
      · exact Int.emod_lt_of_pos _ (by omega)
    · obtain ⟨m, c, rfl, hm0, hm1, rfl⟩ := hP
      simp only [tCutE, tIfE, false_and, exists_false, false_or, or_false, tRet, tRetN, tAndV, tOrV, tNotV, tChain, rI, rI0, rU, tC, tCB, tCons, tNil, tVar, tOp, tUn, tTest, tB, tAnd, tOr, tNot, tIf, tIfS, tSeq, tAsg, tDrop, tNext, tDIn, tDNotIn, tDPop1, gName, gTup_ref, gCons_cons, gNil_nil, and_assoc, tYes, wipe, rEq, rNe, scal_ss, scal_ii, scal_bb, scal_ns, scal_sn, scal_nn, scal_in, scal_ni, tLc_eq, tFor_eq, iList, iTup, iStr, iRng1, iRng2, iZip, iEnum, gSub, tSl, rSetL_ref, rCat_ref, rRep_ref, rJoin_ref, rSlL_ref, rSlS_ref, rMulS_ref, rIxL_ref, rIxT_ref, rLenK_ref, rAll_ref, rIn_ref, tLst, tTup, tPar, tPar3, tAug, tPart, tNoPart, tCall, List.getElem?_cons_zero, List.getElem?_cons_succ, List.set_cons_zero, List.set_cons_succ, List.map_cons, List.map_nil, List.append_nil, List.nil_append, List.cons_append, Option.some.injEq, exists_eq_left', exists_eq_left, exists_eq_right, exists_eq_right', exists_eq', V.int.injEq, V.str.injEq, V.bl.injEq, V.ref.injEq, List.cons.injEq, tM0, tM1, rNewStrs, sgn_eq, split_dot, split_sp, split_nl, dot_len, sp_len, nl_len, cxOf_K, L2.start, List.length_cons, List.length_nil, List.replicate_succ, List.replicate_zero, Nat.reduceSub, Nat.zero_add, and_true, true_and, and_self, exists_and_left, exists_const, Bool.false_eq_true, if_false, if_true, ite_true, ite_false, reduceIte, decide_eq_true_eq, reduceCtorEq, Nat.reduceAdd, Nat.reduceLT, L2H.iEnumN, cxH_K, cxH_prog, cxH_w, cxH_mg, cxH_base, tCallVSH, tVeI, tOst, tWhy, tXf, tCallS, tCallX, tLam1, tListZip, tCallX, tCallXU, tCallV, tCallVS, tLam1, tLamD, tCallS, tCls, tClsD, cx_cells, cx_scope, cx_N, cx_prog, cx_w, cx_base, cx_mg, cx_qual]
      refine ⟨a, _, rfl, .inl hS, fun l hl => ?_⟩
      simp only [tCutE, tIfE, false_and, exists_false, false_or, or_false, tRet, tRetN, tAndV, tOrV, tNotV, tChain, rI, rI0, rU, tC, tCB, tCons, tNil, tVar, tOp, tUn, tTest, tB, tAnd, tOr, tNot, tIf, tIfS, tSeq, tAsg, tDrop, tNext, tDIn, tDNotIn, tDPop1, gName, gTup_ref, gCons_cons, gNil_nil, and_assoc, tYes, wipe, rEq, rNe, scal_ss, scal_ii, scal_bb, scal_ns, scal_sn, scal_nn, scal_in, scal_ni, tLc_eq, tFor_eq, iList, iTup, iStr, iRng1, iRng2, iZip, iEnum, gSub, tSl, rSetL_ref, rCat_ref, rRep_ref, rJoin_ref, rSlL_ref, rSlS_ref, rMulS_ref, rIxL_ref, rIxT_ref, rLenK_ref, rAll_ref, rIn_ref, tLst, tTup, tPar, tPar3, tAug, tPart, tNoPart, tCall, List.getElem?_cons_zero, List.getElem?_cons_succ, List.set_cons_zero, List.set_cons_succ, List.map_cons, List.map_nil, List.append_nil, List.nil_append, List.cons_append, Option.some.injEq, exists_eq_left', exists_eq_left, exists_eq_right, exists_eq_right', exists_eq', V.int.injEq, V.str.injEq, V.bl.injEq, V.ref.injEq, List.cons.injEq, tM0, tM1, rNewStrs, sgn_eq, split_dot, split_sp, split_nl, dot_len, sp_len, nl_len, cxOf_K, L2.start, List.length_cons, List.length_nil, List.replicate_succ, List.replicate_zero, Nat.reduceSub, Nat.zero_add, and_true, true_and, and_self, exists_and_left, exists_const, Bool.false_eq_true, if_false, if_true, ite_true, ite_false, reduceIte, decide_eq_true_eq, reduceCtorEq, Nat.reduceAdd, Nat.reduceLT, L2H.iEnumN, cxH_K, cxH_prog, cxH_w, cxH_mg, cxH_base, tCallVSH, tVeI, tOst, tWhy, tXf, tCallS, tCallX, tLam1, tListZip, tCallX, tCallXU, tCallV, tCallVS, tLam1, tLamD, tCallS, tCls, tClsD, cx_cells, cx_scope, cx_N, cx_prog, cx_w, cx_base, cx_mg, cx_qual]
      refine ⟨by decide, fun h hh => ?_⟩
      have nlh : l ≠ h := by
        intro e; subst e
        rw [upd_same] at hh; cases hh
      rw [upd_ne nlh.symm] at hh
      exact q _ h l (same_put (same_put (Same.refl _) hl) hh) hh hl ⟨m, 0, ns, upd_same, by rw [upd_ne nlh, upd_same], hm0, hm1, Int.le_refl _, hn⟩
def sp_law_next : Sp := fun vs H Q _ => ∃ (h l : Addr) (n : Int), vs = [.ref h, .int n] ∧ SrcOk H h l ∧ 0 < n ∧ n < 1073741824 ∧
  ∀ H' r, Ext (DrS h l) H H' → SrcOk H' h l → 0 ≤ r → r < n → Q (.int r) H'
theorem G_law_next (T : Tx K mg) : Glob P w K mg base (CX0) 1 "_law_next" p_law_next [] sp_law_next := by
  obtain ⟨fd, F⟩ := T.f_law_next
  refine ⟨_, fd, [], F.ok sc_law_next (fun vs H Q E h => ?_) (fun cdv A outer s H vs Q E hr h => ?_), T.g__law_next, F.kp, .nil, F.bindsN fun _ _ _ _ _ _ us hl => match us, hl with | [_, _], _ => rfl⟩
  · obtain ⟨h, l, n, rfl, _⟩ := h; rfl
  · obtain ⟨h, l, n, rfl, hS, h0, h1, q⟩ := h
    have hne := hS.ne
    obtain ⟨m, p, cs, e1, e2, hm0, hm1, hp, hc⟩ := hS
    refine ⟨_, PSs.nox (pss_cons (ps_set (i := 2) sc_law_next.nd rfl (Or.inl rfl) (pe_ix (ix_listK (K := K) rfl) (pe_op op_cat (pe_ix (ix_listK (K := K) rfl) (pv 0) pe_int (fun _ _ => rfl)) (pe_lst (pa_cons pe_int pa_nil))) (pe_op op_mod (pe_ix (ix_listK (K := K) rfl) (pv 0) pe_int (fun _ _ => rfl)) (pe_callB (call_max2 rfl) (by rfl) T.b_max (by decide +kernel) (pa_cons pe_int (pa_cons (pe_callB (call_len_seqK (K := K) rfl) (by rfl) T.b_len (by decide +kernel) (pa_cons (pe_ix (ix_listK (K := K) rfl) (pv 0) pe_int (fun _ _ => rfl)) pa_nil)) pa_nil)))) (fun _ _ => rfl)))
      (pss_cons (ps_if (pt_cmpR op_ge (pv 2) (pe_op op_pow pe_int pe_int) (nomark _))
      (pss_cons (ps_asg (pe_op op_fdiv (pv 2) (pv 1)) (pg_sub (pe_ix (ix_listK (K := K) rfl) (pv 0) pe_int (fun _ _ => rfl)) (pe_op op_mod (pe_ix (ix_listK (K := K) rfl) (pv 0) pe_int (fun _ _ => rfl)) (pe_callB (call_len_seqK (K := K) rfl) (by rfl) T.b_len (by decide +kernel) (pa_cons (pe_ix (ix_listK (K := K) rfl) (pv 0) pe_int (fun _ _ => rfl)) pa_nil))) set_list))
      (pss_one (ps_ret (pe_op op_mod (pv 2) (pv 1)))))
      pss_nil)
      (pss_cons (ps_asg (pe_op op_mod (pe_op op_add (pe_op op_add (pe_op op_mul (pe_ix (ix_listK (K := K) rfl) (pv 0) pe_int (fun _ _ => rfl)) pe_int) (pe_op op_mul (pv 2) pe_int)) pe_int) pe_int) (pg_sub (pv 0) pe_int set_list))
      (pss_cons (ps_asg (pe_op op_add (pe_ix (ix_listK (K := K) rfl) (pv 0) pe_int (fun _ _ => rfl)) pe_int) (pg_sub (pv 0) pe_int set_list))
      (pss_one (ps_ret (pe_op op_mod (pe_op op_fdiv (pe_ix (ix_listK (K := K) rfl) (pv 0) pe_int (fun _ _ => rfl)) pe_int) (pv 1)))))))), ?_⟩
    simp only [tCutE, tIfE, false_and, exists_false, false_or, or_false, tRet, tRetN, tAndV, tOrV, tNotV, tChain, rI, rI0, rU, tC, tCB, tCons, tNil, tVar, tOp, tUn, tTest, tB, tAnd, tOr, tNot, tIf, tIfS, tSeq, tAsg, tDrop, tNext, tDIn, tDNotIn, tDPop1, gName, gTup_ref, gCons_cons, gNil_nil, and_assoc, tYes, wipe, rEq, rNe, scal_ss, scal_ii, scal_bb, scal_ns, scal_sn, scal_nn, scal_in, scal_ni, tLc_eq, tFor_eq, iList, iTup, iStr, iRng1, iRng2, iZip, iEnum, gSub, tSl, rSetL_ref, rCat_ref, rRep_ref, rJoin_ref, rSlL_ref, rSlS_ref, rMulS_ref, rIxL_ref, rIxT_ref, rLenK_ref, rAll_ref, rIn_ref, tLst, tTup, tPar, tPar3, tAug, tPart, tNoPart, tCall, List.getElem?_cons_zero, List.getElem?_cons_succ, List.set_cons_zero, List.set_cons_succ, List.map_cons, List.map_nil, List.append_nil, List.nil_append, List.cons_append, Option.some.injEq, exists_eq_left', exists_eq_left, exists_eq_right, exists_eq_right', exists_eq', V.int.injEq, V.str.injEq, V.bl.injEq, V.ref.injEq, List.cons.injEq, tM0, tM1, rNewStrs, sgn_eq, split_dot, split_sp, split_nl, dot_len, sp_len, nl_len, cxOf_K, L2.start, List.length_cons, List.length_nil, List.replicate_succ, List.replicate_zero, Nat.reduceSub, Nat.zero_add, and_true, true_and, and_self, exists_and_left, exists_const, Bool.false_eq_true, if_false, if_true, ite_true, ite_false, reduceIte, decide_eq_true_eq, reduceCtorEq, Nat.reduceAdd, Nat.reduceLT, L2H.iEnumN, cxH_K, cxH_prog, cxH_w, cxH_mg, cxH_base, tCallVSH, tVeI, tOst, tWhy, tXf, tCallS, tCallX, tLam1, tListZip, tCallX, tCallXU, tCallV, tCallVS, tLam1, tLamD, tCallS, tCls, tClsD, cx_cells, cx_scope, cx_N, cx_prog, cx_w, cx_base, cx_mg, cx_qual]
    refine ⟨_, .of e1, _, rfl, by decide, fun b hb => ?_⟩
    have nhb : h ≠ b := ne_of_none e1 hb
    have nlb : l ≠ b := ne_of_none e2 hb
    refine ⟨l, b, _, _, rfl, rfl, by rw [upd_ne nlb]; exact e2, upd_same, by rw [List.length_map]; exact small (by simp; omega), fun c hc2 => ?_⟩
    have nbc : b ≠ c := by
      intro e; subst e
      rw [upd_same] at hc2; cases hc2
    have nhc : h ≠ c := by
      intro e; subst e
      rw [upd_ne nhb, e1] at hc2; cases hc2
    have nlc : l ≠ c := by
      intro e; subst e
      rw [upd_ne nlb, e2] at hc2; cases hc2
    have s1 : Ext (DrS h l) H (upd (upd H b (HO.lst [V.int 0])) c (HO.lst (List.map V.int cs ++ [V.int 0]))) := .of_same (same_new (same_put (Same.refl _) hb) hc2)
    have f1 : (upd (upd H b (HO.lst [V.int 0])) c (HO.lst (List.map V.int cs ++ [V.int 0]))) h = some (.lst [.int m, .ref l, .int p]) := by rw [upd_ne nhc, upd_ne nhb]; exact e1
    have f2 : (upd (upd H b (HO.lst [V.int 0])) c (HO.lst (List.map V.int cs ++ [V.int 0]))) l = some (.lst (cs.map V.int)) := by rw [upd_ne nlc, upd_ne nlb]; exact e2
    have f3 : (upd (upd H b (HO.lst [V.int 0])) c (HO.lst (List.map V.int cs ++ [V.int 0]))) c = some (.lst ((cs ++ [0]).map V.int)) := by rw [upd_same, List.map_append]; rfl
    generalize upd (upd H b (HO.lst [V.int 0])) c (HO.lst (List.map V.int cs ++ [V.int 0])) = H1 at s1 f1 f2 f3
    refine ⟨_, .of f1, _, rfl, _, .of f1, _, rfl, ?_⟩
    simp only [tCutE, tIfE, false_and, exists_false, false_or, or_false, tRet, tRetN, tAndV, tOrV, tNotV, tChain, rI, rI0, rU, tC, tCB, tCons, tNil, tVar, tOp, tUn, tTest, tB, tAnd, tOr, tNot, tIf, tIfS, tSeq, tAsg, tDrop, tNext, tDIn, tDNotIn, tDPop1, gName, gTup_ref, gCons_cons, gNil_nil, and_assoc, tYes, wipe, rEq, rNe, scal_ss, scal_ii, scal_bb, scal_ns, scal_sn, scal_nn, scal_in, scal_ni, tLc_eq, tFor_eq, iList, iTup, iStr, iRng1, iRng2, iZip, iEnum, gSub, tSl, rSetL_ref, rCat_ref, rRep_ref, rJoin_ref, rSlL_ref, rSlS_ref, rMulS_ref, rIxL_ref, rIxT_ref, rLenK_ref, rAll_ref, rIn_ref, tLst, tTup, tPar, tPar3, tAug, tPart, tNoPart, tCall, List.getElem?_cons_zero, List.getElem?_cons_succ, List.set_cons_zero, List.set_cons_succ, List.map_cons, List.map_nil, List.append_nil, List.nil_append, List.cons_append, Option.some.injEq, exists_eq_left', exists_eq_left, exists_eq_right, exists_eq_right', exists_eq', V.int.injEq, V.str.injEq, V.bl.injEq, V.ref.injEq, List.cons.injEq, tM0, tM1, rNewStrs, sgn_eq, split_dot, split_sp, split_nl, dot_len, sp_len, nl_len, cxOf_K, L2.start, List.length_cons, List.length_nil, List.replicate_succ, List.replicate_zero, Nat.reduceSub, Nat.zero_add, and_true, true_and, and_self, exists_and_left, exists_const, Bool.false_eq_true, if_false, if_true, ite_true, ite_false, reduceIte, decide_eq_true_eq, reduceCtorEq, Nat.reduceAdd, Nat.reduceLT, L2H.iEnumN, cxH_K, cxH_prog, cxH_w, cxH_mg, cxH_base, tCallVSH, tVeI, tOst, tWhy, tXf, tCallS, tCallX, tLam1, tListZip, tCallX, tCallXU, tCallV, tCallVS, tLam1, tLamD, tCallS, tCls, tClsD, cx_cells, cx_scope, cx_N, cx_prog, cx_w, cx_base, cx_mg, cx_qual]
    refine ⟨_, .inl (.of f2), ?_⟩
    rw [List.length_map]
    have hd : (0 : Int) < if (cs.length : Int) > 1 then (cs.length : Int) else 1 := by split <;> omega
    refine ⟨hd, ?_⟩
    have hd1 : (if (cs.length : Int) > 1 then (cs.length : Int) else 1) ≤ (cs ++ [0]).length := by rw [List.length_append]; simp only [List.length_singleton]; split <;> omega
    have hi0 := Int.emod_nonneg p (b := if (cs.length : Int) > 1 then (cs.length : Int) else 1) (by omega)
    have hi1 := Int.emod_lt_of_pos p hd
    generalize hD : (if (cs.length : Int) > 1 then (cs.length : Int) else 1) = D at hd hd1 hi0 hi1
    have hix : ((p % D).toNat : Nat) < (cs ++ [0]).length := by omega
    have hci : (cs ++ [(0 : Int)])[(p % D).toNat]? = some ((cs ++ [0])[(p % D).toNat]) := List.getElem?_eq_getElem hix
    generalize (cs ++ [(0 : Int)])[(p % D).toNat] = cell at hci
    have hat : atI ((cs ++ [0]).map V.int) (p % D) = some (.int cell) := by
      have e : (p % D) = (((p % D).toNat : Nat) : Int) := by omega
      rw [e]
      refine atI_nat ?_
      rw [List.getElem?_map, hci]; rfl
    refine ⟨_, .of f3, _, hat, ⟨by decide, by decide, by decide⟩, _, rfl, ?_⟩
    split
    · rename_i hbig
      have hcs : 0 < cs.length := by
        rcases Nat.eq_zero_or_pos cs.length with e | e
        · exfalso
          have ec : cs = [] := List.eq_nil_of_length_eq_zero e
          subst ec
          have ex : (p % D).toNat = 0 := by simp at hix; omega
          rw [ex] at hci
          have := Option.some.inj hci
          subst this
          exact absurd hbig (by decide)
        · exact e
      simp only [tCutE, tIfE, false_and, exists_false, false_or, or_false, tRet, tRetN, tAndV, tOrV, tNotV, tChain, rI, rI0, rU, tC, tCB, tCons, tNil, tVar, tOp, tUn, tTest, tB, tAnd, tOr, tNot, tIf, tIfS, tSeq, tAsg, tDrop, tNext, tDIn, tDNotIn, tDPop1, gName, gTup_ref, gCons_cons, gNil_nil, and_assoc, tYes, wipe, rEq, rNe, scal_ss, scal_ii, scal_bb, scal_ns, scal_sn, scal_nn, scal_in, scal_ni, tLc_eq, tFor_eq, iList, iTup, iStr, iRng1, iRng2, iZip, iEnum, gSub, tSl, rSetL_ref, rCat_ref, rRep_ref, rJoin_ref, rSlL_ref, rSlS_ref, rMulS_ref, rIxL_ref, rIxT_ref, rLenK_ref, rAll_ref, rIn_ref, tLst, tTup, tPar, tPar3, tAug, tPart, tNoPart, tCall, List.getElem?_cons_zero, List.getElem?_cons_succ, List.set_cons_zero, List.set_cons_succ, List.map_cons, List.map_nil, List.append_nil, List.nil_append, List.cons_append, Option.some.injEq, exists_eq_left', exists_eq_left, exists_eq_right, exists_eq_right', exists_eq', V.int.injEq, V.str.injEq, V.bl.injEq, V.ref.injEq, List.cons.injEq, tM0, tM1, rNewStrs, sgn_eq, split_dot, split_sp, split_nl, dot_len, sp_len, nl_len, cxOf_K, L2.start, List.length_cons, List.length_nil, List.replicate_succ, List.replicate_zero, Nat.reduceSub, Nat.zero_add, and_true, true_and, and_self, exists_and_left, exists_const, Bool.false_eq_true, if_false, if_true, ite_true, ite_false, reduceIte, decide_eq_true_eq, reduceCtorEq, Nat.reduceAdd, Nat.reduceLT, L2H.iEnumN, cxH_K, cxH_prog, cxH_w, cxH_mg, cxH_base, tCallVSH, tVeI, tOst, tWhy, tXf, tCallS, tCallX, tLam1, tListZip, tCallX, tCallXU, tCallV, tCallVS, tLam1, tLamD, tCallS, tCls, tClsD, cx_cells, cx_scope, cx_N, cx_prog, cx_w, cx_base, cx_mg, cx_qual]
      refine ⟨⟨h0, h1⟩, _, .of f1, _, rfl, _, .of f1, _, rfl, _, .of f1, _, rfl, ?_⟩
      simp only [tCutE, tIfE, false_and, exists_false, false_or, or_false, tRet, tRetN, tAndV, tOrV, tNotV, tChain, rI, rI0, rU, tC, tCB, tCons, tNil, tVar, tOp, tUn, tTest, tB, tAnd, tOr, tNot, tIf, tIfS, tSeq, tAsg, tDrop, tNext, tDIn, tDNotIn, tDPop1, gName, gTup_ref, gCons_cons, gNil_nil, and_assoc, tYes, wipe, rEq, rNe, scal_ss, scal_ii, scal_bb, scal_ns, scal_sn, scal_nn, scal_in, scal_ni, tLc_eq, tFor_eq, iList, iTup, iStr, iRng1, iRng2, iZip, iEnum, gSub, tSl, rSetL_ref, rCat_ref, rRep_ref, rJoin_ref, rSlL_ref, rSlS_ref, rMulS_ref, rIxL_ref, rIxT_ref, rLenK_ref, rAll_ref, rIn_ref, tLst, tTup, tPar, tPar3, tAug, tPart, tNoPart, tCall, List.getElem?_cons_zero, List.getElem?_cons_succ, List.set_cons_zero, List.set_cons_succ, List.map_cons, List.map_nil, List.append_nil, List.nil_append, List.cons_append, Option.some.injEq, exists_eq_left', exists_eq_left, exists_eq_right, exists_eq_right', exists_eq', V.int.injEq, V.str.injEq, V.bl.injEq, V.ref.injEq, List.cons.injEq, tM0, tM1, rNewStrs, sgn_eq, split_dot, split_sp, split_nl, dot_len, sp_len, nl_len, cxOf_K, L2.start, List.length_cons, List.length_nil, List.replicate_succ, List.replicate_zero, Nat.reduceSub, Nat.zero_add, and_true, true_and, and_self, exists_and_left, exists_const, Bool.false_eq_true, if_false, if_true, ite_true, ite_false, reduceIte, decide_eq_true_eq, reduceCtorEq, Nat.reduceAdd, Nat.reduceLT, L2H.iEnumN, cxH_K, cxH_prog, cxH_w, cxH_mg, cxH_base, tCallVSH, tVeI, tOst, tWhy, tXf, tCallS, tCallX, tLam1, tListZip, tCallX, tCallXU, tCallV, tCallVS, tLam1, tLamD, tCallS, tCls, tClsD, cx_cells, cx_scope, cx_N, cx_prog, cx_w, cx_base, cx_mg, cx_qual]
      refine ⟨_, .inl (.of f2), ?_⟩
      rw [List.length_map]
      have hr0 := Int.emod_nonneg p (b := (cs.length : Int)) (by omega)
      have hr1 := Int.emod_lt_of_pos p (b := (cs.length : Int)) (by omega)
      refine ⟨by omega, _, f2, _, ixN_in hr0 (by rw [List.length_map]; exact hr1), h0, ?_⟩
      refine q _ _ (s1.trans ((Ext.refl _ _).put (.inr (.inr rfl)))) ⟨m, p, cs.set (p % (cs.length : Int)).toNat (cell / n), by rw [upd_ne hne]; exact f1, by rw [upd_same, List.map_set], hm0, hm1, hp, by rw [List.length_set]; exact hc⟩ (Int.emod_nonneg _ (by omega)) (Int.emod_lt_of_pos _ h0)
    · rename_i hsm
      simp only [tCutE, tIfE, false_and, exists_false, false_or, or_false, tRet, tRetN, tAndV, tOrV, tNotV, tChain, rI, rI0, rU, tC, tCB, tCons, tNil, tVar, tOp, tUn, tTest, tB, tAnd, tOr, tNot, tIf, tIfS, tSeq, tAsg, tDrop, tNext, tDIn, tDNotIn, tDPop1, gName, gTup_ref, gCons_cons, gNil_nil, and_assoc, tYes, wipe, rEq, rNe, scal_ss, scal_ii, scal_bb, scal_ns, scal_sn, scal_nn, scal_in, scal_ni, tLc_eq, tFor_eq, iList, iTup, iStr, iRng1, iRng2, iZip, iEnum, gSub, tSl, rSetL_ref, rCat_ref, rRep_ref, rJoin_ref, rSlL_ref, rSlS_ref, rMulS_ref, rIxL_ref, rIxT_ref, rLenK_ref, rAll_ref, rIn_ref, tLst, tTup, tPar, tPar3, tAug, tPart, tNoPart, tCall, List.getElem?_cons_zero, List.getElem?_cons_succ, List.set_cons_zero, List.set_cons_succ, List.map_cons, List.map_nil, List.append_nil, List.nil_append, List.cons_append, Option.some.injEq, exists_eq_left', exists_eq_left, exists_eq_right, exists_eq_right', exists_eq', V.int.injEq, V.str.injEq, V.bl.injEq, V.ref.injEq, List.cons.injEq, tM0, tM1, rNewStrs, sgn_eq, split_dot, split_sp, split_nl, dot_len, sp_len, nl_len, cxOf_K, L2.start, List.length_cons, List.length_nil, List.replicate_succ, List.replicate_zero, Nat.reduceSub, Nat.zero_add, and_true, true_and, and_self, exists_and_left, exists_const, Bool.false_eq_true, if_false, if_true, ite_true, ite_false, reduceIte, decide_eq_true_eq, reduceCtorEq, Nat.reduceAdd, Nat.reduceLT, L2H.iEnumN, cxH_K, cxH_prog, cxH_w, cxH_mg, cxH_base, tCallVSH, tVeI, tOst, tWhy, tXf, tCallS, tCallX, tLam1, tListZip, tCallX, tCallXU, tCallV, tCallVS, tLam1, tLamD, tCallS, tCls, tClsD, cx_cells, cx_scope, cx_N, cx_prog, cx_w, cx_base, cx_mg, cx_qual]
      refine ⟨_, .of f1, _, rfl, _, rfl, .inr ⟨by decide, by decide⟩, .inr ⟨by decide, by decide⟩, by decide, _, f1, 0, rfl, _, .of upd_same, _, rfl, _, rfl, _, upd_same, 2, rfl, _, .of upd_same, _, rfl, _, rfl, ⟨by decide, by decide⟩, h0, ?_⟩
      refine q _ _ (s1.trans (((Ext.refl _ _).put (.inr (.inl rfl))).put (.inr (.inl rfl)))) ⟨_, _, cs, upd_same, by rw [upd_ne hne.symm, upd_ne hne.symm]; exact f2, Int.emod_nonneg _ (by decide), Int.emod_lt_of_pos _ (by decide), by omega, hc⟩ (Int.emod_nonneg _ (by omega)) (Int.emod_lt_of_pos _ h0)
theorem SrcOk.put {H : Hp} {h l D : Addr} {o : HO} (s : SrcOk H h l) (n1 : D ≠ h) (n2 : D ≠ l) : SrcOk (upd H D o) h l := by
  obtain ⟨m, p, cs, e1, e2, r⟩ := s
  exact ⟨m, p, cs, by rw [upd_ne n1.symm]; exact e1, by rw [upd_ne n2.symm]; exact e2, r⟩
theorem SrcOk.neD {H : Hp} {h l D : Addr} (s : SrcOk H h l) (n : H D = none) : D ≠ h ∧ D ≠ l := by
  obtain ⟨m, p, cs, e1, e2, r⟩ := s
  exact ⟨(ne_of_none e1 n).symm, (ne_of_none e2 n).symm⟩
theorem SrcOk.new {H : Hp} {h l D : Addr} {o : HO} (s : SrcOk H h l) (n : H D = none) : SrcOk (upd H D o) h l := s.put (s.neD n).1 (s.neD n).2
theorem Ext.new {S : Addr → Prop} {H H1 : Hp} {p : Addr} {o : HO} (s : Ext S H H1) (n : H1 p = none) (hS : ¬ S p) : Ext S H (upd H1 p o) := s.put (.inl (s.free hS n))
theorem SrcOk.nD {H : Hp} {h l D : Addr} (s : SrcOk H h l) (n : H D = none) : ¬ DrS h l D := fun z => z.elim (s.neD n).1 (s.neD n).2
theorem SrcOk.same {H H' : Hp} {h l : Addr} (s : SrcOk H h l) (e : Same H H') : SrcOk H' h l := by
  obtain ⟨m, pp, cs, e1, e2, r⟩ := s
  exact ⟨m, pp, cs, e _ _ e1, e _ _ e2, r⟩
theorem SrcOk.off {H : Hp} {h l D : Addr} (s : SrcOk H h l) (n1 : D ≠ h) (n2 : D ≠ l) : SrcOk (offA D H) h l := by
  obtain ⟨m, pp, cs, e1, e2, r⟩ := s
  exact ⟨m, pp, cs, by rw [offA_ne n1.symm]; exact e1, by rw [offA_ne n2.symm]; exact e2, r⟩
theorem SrcOk.tups {H H' : Hp} {h l : Addr} (s : SrcOk H h l) (e : Ext (DrS h l) H H') : ∀ t x, H t = some (.tup x) → H' t = some (.tup x) := fun t x ht => by
  obtain ⟨m, pp, cs, e1, e2, r⟩ := s
  refine e t _ (fun z => ?_) ht
  rcases z with z | z
  · rw [z, e1] at ht; cases ht
  · rw [z, e2] at ht; cases ht
end
end Hk

set_option Elab.async false
set_option linter.all false
set_option maxRecDepth 100000
set_option maxHeartbeats 4000000
namespace Hk
open PySem PySem.Spec PyProof.Rows L2
open LamX NdefX
open TL
section
variable {P : Program} {w : World} {K : PySem.W.Frag} {mg : Str → Option Value} {base : Heap}

/-! ### rows as data -/
def rowD (r : Row) : PyData := .tuple [.str r.p, .str r.n, .int r.r, .bool r.o, .str r.g]
theorem rowD_dp {H : Hp} {t : Addr} {r : Row} (h : SqT K H t (rowVs r)) : Dp K H (.ref t) (rowD r) := .tup h (.cons (.str _) (.cons (.str _) (.cons (.int _) (.cons (.bl _) (.cons (.str _) .nil)))))
theorem rowD_inv {H : Hp} {v : V} {r : Row} (h : Dp K H v (rowD r)) : ∃ t, v = .ref t ∧ SqT K H t (rowVs r) := by
  cases h with
  | tup h a =>
    cases a with
    | cons h1 a => cases h1; cases a with
      | cons h1 a => cases h1; cases a with
        | cons h1 a => cases h1; cases a with
          | cons h1 a => cases h1; cases a with
            | cons h1 a => cases h1; cases a; exact ⟨_, rfl, h⟩
/-! ### rank_of -/
theorem one_of {z : Str} (h : z.length = 1) : ∃ c, z = ⟨#[c]⟩ ∧ tl z = [c] := by
  rw [len_tl] at h
  obtain ⟨c, hc⟩ := List.length_eq_one_iff.mp h
  exact ⟨c, ext_tl (by rw [hc]), hc⟩
def sp_rank_of : Sp := fun vs H Q _ => ∃ z : Str, vs = [.str z] ∧ z.length ≤ 10000 ∧ (rankOf z = none → ∀ H', Same H H' → Q .non H') ∧ (∀ r, rankOf z = some r → ∀ H', Same H H' → Q (.int r) H')
theorem dig_mem {c : Nat} : (c ∈ (Str.ofString "0123456789").cps.toList) ↔ (48 ≤ c ∧ c ≤ 57) := by
  have e : (Str.ofString "0123456789").cps.toList = [48, 49, 50, 51, 52, 53, 54, 55, 56, 57] := by decide +kernel
  rw [e]
  simp only [List.mem_cons, List.not_mem_nil, or_false]
  omega
theorem dig_list {c : Nat} (h : 48 ≤ c ∧ c ≤ 57) : c ∈ [48, 49, 50, 51, 52, 53, 54, 55, 56, 57] := by
  simp only [List.mem_cons, List.not_mem_nil, or_false]
  omega
theorem G_rank_of (T : Tx K mg) : Glob P w K mg base (CX0) 1 "rank_of" p_rank_of [] sp_rank_of := by
  obtain ⟨fd, F⟩ := T.f_rank_of
  refine ⟨_, fd, [], F.ok sc_rank_of (fun vs H Q E h => ?_) (fun cdv A outer s H vs Q E hr h => ?_), T.g_rank_of, F.kp, .nil, F.bindsN fun _ _ _ _ _ _ us hl => match us, hl with | [_], _ => rfl⟩
  · obtain ⟨z, rfl, _⟩ := h; rfl
  · obtain ⟨z, rfl, hz, q1, q2⟩ := h
    refine ⟨_, PSs.nox (pss_cons (ps_set (i := 1) sc_rank_of.nd rfl (Or.inl rfl) (pe_ifExp (pt_val (pe_m1 PySem.F.slot_str_startswith PySem.F.type_str_startswith mt_startswith (pv 0) pe_str)) (pe_slice sl_str (pv 0) (po_some pe_int) po_none) (pv 0)))
      (pss_cons (ps_if (PW.pt (pw_or (pt_cmpR op_ne (pe_callB call_len_str (by rfl) T.b_len (by decide +kernel) (pa_cons (pv 1) pa_nil)) pe_int (nomark _)) (pw_or (pt_cmpR op_notIn_sign (pv 1) (pe_gs T.c_FIGURES (by rfl)) (by rfl)) (pw_or1 (pt_cmpR op_eq (pv 0) pe_str (nomark _))))))
      (pss_one (ps_ret pe_non))
      pss_nil)
      (pss_one (ps_ret (pe_callTy call_int_str (by rfl) T.b_int (by decide +kernel) (pa_cons (pv 0) pa_nil)))))), ?_⟩
    simp only [tCutE, tIfE, false_and, exists_false, false_or, or_false, tRet, tRetN, tAndV, tOrV, tNotV, tChain, rI, rI0, rU, tC, tCB, tCons, tNil, tVar, tOp, tUn, tTest, tB, tAnd, tOr, tNot, tIf, tIfS, tSeq, tAsg, tDrop, tNext, tDIn, tDNotIn, tDPop1, gName, gTup_ref, gCons_cons, gNil_nil, and_assoc, tYes, wipe, rEq, rNe, scal_ss, scal_ii, scal_bb, scal_ns, scal_sn, scal_nn, scal_in, scal_ni, tLc_eq, tFor_eq, iList, iTup, iStr, iRng1, iRng2, iZip, iEnum, gSub, tSl, rSetL_ref, rCat_ref, rRep_ref, rJoin_ref, rSlL_ref, rSlS_ref, rMulS_ref, rIxL_ref, rIxT_ref, rLenK_ref, rAll_ref, rIn_ref, tLst, tTup, tPar, tPar3, tAug, tPart, tNoPart, tCall, List.getElem?_cons_zero, List.getElem?_cons_succ, List.set_cons_zero, List.set_cons_succ, List.map_cons, List.map_nil, List.append_nil, List.nil_append, List.cons_append, Option.some.injEq, exists_eq_left', exists_eq_left, exists_eq_right, exists_eq_right', exists_eq', V.int.injEq, V.str.injEq, V.bl.injEq, V.ref.injEq, List.cons.injEq, tM0, tM1, rNewStrs, sgn_eq, split_dot, split_sp, split_nl, dot_len, sp_len, nl_len, cxOf_K, L2.start, List.length_cons, List.length_nil, List.replicate_succ, List.replicate_zero, Nat.reduceSub, Nat.zero_add, and_true, true_and, and_self, exists_and_left, exists_const, Bool.false_eq_true, if_false, if_true, ite_true, ite_false, reduceIte, decide_eq_true_eq, reduceCtorEq, Nat.reduceAdd, Nat.reduceLT, L2H.iEnumN, cxH_K, cxH_prog, cxH_w, cxH_mg, cxH_base, tCallVSH, tVeI, tOst, tWhy, tXf, tCallS, tCallX, tLam1, tListZip, tCallX, tCallXU, tCallV, tCallVS, tLam1, tLamD, tCallS, tCls, tClsD, cx_cells, cx_scope, cx_N, cx_prog, cx_w, cx_base, cx_mg, cx_qual]
    rw [show Txt.startswith z (Str.ofString "-") = decide ((tl z).head? = some 45) from starts_minus z]
    have hz' : (tl z).length ≤ 10000 := by rw [← len_tl]; exact hz
    by_cases h0 : (tl z).head? = some 45
    · refine ifP (decide_eq_true h0) ?_
      obtain ⟨r, hr'⟩ : ∃ r, tl z = 45 :: r := by
        cases h : tl z with
        | nil => rw [h] at h0; simp at h0
        | cons c r => rw [h] at h0; simp at h0; exact ⟨r, by rw [h0]⟩
      have e1 : tl (cutS z (some 1) none) = r := by rw [tl_cut1, hr']; rfl
      have e2 : (cutS z (some 1) none).length = r.length := by rw [len_tl, e1]
      have hz2 : r.length ≤ 10000 := by rw [hr'] at hz'; simp at hz'; omega
      refine ⟨small (by omega), small (by omega), ?_⟩
      rw [e2]
      by_cases h1 : r.length = 1
      · refine ifN (by simp [h1]) ?_
        obtain ⟨c, hc, hc2⟩ := one_of (z := cutS z (some 1) none) (by rw [e2, h1])
        rw [e1] at hc2
        refine ⟨c, hc, ?_⟩
        have hzc : z = ⟨#[45, c]⟩ := ext_tl (by rw [hr', hc2])
        by_cases h2 : 48 ≤ c ∧ c ≤ 57
        · refine ifN (by simp [dig_mem.mpr h2]) ?_
          by_cases h3 : c = 48
          · refine ifP (by rw [hzc, h3]; decide +kernel) (q1 ?_ _ (Same.refl _))
            unfold rankOf; rw [hr', hc2, h3]; rfl
          · refine ifN (fun e => h3 ?_) ⟨48 - (c : Int), by rw [hzc]; exact (int_text c (dig_list h2)).2, by rw [len_tl, hr', hc2]; simp, q2 _ ?_ _ (Same.refl _)⟩
            · have := congrArg tl e
              rw [hr', hc2, show tl (Str.ofString "-0") = [45, 48] by decide +kernel] at this
              simpa using this
            · unfold rankOf; rw [hr', hc2]
              exact if_pos ⟨rfl, by omega, by omega⟩
        · refine ifP (by rw [decide_eq_false (fun z => h2 (dig_mem.mp z))]; rfl) (q1 ?_ _ (Same.refl _))
          unfold rankOf; rw [hr', hc2]
          exact if_neg (fun z => h2 ⟨by omega, by omega⟩)
      · refine ifP (by simp; omega) (q1 ?_ _ (Same.refl _))
        unfold rankOf; rw [hr']
        match r, h1 with
        | [], _ => rfl
        | _ :: _ :: _, _ => rfl
    · refine ifN (by simp [h0]) ⟨small (by omega), ?_⟩
      by_cases h1 : z.length = 1
      · refine ifN (by simp [h1]) ?_
        obtain ⟨c, hc, hc2⟩ := one_of h1
        refine ⟨c, hc, ?_⟩
        by_cases h2 : 48 ≤ c ∧ c ≤ 57
        · refine ifN (by simp [dig_mem.mpr h2]) ?_
          refine ifN (fun e => ?_) ⟨(c : Int) - 48, by rw [hc]; exact (int_text c (dig_list h2)).1, by omega, q2 _ ?_ _ (Same.refl _)⟩
          · have := congrArg tl e
            rw [hc2, show tl (Str.ofString "-0") = [45, 48] by decide +kernel] at this
            simp at this
          · unfold rankOf; rw [hc2]
            simp only [rankL]
            rw [if_pos h2]
        · refine ifP (by rw [decide_eq_false (fun z => h2 (dig_mem.mp z))]; rfl) (q1 ?_ _ (Same.refl _))
          unfold rankOf; rw [hc2]
          simp only [rankL]
          rw [if_neg h2]
      · refine ifP (by simp; omega) (q1 ?_ _ (Same.refl _))
        unfold rankOf
        rw [len_tl] at h1
        match h : tl z with
        | [] => rfl
        | [_] => rw [h] at h1; simp at h1
        | [a, b] => 
          simp only [rankL]
          rw [if_neg]
          rintro ⟨e, _⟩
          rw [h, e] at h0; simp at h0
        | _ :: _ :: _ :: _ => rfl
end
end Hk

set_option Elab.async false
set_option linter.all false
set_option maxRecDepth 100000
set_option maxHeartbeats 4000000
namespace Hk
open PySem PySem.Spec PyProof.Rows L2
open LamX NdefX
open TL
section
variable {P : Program} {w : World} {K : PySem.W.Frag} {mg : Str → Option Value} {base : Heap}
/-! ### row_of -/
def sp_row_of (K : PySem.W.Frag) : Sp := fun vs H Q _ => ∃ (a : Addr) (ws : List Str), vs = [.ref a] ∧ SqL K H a (ws.map V.str) ∧ ws.length ≤ 10001 ∧ (∀ z ∈ ws, z.length ≤ 10000 ∧ PyData.strOk z = true) ∧ (rowOf ws = none → ∀ H', Same H H' → Q .non H') ∧
  (∀ r, rowOf ws = some r → ∀ H' t, Same H H' → H t = none → H' t = some (.tup (rowVs r)) → Q (.ref t) H')
theorem G_row_of (T : Tx K mg) : Glob P w K mg base (CX0) 3 "row_of" p_row_of [] (sp_row_of K) := by
  obtain ⟨fd, F⟩ := T.f_row_of
  refine ⟨_, fd, [], F.ok sc_row_of (fun vs H Q E h => ?_) (fun cdv A outer s H vs Q E hr h => ?_), T.g_row_of, F.kp, .nil, F.bindsN fun _ _ _ _ _ _ us hl => match us, hl with | [_], _ => rfl⟩
  · obtain ⟨a, ws, rfl, _⟩ := h; rfl
  · obtain ⟨a, ws, rfl, hS, hl, he, q1, q2⟩ := h
    refine ⟨_, PSs.nox (pss_cons (ps_if (PW.pt (pw_or (pt_cmpR op_lt (pe_callB (call_len_seqK (K := K) rfl) (by rfl) T.b_len (by decide +kernel) (pa_cons (pv 0) pa_nil)) pe_int (nomark _)) (pw_or (pt_not (pt_val (pe_callG (G_is_pattern T) (hr.mono (by first | decide | omega)) (by rfl) pass0 (pa_cons (pe_ix (ix_listK (K := K) rfl) (pv 0) pe_int (fun _ _ => rfl)) pa_nil)))) (pw_or (pt_not (pt_val (pe_callG (G_is_word T) (hr.mono (by first | decide | omega)) (by rfl) pass0 (pa_cons (pe_ix (ix_listK (K := K) rfl) (pv 0) pe_int (fun _ _ => rfl)) pa_nil)))) (pw_or1 (pt_cmpR op_isN (pe_callG (G_rank_of T) (hr.mono (by first | decide | omega)) (by rfl) pass0 (pa_cons (pe_ix (ix_listK (K := K) rfl) (pv 0) pe_int (fun _ _ => rfl)) pa_nil)) pe_non (nomark _)))))))
      (pss_one (ps_ret pe_non))
      pss_nil)
      (pss_cons (ps_set (i := 1) sc_row_of.nd rfl (Or.inl rfl) (pe_slice (sl_listK (K := K) rfl) (pv 0) (po_some pe_int) po_none))
      (pss_cons (ps_set (i := 2) sc_row_of.nd rfl (Or.inl rfl) (pe_cmpR (op_eqDK (K := K) rfl hr.units) (pe_slice (sl_listK (K := K) rfl) (pv 1) po_none (po_some pe_int)) (pe_lst (pa_cons pe_str pa_nil)) (nomark _)))
      (pss_cons (ps_if (pt_val (pv 2))
      (pss_one (ps_expr (pe_bmK (K := K) rfl PySem.F.plainAttrs_list PySem.F.slot_list_pop PySem.F.type_list_pop mt_popAt (pv 1) (pa_cons pe_int pa_nil))))
      pss_nil)
      (pss_cons (ps_if (PW.pt (pw_and (pt_cmpR (op_neDK (K := K) rfl hr.units) (pv 1) (pe_lst pa_nil) (nomark _)) (pw_and1 (PW.pt (pw_or (pt_cmpR op_ne (pe_callB (call_len_seqK (K := K) rfl) (by rfl) T.b_len (by decide +kernel) (pa_cons (pv 1) pa_nil)) pe_int (nomark _)) (pw_or (pt_cmpR op_ne (pe_ix (ix_listK (K := K) rfl) (pv 1) pe_int (fun _ _ => rfl)) pe_str (nomark _)) (pw_or1 (pt_not (pt_val (pe_callG (G_is_word T) (hr.mono (by first | decide | omega)) (by rfl) pass0 (pa_cons (pe_ix (ix_listK (K := K) rfl) (pv 1) pe_int (fun _ _ => rfl)) pa_nil)))))))))))
      (pss_one (ps_ret pe_non))
      pss_nil)
      (pss_one (ps_ret (pe_tup (pa_cons (pe_ix (ix_listK (K := K) rfl) (pv 0) pe_int (fun _ _ => rfl)) (pa_cons (pe_ix (ix_listK (K := K) rfl) (pv 0) pe_int (fun _ _ => rfl)) (pa_cons (pe_callG (G_rank_of T) (hr.mono (by first | decide | omega)) (by rfl) pass0 (pa_cons (pe_ix (ix_listK (K := K) rfl) (pv 0) pe_int (fun _ _ => rfl)) pa_nil)) (pa_cons (pv 2) (pa_cons (pe_joinK (K := K) rfl pe_str (pe_slice (sl_listK (K := K) rfl) (pv 1) (po_some pe_int) po_none)) pa_nil))))))))))))), ?_⟩
    simp only [tCutE, tIfE, false_and, exists_false, false_or, or_false, tRet, tRetN, tAndV, tOrV, tNotV, tChain, rI, rI0, rU, tC, tCB, tCons, tNil, tVar, tOp, tUn, tTest, tB, tAnd, tOr, tNot, tIf, tIfS, tSeq, tAsg, tDrop, tNext, tDIn, tDNotIn, tDPop1, gName, gTup_ref, gCons_cons, gNil_nil, and_assoc, tYes, wipe, rEq, rNe, scal_ss, scal_ii, scal_bb, scal_ns, scal_sn, scal_nn, scal_in, scal_ni, tLc_eq, tFor_eq, iList, iTup, iStr, iRng1, iRng2, iZip, iEnum, gSub, tSl, rSetL_ref, rCat_ref, rRep_ref, rJoin_ref, rSlL_ref, rSlS_ref, rMulS_ref, rIxL_ref, rIxT_ref, rLenK_ref, rAll_ref, rIn_ref, tLst, tTup, tPar, tPar3, tAug, tPart, tNoPart, tCall, List.getElem?_cons_zero, List.getElem?_cons_succ, List.set_cons_zero, List.set_cons_succ, List.map_cons, List.map_nil, List.append_nil, List.nil_append, List.cons_append, Option.some.injEq, exists_eq_left', exists_eq_left, exists_eq_right, exists_eq_right', exists_eq', V.int.injEq, V.str.injEq, V.bl.injEq, V.ref.injEq, List.cons.injEq, tM0, tM1, rNewStrs, sgn_eq, split_dot, split_sp, split_nl, dot_len, sp_len, nl_len, cxOf_K, L2.start, List.length_cons, List.length_nil, List.replicate_succ, List.replicate_zero, Nat.reduceSub, Nat.zero_add, and_true, true_and, and_self, exists_and_left, exists_const, Bool.false_eq_true, if_false, if_true, ite_true, ite_false, reduceIte, decide_eq_true_eq, reduceCtorEq, Nat.reduceAdd, Nat.reduceLT, L2H.iEnumN, cxH_K, cxH_prog, cxH_w, cxH_mg, cxH_base, tCallVSH, tVeI, tOst, tWhy, tXf, tCallS, tCallX, tLam1, tListZip, tCallX, tCallXU, tCallV, tCallVS, tLam1, tLamD, tCallS, tCls, tClsD, cx_cells, cx_scope, cx_N, cx_prog, cx_w, cx_base, cx_mg, cx_qual]
    refine ⟨_, .inl hS, ?_⟩
    by_cases h3 : ws.length < 3
    · refine ifP (by rw [List.length_map]; omega) (q1 (rowOf_few h3) _ (Same.refl _))
    · refine ifN (by rw [List.length_map]; omega) ⟨_, hS, ?_⟩
      obtain ⟨x, y, c, rest, rfl⟩ : ∃ x y c rest, ws = x :: y :: c :: rest := by
        match ws, h3 with
        | x :: y :: c :: rest, _ => exact ⟨x, y, c, rest, rfl⟩
        | [], h => simp at h
        | [_], h => simp at h
        | [_, _], h => simp at h
      refine ⟨.str x, atI_nat (j := 0) rfl, x, rfl, (he x (by simp)).1, fun H1 s1 => ⟨_, rfl, ?_⟩⟩
      by_cases hp : isPat x = true
      · refine ifN (by simp [hp]) ?_
        refine ⟨_, s1.seq hS, .str y, atI_nat (j := 1) rfl, ?_⟩
        refine ⟨y, rfl, (he y (by simp)).1, fun H2 s2 => ⟨_, rfl, ?_⟩⟩
        have s2 := s1.trans s2
        by_cases hn : isWord y = true
        · refine ifN (by simp [hn]) ?_
          refine ⟨_, s2.seq hS, .str c, atI_nat (j := 2) rfl, ?_⟩
          refine ⟨c, rfl, (he c (by simp)).1, fun hc H3 s3 => ?_, fun r hc H3 s3 => ?_⟩
          · exact ifP rfl (q1 (rowOf_norank hc) _ (s2.trans s3))
          · refine ifN (fun z => by cases z) ?_
            have s3 := s2.trans s3
            have hro := rowOf_rank (rest := rest) hp hn hc
            refine ⟨_, s3.seq hS, fun p hp3 => ?_⟩
            have hpn : H p = none := s3.free hp3
            have hl' : rest.length ≤ 10000 := by simp at hl; omega
            have he' : ∀ z ∈ rest, z.length ≤ 10000 ∧ PyData.strOk z = true := fun z hz => he z (by simp [hz])
            /- the tuple -/
            have fin : ∀ (H1 : Hp) (us : List Str) (once : Bool) (g : Str), Same H H1 → H1 p = some (.lst (us.map V.str)) → rowTail us = some g → rowOf (x :: y :: c :: rest) = some ⟨x, y, r, once, g⟩ → (∀ z ∈ us, z.length ≤ 10000 ∧ PyData.strOk z = true) →
                ∃ xs, SqL K H1 a xs ∧ ∃ x_5, atI xs 0 = some x_5 ∧ ∃ xs, SqL K H1 a xs ∧ ∃ x_6, atI xs 1 = some x_6 ∧ ∃ xs, SqL K H1 a xs ∧ ∃ x_7, atI xs 2 = some x_7 ∧ sp_rank_of [x_7] H1 (fun x_8 H1 => ∃ xs, SqL K H1 p xs ∧ ∀ (p : Addr), H1 p = none → ∃ ys : List Str, (SqL K (upd H1 p (HO.lst (cutV xs (some 1) none))) p (List.map V.str ys) ∨ SqT K (upd H1 p (HO.lst (cutV xs (some 1) none))) p (List.map V.str ys)) ∧ (List.map (fun x => x.length) ys).sum + ys.length * (Str.ofString "").length ≤ 16777216 ∧ 5 ≤ sizeLine ∧ ∀ (p_4 : Addr), upd H1 p (HO.lst (cutV xs (some 1) none)) p_4 = none → Q (V.ref p_4) (upd (upd H1 p (HO.lst (cutV xs (some 1) none))) p_4 (HO.tup [x_5, x_6, x_8, .bl once, V.str (Txt.join (Str.ofString "") ys)]))) E0 := by
              intro H4 us once g s4 h4 hg hr4 hu
              refine ⟨_, s4.seq hS, .str x, atI_nat (j := 0) rfl, _, s4.seq hS, .str y, atI_nat (j := 1) rfl, _, s4.seq hS, .str c, atI_nat (j := 2) rfl, ?_⟩
              refine ⟨c, rfl, (he c (by simp)).1, fun hc2 => ?_, fun r2 hc2 H5 s5 => ?_⟩
              · rw [hc] at hc2; cases hc2
              · rw [hc] at hc2; cases hc2
                refine ⟨_, s5.seq (.of h4), fun q hq => ?_⟩
                have e1 : cutV (us.map V.str) (some 1) none = (us.drop 1).map V.str := by rw [show (1 : Int) = ((1 : Nat) : Int) from rfl, cutV_from, List.map_drop]
                rw [e1]
                have hlen : (Str.ofString "").length = 0 := by decide +kernel
                have e2 := join_tail hg
                refine ⟨us.drop 1, .inl (.of upd_same), ?_, by decide, fun t ht => ?_⟩
                · rw [hlen]
                  rcases rowTail_cases hg with ⟨e, _⟩ | ⟨e, _⟩
                  · rw [e]; simp
                  · have := (hu g (by rw [e]; simp)).1
                    rw [e]; simp; omega
                · rw [e2]
                  have s6 : Same H (upd H5 q (.lst ((us.drop 1).map V.str))) := same_new (s4.trans s5) (by rw [e1] at *; exact hq)
                  exact q2 _ hr4 _ t (same_new s6 ht) (s6.free ht) upd_same
            have tail : ∀ (H1 : Hp) (us : List Str) (once : Bool), Same H H1 → H1 p = some (.lst (us.map V.str)) → rowOf (x :: y :: c :: rest) = (rowTail us).map (fun g => (⟨x, y, r, once, g⟩ : Row)) → (∀ z ∈ us, z.length ≤ 10000 ∧ PyData.strOk z = true) →
                0 ≤ sizeLine ∧ ∀ (p_3 : Addr), H1 p_3 = none → rNeD K (V.ref p) (V.ref p_3) (upd H1 p_3 (HO.lst [])) fun x_1 H' => ∃ k, x_1 = V.bl k ∧ if k = true then ∃ ys, (SqL K H' p ys ∨ SqT K H' p ys) ∧ if (!decide ((ys.length : Int) = 2)) = true then Q V.non H' else ∃ xs, SqL K H' p xs ∧ ∃ x_2, atI xs 0 = some x_2 ∧ scal x_2 (V.str (Str.ofString "in")) = true ∧ if (!decide (x_2 = V.str (Str.ofString "in"))) = true then Q V.non H' else ∃ xs, SqL K H' p xs ∧ ∃ x_3, atI xs 1 = some x_3 ∧ sp_is_word [x_3] H' (fun x_4 H1 => ∃ c, x_4 = V.bl c ∧ if (!c) = true then Q V.non H1 else ∃ xs, SqL K H1 a xs ∧ ∃ x_5, atI xs 0 = some x_5 ∧ ∃ xs, SqL K H1 a xs ∧ ∃ x_6, atI xs 1 = some x_6 ∧ ∃ xs, SqL K H1 a xs ∧ ∃ x_7, atI xs 2 = some x_7 ∧ sp_rank_of [x_7] H1 (fun x_8 H1 => ∃ xs, SqL K H1 p xs ∧ ∀ (p : Addr), H1 p = none → ∃ ys : List Str, (SqL K (upd H1 p (HO.lst (cutV xs (some 1) none))) p (List.map V.str ys) ∨ SqT K (upd H1 p (HO.lst (cutV xs (some 1) none))) p (List.map V.str ys)) ∧ (List.map (fun x => x.length) ys).sum + ys.length * (Str.ofString "").length ≤ 16777216 ∧ 5 ≤ sizeLine ∧ ∀ (p_4 : Addr), upd H1 p (HO.lst (cutV xs (some 1) none)) p_4 = none → Q (V.ref p_4) (upd (upd H1 p (HO.lst (cutV xs (some 1) none))) p_4 (HO.tup [x_5, x_6, x_8, .bl once, V.str (Txt.join (Str.ofString "") ys)]))) E0) E0 else ∃ xs, SqL K H' a xs ∧ ∃ x_5, atI xs 0 = some x_5 ∧ ∃ xs, SqL K H' a xs ∧ ∃ x_6, atI xs 1 = some x_6 ∧ ∃ xs, SqL K H' a xs ∧ ∃ x_7, atI xs 2 = some x_7 ∧ sp_rank_of [x_7] H' (fun x_8 H1 => ∃ xs, SqL K H1 p xs ∧ ∀ (p : Addr), H1 p = none → ∃ ys : List Str, (SqL K (upd H1 p (HO.lst (cutV xs (some 1) none))) p (List.map V.str ys) ∨ SqT K (upd H1 p (HO.lst (cutV xs (some 1) none))) p (List.map V.str ys)) ∧ (List.map (fun x => x.length) ys).sum + ys.length * (Str.ofString "").length ≤ 16777216 ∧ 5 ≤ sizeLine ∧ ∀ (p_4 : Addr), upd H1 p (HO.lst (cutV xs (some 1) none)) p_4 = none → Q (V.ref p_4) (upd (upd H1 p (HO.lst (cutV xs (some 1) none))) p_4 (HO.tup [x_5, x_6, x_8, .bl once, V.str (Txt.join (Str.ofString "") ys)]))) E0 := by
              intro H4 us once s4 h4 hro4 hu
              refine ⟨by decide, fun q hq => ?_⟩
              have npq : p ≠ q := ne_of_none h4 hq
              have s5 : Same H (upd H4 q (.lst [])) := same_new s4 hq
              have h5 : (upd H4 q (.lst [])) p = some (.lst (us.map V.str)) := by rw [upd_ne npq]; exact h4
              refine ⟨.list (us.map PyData.str), .list [], .lst (.of h5) (dpAll_map fun a _ => .str _), .lst (.of upd_same) .nil, ?_, by decide, _, rfl, ?_⟩
              · exact shaped_strs fun z hz => (hu z hz).2
              · rw [eqv_nil, List.isEmpty_map]
                by_cases hus : us = []
                · subst hus
                  refine ifN (by simp) ?_
                  rw [rowTail_nil] at hro4
                  exact fin _ [] once _ s5 h5 rowTail_nil hro4 hu
                · refine ifP (by simp [hus]) ⟨_, .inl (.of h5), ?_⟩
                  rw [List.length_map]
                  by_cases h2 : us.length = 2
                  · obtain ⟨k, b, rfl⟩ : ∃ k b, us = [k, b] := by
                      match us, h2 with
                      | [k, b], _ => exact ⟨k, b, rfl⟩
                    refine ifN (by simp) ⟨_, .of h5, .str k, atI_nat (j := 0) rfl, rfl, ?_⟩
                    rw [rowTail_two] at hro4
                    by_cases hk : k = ("in" : Str)
                    · refine ifN (by rw [hk]; simp) ⟨_, .of h5, .str b, atI_nat (j := 1) rfl, ?_⟩
                      refine ⟨b, rfl, (hu b (by simp)).1, fun H6 s6 => ⟨_, rfl, ?_⟩⟩
                      by_cases hb : isWord b = true
                      · refine ifN (by simp [hb]) ?_
                        rw [if_pos ⟨hk, hb⟩] at hro4
                        exact fin H6 [k, b] once b (s5.trans s6) (s6 _ _ h5) (by rw [rowTail_two, if_pos ⟨hk, hb⟩]) hro4 hu
                      · refine ifP (by simp [hb]) (q1 ?_ _ (s5.trans s6))
                        rw [hro4, if_neg (fun z => hb z.2)]; simp only [Option.map_none]
                    · refine ifP (by simp [hk]) (q1 ?_ _ s5)
                      rw [hro4, if_neg (fun z => hk z.1)]; simp only [Option.map_none]
                  · refine ifP (by simp; omega) (q1 ?_ _ s5)
                    rw [hro4, rowTail_len hus h2]; simp only [Option.map_none]
            have e3 : cutV ((x :: y :: c :: rest).map V.str) (some 3) none = rest.map V.str := by rw [show (3 : Int) = ((3 : Nat) : Int) from rfl, cutV_from]; rfl
            refine ⟨_, .of upd_same, fun p1 hp1 => ⟨by decide, fun p2 hp2 => ?_⟩⟩
            rw [e3] at hp1 hp2 ⊢
            have e4 : cutV (rest.map V.str) none (some 1) = (rest.take 1).map V.str := by rw [show (1 : Int) = ((1 : Nat) : Int) from rfl, cutV_to, List.map_take]
            rw [e4] at hp2 ⊢
            have np1 : p ≠ p1 := ne_of_none upd_same hp1
            have np2 : p1 ≠ p2 := ne_of_none upd_same hp2
            have np3 : p ≠ p2 := by
              intro e; subst e
              rw [upd_ne np1, upd_same] at hp2; cases hp2
            have s5 : Same H (upd (upd (upd H3 p (.lst (rest.map V.str))) p1 (.lst ((rest.take 1).map V.str))) p2 (.lst [V.str (Str.ofString "once")])) := same_new (same_new (same_new s3 hp3) hp1) hp2
            have f1 : (upd (upd (upd H3 p (.lst (rest.map V.str))) p1 (.lst ((rest.take 1).map V.str))) p2 (.lst [V.str (Str.ofString "once")])) p1 = some (.lst ((rest.take 1).map V.str)) := by rw [upd_ne np2, upd_same]
            have f0 : (upd (upd (upd H3 p (.lst (rest.map V.str))) p1 (.lst ((rest.take 1).map V.str))) p2 (.lst [V.str (Str.ofString "once")])) p = some (.lst (rest.map V.str)) := by rw [upd_ne np3, upd_ne np1, upd_same]
            refine ⟨.list ((rest.take 1).map PyData.str), .list ([("once" : Str)].map PyData.str), .lst (.of f1) (dpAll_map fun a _ => .str _), .lst (.of upd_same) (.cons (.str _) .nil), shaped_strs fun z hz => (he' z (List.mem_of_mem_take hz)).2, by decide +kernel, _, rfl, ?_⟩
            have e5 : PyData.eqv (.list ((rest.take 1).map PyData.str)) (.list ([("once" : Str)].map PyData.str)) = decide (rest.take 1 = [("once" : Str)]) := by
              simp only [PyData.eqv]
              exact eqv_strs _ _
            rw [e5]
            generalize upd (upd (upd H3 p (.lst (rest.map V.str))) p1 (.lst ((rest.take 1).map V.str))) p2 (.lst [V.str (Str.ofString "once")]) = H5 at s5 f0
            by_cases ho : rest.take 1 = [("once" : Str)]
            · rw [decide_eq_true ho] at hro ⊢
              obtain ⟨tl2, rfl⟩ : ∃ tl2, rest = ("once" : Str) :: tl2 := by
                match rest, ho with
                | [], h => simp at h
                | z :: r, h => simp at h; exact ⟨r, by rw [h]⟩
              refine ifP rfl ⟨_, rfl, .inl ⟨rfl, _, .of f0⟩, p, _, 0, 0, _, rfl, rfl, f0, by decide, by decide, by unfold seqIndex?; simp, rfl, ?_⟩
              exact tail _ tl2 true (same_put s5 hpn) upd_same hro (fun z hz => he' z (List.mem_cons_of_mem _ hz))
            · rw [decide_eq_false ho] at hro ⊢
              refine ifN (by simp) ?_
              exact tail _ rest false s5 f0 hro he'
        · exact ifP (by simp [hn]) (q1 (rowOf_bad fun z => hn z.2) _ s2)
      · exact ifP (by simp [hp]) (q1 (rowOf_bad fun z => hp z.1) _ s1)
end
end Hk

set_option Elab.async false
set_option linter.all false
set_option maxRecDepth 100000
set_option maxHeartbeats 4000000
namespace Hk
open PySem PySem.Spec PyProof.Rows L2
open LamX NdefX
open TL L2H
section
variable {P : Program} {w : World} {K : PySem.W.Frag} {mg : Str → Option Value} {base : Heap}
/-! ### the same where an exception is handled (printed by hotgen.py from Pat, NotesA, NotesB) -/
theorem GH_is_word (T : Tx K mg) : GlobH P w K mg base (CX0) 1 "is_word" p_is_word [] sp_is_word := by
  obtain ⟨fd, F⟩ := T.f_is_word
  refine ⟨_, fd, [], FunD.okH F sc_is_word (fun vs H Q E h => ?_) (fun cdv A outer s H vs Q E p hr hh h => ?_), T.g_is_word, F.kp, .nil, F.bindsN fun _ _ _ _ _ _ us hl => match us, hl with | [_], _ => rfl⟩
  · obtain ⟨z, rfl, _⟩ := h; rfl
  · obtain ⟨z, rfl, hz, q⟩ := h
    refine ⟨_, PSs.nox (pss_one (ps_ret (pe_and (pe_chain op_le op_le pe_int (pe_callB call_len_str (by rfl) T.b_len (by decide +kernel) (pa_cons (pv 0) pa_nil)) (pe_gi T.c_MOST_LETTERS (by rfl))) (pe_one (pe_callB (cr_allHK (K := K) rfl (by first | exact hh | exact hotB hp)) (by rfl) T.b_all (by decide +kernel) (pa_cons (pe_lcH (own := [("sign", 1)]) (g := (gName 1)) (tt := tYes) (by first | exact hh | exact hotB hp) sc_is_word.nd (pi_strH (pv 0)) (blkOk_by (by kernel_rfl)) (fun p hp _ _ _ _ _ => (pg_name (i := 1) sc_is_word.nd rfl (Or.inl rfl))) (fun p hp _ _ _ _ _ => pts_nil) (fun p hp _ _ _ _ _ => (pe_cmpR op_in_sign (pv 1) (pe_gs T.c_LETTERS (by rfl)) (by rfl)))) pa_nil)))))), ?_⟩
    simp only [tCutE, tIfE, false_and, exists_false, false_or, or_false, tRet, tRetN, tAndV, tOrV, tNotV, tChain, rI, rI0, rU, tC, tCB, tCons, tNil, tVar, tOp, tUn, tTest, tB, tAnd, tOr, tNot, tIf, tIfS, tSeq, tAsg, tDrop, tNext, tDIn, tDNotIn, tDPop1, gName, gTup_ref, gCons_cons, gNil_nil, and_assoc, tYes, wipe, rEq, rNe, scal_ss, scal_ii, scal_bb, scal_ns, scal_sn, scal_nn, scal_in, scal_ni, tLc_eq, tFor_eq, iList, iTup, iStr, iRng1, iRng2, iZip, iEnum, gSub, tSl, rSetL_ref, rCat_ref, rRep_ref, rJoin_ref, rSlL_ref, rSlS_ref, rMulS_ref, rIxL_ref, rIxT_ref, rLenK_ref, rAll_ref, rIn_ref, tLst, tTup, tPar, tPar3, tAug, tPart, tNoPart, tCall, List.getElem?_cons_zero, List.getElem?_cons_succ, List.set_cons_zero, List.set_cons_succ, List.map_cons, List.map_nil, List.append_nil, List.nil_append, List.cons_append, Option.some.injEq, exists_eq_left', exists_eq_left, exists_eq_right, exists_eq_right', exists_eq', V.int.injEq, V.str.injEq, V.bl.injEq, V.ref.injEq, List.cons.injEq, tM0, tM1, rNewStrs, sgn_eq, split_dot, split_sp, split_nl, dot_len, sp_len, nl_len, cxOf_K, L2.start, List.length_cons, List.length_nil, List.replicate_succ, List.replicate_zero, Nat.reduceSub, Nat.zero_add, and_true, true_and, and_self, exists_and_left, exists_const, Bool.false_eq_true, if_false, if_true, ite_true, ite_false, reduceIte, decide_eq_true_eq, reduceCtorEq, Nat.reduceAdd, Nat.reduceLT, L2H.iEnumN, cxH_K, cxH_prog, cxH_w, cxH_mg, cxH_base, tCallVSH, tVeI, tOst, tWhy, tXf, tCallS, tCallX, tLam1, tListZip, tCallX, tCallXU, tCallV, tCallVS, tLam1, tLamD, tCallS, tCls, tClsD, cx_cells, cx_scope, cx_N, cx_prog, cx_w, cx_base, cx_mg, cx_qual]
    refine ⟨small (by omega), ?_⟩
    have hz' : (tl z).length ≤ 10000 := by rw [← len_tl]; exact hz
    split
    · rename_i h1
      split
      · rename_i h2
        refine lc_map (tl z) (fun c => V.bl (decide (c ∈ tl letters))) walk_str (by omega) (fun _ _ => trivial) (fun i a x H1 H' R hx s1 hy r => ?_) (fun D H1 nD s1 hD => ?_)
        · obtain ⟨rfl, c, hc, rfl⟩ := hy
          have e : c = a := by
            rw [Array.getElem?_toList] at hx
            exact Option.some.inj (hc.symm.trans hx)
          subst e
          simp only [tCutE, tIfE, false_and, exists_false, false_or, or_false, tRet, tRetN, tAndV, tOrV, tNotV, tChain, rI, rI0, rU, tC, tCB, tCons, tNil, tVar, tOp, tUn, tTest, tB, tAnd, tOr, tNot, tIf, tIfS, tSeq, tAsg, tDrop, tNext, tDIn, tDNotIn, tDPop1, gName, gTup_ref, gCons_cons, gNil_nil, and_assoc, tYes, wipe, rEq, rNe, scal_ss, scal_ii, scal_bb, scal_ns, scal_sn, scal_nn, scal_in, scal_ni, tLc_eq, tFor_eq, iList, iTup, iStr, iRng1, iRng2, iZip, iEnum, gSub, tSl, rSetL_ref, rCat_ref, rRep_ref, rJoin_ref, rSlL_ref, rSlS_ref, rMulS_ref, rIxL_ref, rIxT_ref, rLenK_ref, rAll_ref, rIn_ref, tLst, tTup, tPar, tPar3, tAug, tPart, tNoPart, tCall, List.getElem?_cons_zero, List.getElem?_cons_succ, List.set_cons_zero, List.set_cons_succ, List.map_cons, List.map_nil, List.append_nil, List.nil_append, List.cons_append, Option.some.injEq, exists_eq_left', exists_eq_left, exists_eq_right, exists_eq_right', exists_eq', V.int.injEq, V.str.injEq, V.bl.injEq, V.ref.injEq, List.cons.injEq, tM0, tM1, rNewStrs, sgn_eq, split_dot, split_sp, split_nl, dot_len, sp_len, nl_len, cxOf_K, L2.start, List.length_cons, List.length_nil, List.replicate_succ, List.replicate_zero, Nat.reduceSub, Nat.zero_add, and_true, true_and, and_self, exists_and_left, exists_const, Bool.false_eq_true, if_false, if_true, ite_true, ite_false, reduceIte, decide_eq_true_eq, reduceCtorEq, Nat.reduceAdd, Nat.reduceLT, L2H.iEnumN, cxH_K, cxH_prog, cxH_w, cxH_mg, cxH_base, tCallVSH, tVeI, tOst, tWhy, tXf, tCallS, tCallX, tLam1, tListZip, tCallX, tCallXU, tCallV, tCallVS, tLam1, tLamD, tCallS, tCls, tClsD, cx_cells, cx_scope, cx_N, cx_prog, cx_w, cx_base, cx_mg, cx_qual]
          exact r _ (Same.refl _)
        · refine ⟨D, (tl z).map fun c => decide (c ∈ tl letters), rfl, .of (by rw [hD, List.map_map]; rfl), ?_⟩
          have e : isWord z = List.all ((tl z).map fun c => decide (c ∈ tl letters)) id := by
            unfold isWord
            rw [decide_eq_true (by omega : 1 ≤ z.length), decide_eq_true (by omega : z.length ≤ 4), List.all_map]
            rfl
          rw [← e]
          exact q _ s1
      · have e : isWord z = false := by
          unfold isWord
          rw [decide_eq_false (by omega : ¬ z.length ≤ 4)]; simp
        rw [← e]; exact q _ (Same.refl _)
    · have e : isWord z = false := by
        unfold isWord
        rw [decide_eq_false (by omega : ¬ 1 ≤ z.length)]; simp
      rw [← e]; exact q _ (Same.refl _)
theorem GH_is_pattern (T : Tx K mg) : GlobH P w K mg base (CX0) 2 "is_pattern" p_is_pattern [] sp_is_pattern := by
  obtain ⟨fd, F⟩ := T.f_is_pattern
  refine ⟨_, fd, [], FunD.okH F sc_is_pattern (fun vs H Q E h => ?_) (fun cdv A outer s H vs Q E p hr hh h => ?_), T.g_is_pattern, F.kp, .nil, F.bindsN fun _ _ _ _ _ _ us hl => match us, hl with | [_], _ => rfl⟩
  · obtain ⟨z, rfl, _⟩ := h; rfl
  · obtain ⟨z, rfl, hz, q⟩ := h
    refine ⟨_, PSs.nox (pss_cons (ps_set (i := 1) sc_is_pattern.nd rfl (Or.inl rfl) (pe_split (pv 0) pe_str))
      (pss_cons (ps_if (pt_cmpR op_eq (pe_ix (ix_listK (K := K) rfl) (pv 1) (pe_un un_neg pe_int) (fun _ _ => rfl)) (pe_gs T.c_REST (by rfl)) (nomark _))
      (pss_one (ps_expr (pe_bm0K (K := K) rfl PySem.F.plainAttrs_list PySem.F.slot_list_pop PySem.F.type_list_pop mt_pop (pv 1))))
      pss_nil)
      (pss_one (ps_ret (pe_and (pe_cmpR op_le (pe_callB (call_len_seqK (K := K) rfl) (by rfl) T.b_len (by decide +kernel) (pa_cons (pv 1) pa_nil)) (pe_gi T.c_MOST_WORDS (by rfl)) (nomark _)) (pe_one (pe_callB (cr_allHK (K := K) rfl (by first | exact hh | exact hotB hp)) (by rfl) T.b_all (by decide +kernel) (pa_cons (pe_lcH (own := [("word", 2)]) (g := (gName 2)) (tt := tYes) (by first | exact hh | exact hotB hp) sc_is_pattern.nd (pi_listHK (K := K) rfl (pv 1)) (blkOk_by (by kernel_rfl)) (fun p hp _ _ _ _ _ => (pg_name (i := 2) sc_is_pattern.nd rfl (Or.inl rfl))) (fun p hp _ _ _ _ _ => pts_nil) (fun p hp _ _ _ _ _ => (pe_or (pe_cmpR op_eq (pv 2) (pe_gs T.c_ANY (by rfl)) (nomark _)) (pe_one (pe_callGH (GH_is_word T) (hr.mono (by first | decide | omega)) (by first | exact hh | exact hotB hp) (by rfl) pass0 (pa_cons (pv 2) pa_nil)))))) pa_nil)))))))), ?_⟩
    simp only [tCutE, tIfE, false_and, exists_false, false_or, or_false, tRet, tRetN, tAndV, tOrV, tNotV, tChain, rI, rI0, rU, tC, tCB, tCons, tNil, tVar, tOp, tUn, tTest, tB, tAnd, tOr, tNot, tIf, tIfS, tSeq, tAsg, tDrop, tNext, tDIn, tDNotIn, tDPop1, gName, gTup_ref, gCons_cons, gNil_nil, and_assoc, tYes, wipe, rEq, rNe, scal_ss, scal_ii, scal_bb, scal_ns, scal_sn, scal_nn, scal_in, scal_ni, tLc_eq, tFor_eq, iList, iTup, iStr, iRng1, iRng2, iZip, iEnum, gSub, tSl, rSetL_ref, rCat_ref, rRep_ref, rJoin_ref, rSlL_ref, rSlS_ref, rMulS_ref, rIxL_ref, rIxT_ref, rLenK_ref, rAll_ref, rIn_ref, tLst, tTup, tPar, tPar3, tAug, tPart, tNoPart, tCall, List.getElem?_cons_zero, List.getElem?_cons_succ, List.set_cons_zero, List.set_cons_succ, List.map_cons, List.map_nil, List.append_nil, List.nil_append, List.cons_append, Option.some.injEq, exists_eq_left', exists_eq_left, exists_eq_right, exists_eq_right', exists_eq', V.int.injEq, V.str.injEq, V.bl.injEq, V.ref.injEq, List.cons.injEq, tM0, tM1, rNewStrs, sgn_eq, split_dot, split_sp, split_nl, dot_len, sp_len, nl_len, cxOf_K, L2.start, List.length_cons, List.length_nil, List.replicate_succ, List.replicate_zero, Nat.reduceSub, Nat.zero_add, and_true, true_and, and_self, exists_and_left, exists_const, Bool.false_eq_true, if_false, if_true, ite_true, ite_false, reduceIte, decide_eq_true_eq, reduceCtorEq, Nat.reduceAdd, Nat.reduceLT, L2H.iEnumN, cxH_K, cxH_prog, cxH_w, cxH_mg, cxH_base, tCallVSH, tVeI, tOst, tWhy, tXf, tCallS, tCallX, tLam1, tListZip, tCallX, tCallXU, tCallV, tCallVS, tLam1, tLamD, tCallS, tCls, tClsD, cx_cells, cx_scope, cx_N, cx_prog, cx_w, cx_base, cx_mg, cx_qual]
    have hl := wds_len z
    have fin : ∀ (p : Addr) (H1 : Hp), H p = none → Same H H1 → H1 p = some (.lst ((cut (wds z)).map V.str)) → ∃ ys, (SqL K H1 p ys ∨ SqT K H1 p ys) ∧ if (ys.length : Int) ≤ 6 then
        (∃ xs, SqL K H1 p xs) ∧ LcG (Itl K p) (gName 2) tYes (tOrV (tOp rEq (tVar 2) (tC (V.str (Str.ofString "*")))) (tCall sp_is_word [] E0 (tCons (tVar 2) tNil))) [2] [some (V.str z), some (V.ref p), none] H1 fun x H1 => rAll K [x] H1 Q
      else Q (V.bl false) H1 := by
      intro p H1 hp s1 hc
      have hcl : (cut (wds z)).length ≤ (wds z).length := by
        unfold cut; split
        · rw [List.length_dropLast]; omega
        · exact Nat.le_refl _
      have hcm : ∀ w ∈ cut (wds z), w ∈ wds z := by
        unfold cut; split
        · exact fun w hw => List.dropLast_subset _ hw
        · exact fun w hw => hw
      refine ⟨_, .inl (.of hc), ?_⟩
      rw [List.length_map]
      split
      · rename_i h1
        refine ⟨⟨_, .of hc⟩, lc_map (cut (wds z)) (fun w => V.bl (starOr w)) (walk_listm (cut (wds z)) V.str) (by omega) (fun H2 s2 => s2.seq (.of hc)) (fun i a x H1 H' R hx s2 hy r => ?_) (fun D H1 nD s2 hD => ?_)⟩
        · obtain ⟨rfl, y, hy, rfl⟩ := hy
          cases Option.some.inj (hx.symm.trans hy)
          simp only [tCutE, tIfE, false_and, exists_false, false_or, or_false, tRet, tRetN, tAndV, tOrV, tNotV, tChain, rI, rI0, rU, tC, tCB, tCons, tNil, tVar, tOp, tUn, tTest, tB, tAnd, tOr, tNot, tIf, tIfS, tSeq, tAsg, tDrop, tNext, tDIn, tDNotIn, tDPop1, gName, gTup_ref, gCons_cons, gNil_nil, and_assoc, tYes, wipe, rEq, rNe, scal_ss, scal_ii, scal_bb, scal_ns, scal_sn, scal_nn, scal_in, scal_ni, tLc_eq, tFor_eq, iList, iTup, iStr, iRng1, iRng2, iZip, iEnum, gSub, tSl, rSetL_ref, rCat_ref, rRep_ref, rJoin_ref, rSlL_ref, rSlS_ref, rMulS_ref, rIxL_ref, rIxT_ref, rLenK_ref, rAll_ref, rIn_ref, tLst, tTup, tPar, tPar3, tAug, tPart, tNoPart, tCall, List.getElem?_cons_zero, List.getElem?_cons_succ, List.set_cons_zero, List.set_cons_succ, List.map_cons, List.map_nil, List.append_nil, List.nil_append, List.cons_append, Option.some.injEq, exists_eq_left', exists_eq_left, exists_eq_right, exists_eq_right', exists_eq', V.int.injEq, V.str.injEq, V.bl.injEq, V.ref.injEq, List.cons.injEq, tM0, tM1, rNewStrs, sgn_eq, split_dot, split_sp, split_nl, dot_len, sp_len, nl_len, cxOf_K, L2.start, List.length_cons, List.length_nil, List.replicate_succ, List.replicate_zero, Nat.reduceSub, Nat.zero_add, and_true, true_and, and_self, exists_and_left, exists_const, Bool.false_eq_true, if_false, if_true, ite_true, ite_false, reduceIte, decide_eq_true_eq, reduceCtorEq, Nat.reduceAdd, Nat.reduceLT, L2H.iEnumN, cxH_K, cxH_prog, cxH_w, cxH_mg, cxH_base, tCallVSH, tVeI, tOst, tWhy, tXf, tCallS, tCallX, tLam1, tListZip, tCallX, tCallXU, tCallV, tCallVS, tLam1, tLamD, tCallS, tCls, tClsD, cx_cells, cx_scope, cx_N, cx_prog, cx_w, cx_base, cx_mg, cx_qual]
          have := wds_each z a (hcm a (List.mem_of_getElem? hx))
          unfold starOr at r
          split
          · rename_i e
            subst e
            simp only [decide_true, Bool.true_or] at r
            exact r _ (Same.refl _)
          · rename_i e
            rw [decide_eq_false e, Bool.false_or] at r
            exact ⟨a, rfl, by omega, r⟩
        · refine ⟨D, (cut (wds z)).map starOr, rfl, .of (by rw [hD, List.map_map]; rfl), ?_⟩
          have e : isPat z = List.all ((cut (wds z)).map starOr) id := by
            unfold isPat
            rw [decide_eq_true (by omega : (cut (wds z)).length ≤ 6), List.all_map]
            rfl
          rw [← e]
          exact q _ (s1.trans s2)
      · have e : isPat z = false := by
          unfold isPat
          rw [decide_eq_false (by omega : ¬ (cut (wds z)).length ≤ 6)]; simp
        rw [← e]; exact q _ s1
    refine ⟨small (by omega), fun p hp => ⟨_, .of upd_same, ?_⟩⟩
    have s1 : Same H (upd H p (HO.lst (List.map V.str (wds z)))) := same_put (Same.refl _) hp
    obtain ⟨x, e1, e2⟩ := last_str (wds_ne z)
    refine ⟨.str x, (atI_neg1 (by simpa using wds_ne z)).trans e1, rfl, ?_⟩
    split
    · rename_i e
      cases e
      refine ⟨_, rfl, .inl ⟨rfl, _, .of upd_same⟩, p, _, .str ("#" : Str), rfl, rfl, upd_same, ?_, ?_⟩
      · rw [← List.getLast?_eq_getElem?]; exact e1
      · refine fin p _ hp (same_put s1 hp) ?_
        rw [upd_same]
        unfold cut
        rw [if_pos e2, List.map_dropLast]
    · rename_i e
      refine fin p _ hp s1 ?_
      rw [upd_same]
      unfold cut
      rw [if_neg (fun z => e (by rw [e2] at z; exact congrArg V.str (Option.some.inj z)))]
theorem GH_rank_of (T : Tx K mg) : GlobH P w K mg base (CX0) 1 "rank_of" p_rank_of [] sp_rank_of := by
  obtain ⟨fd, F⟩ := T.f_rank_of
  refine ⟨_, fd, [], FunD.okH F sc_rank_of (fun vs H Q E h => ?_) (fun cdv A outer s H vs Q E p hr hh h => ?_), T.g_rank_of, F.kp, .nil, F.bindsN fun _ _ _ _ _ _ us hl => match us, hl with | [_], _ => rfl⟩
  · obtain ⟨z, rfl, _⟩ := h; rfl
  · obtain ⟨z, rfl, hz, q1, q2⟩ := h
    refine ⟨_, PSs.nox (pss_cons (ps_set (i := 1) sc_rank_of.nd rfl (Or.inl rfl) (pe_ifExp (pt_val (pe_m1 PySem.F.slot_str_startswith PySem.F.type_str_startswith mt_startswith (pv 0) pe_str)) (pe_slice sl_str (pv 0) (po_some pe_int) po_none) (pv 0)))
      (pss_cons (ps_if (PW.pt (pw_or (pt_cmpR op_ne (pe_callB call_len_str (by rfl) T.b_len (by decide +kernel) (pa_cons (pv 1) pa_nil)) pe_int (nomark _)) (pw_or (pt_cmpR op_notIn_sign (pv 1) (pe_gs T.c_FIGURES (by rfl)) (by rfl)) (pw_or1 (pt_cmpR op_eq (pv 0) pe_str (nomark _))))))
      (pss_one (ps_ret pe_non))
      pss_nil)
      (pss_one (ps_ret (pe_callTy call_int_str (by rfl) T.b_int (by decide +kernel) (pa_cons (pv 0) pa_nil)))))), ?_⟩
    simp only [tCutE, tIfE, false_and, exists_false, false_or, or_false, tRet, tRetN, tAndV, tOrV, tNotV, tChain, rI, rI0, rU, tC, tCB, tCons, tNil, tVar, tOp, tUn, tTest, tB, tAnd, tOr, tNot, tIf, tIfS, tSeq, tAsg, tDrop, tNext, tDIn, tDNotIn, tDPop1, gName, gTup_ref, gCons_cons, gNil_nil, and_assoc, tYes, wipe, rEq, rNe, scal_ss, scal_ii, scal_bb, scal_ns, scal_sn, scal_nn, scal_in, scal_ni, tLc_eq, tFor_eq, iList, iTup, iStr, iRng1, iRng2, iZip, iEnum, gSub, tSl, rSetL_ref, rCat_ref, rRep_ref, rJoin_ref, rSlL_ref, rSlS_ref, rMulS_ref, rIxL_ref, rIxT_ref, rLenK_ref, rAll_ref, rIn_ref, tLst, tTup, tPar, tPar3, tAug, tPart, tNoPart, tCall, List.getElem?_cons_zero, List.getElem?_cons_succ, List.set_cons_zero, List.set_cons_succ, List.map_cons, List.map_nil, List.append_nil, List.nil_append, List.cons_append, Option.some.injEq, exists_eq_left', exists_eq_left, exists_eq_right, exists_eq_right', exists_eq', V.int.injEq, V.str.injEq, V.bl.injEq, V.ref.injEq, List.cons.injEq, tM0, tM1, rNewStrs, sgn_eq, split_dot, split_sp, split_nl, dot_len, sp_len, nl_len, cxOf_K, L2.start, List.length_cons, List.length_nil, List.replicate_succ, List.replicate_zero, Nat.reduceSub, Nat.zero_add, and_true, true_and, and_self, exists_and_left, exists_const, Bool.false_eq_true, if_false, if_true, ite_true, ite_false, reduceIte, decide_eq_true_eq, reduceCtorEq, Nat.reduceAdd, Nat.reduceLT, L2H.iEnumN, cxH_K, cxH_prog, cxH_w, cxH_mg, cxH_base, tCallVSH, tVeI, tOst, tWhy, tXf, tCallS, tCallX, tLam1, tListZip, tCallX, tCallXU, tCallV, tCallVS, tLam1, tLamD, tCallS, tCls, tClsD, cx_cells, cx_scope, cx_N, cx_prog, cx_w, cx_base, cx_mg, cx_qual]
    rw [show Txt.startswith z (Str.ofString "-") = decide ((tl z).head? = some 45) from starts_minus z]
    have hz' : (tl z).length ≤ 10000 := by rw [← len_tl]; exact hz
    by_cases h0 : (tl z).head? = some 45
    · refine ifP (decide_eq_true h0) ?_
      obtain ⟨r, hr'⟩ : ∃ r, tl z = 45 :: r := by
        cases h : tl z with
        | nil => rw [h] at h0; simp at h0
        | cons c r => rw [h] at h0; simp at h0; exact ⟨r, by rw [h0]⟩
      have e1 : tl (cutS z (some 1) none) = r := by rw [tl_cut1, hr']; rfl
      have e2 : (cutS z (some 1) none).length = r.length := by rw [len_tl, e1]
      have hz2 : r.length ≤ 10000 := by rw [hr'] at hz'; simp at hz'; omega
      refine ⟨small (by omega), small (by omega), ?_⟩
      rw [e2]
      by_cases h1 : r.length = 1
      · refine ifN (by simp [h1]) ?_
        obtain ⟨c, hc, hc2⟩ := one_of (z := cutS z (some 1) none) (by rw [e2, h1])
        rw [e1] at hc2
        refine ⟨c, hc, ?_⟩
        have hzc : z = ⟨#[45, c]⟩ := ext_tl (by rw [hr', hc2])
        by_cases h2 : 48 ≤ c ∧ c ≤ 57
        · refine ifN (by simp [dig_mem.mpr h2]) ?_
          by_cases h3 : c = 48
          · refine ifP (by rw [hzc, h3]; decide +kernel) (q1 ?_ _ (Same.refl _))
            unfold rankOf; rw [hr', hc2, h3]; rfl
          · refine ifN (fun e => h3 ?_) ⟨48 - (c : Int), by rw [hzc]; exact (int_text c (dig_list h2)).2, by rw [len_tl, hr', hc2]; simp, q2 _ ?_ _ (Same.refl _)⟩
            · have := congrArg tl e
              rw [hr', hc2, show tl (Str.ofString "-0") = [45, 48] by decide +kernel] at this
              simpa using this
            · unfold rankOf; rw [hr', hc2]
              exact if_pos ⟨rfl, by omega, by omega⟩
        · refine ifP (by rw [decide_eq_false (fun z => h2 (dig_mem.mp z))]; rfl) (q1 ?_ _ (Same.refl _))
          unfold rankOf; rw [hr', hc2]
          exact if_neg (fun z => h2 ⟨by omega, by omega⟩)
      · refine ifP (by simp; omega) (q1 ?_ _ (Same.refl _))
        unfold rankOf; rw [hr']
        match r, h1 with
        | [], _ => rfl
        | _ :: _ :: _, _ => rfl
    · refine ifN (by simp [h0]) ⟨small (by omega), ?_⟩
      by_cases h1 : z.length = 1
      · refine ifN (by simp [h1]) ?_
        obtain ⟨c, hc, hc2⟩ := one_of h1
        refine ⟨c, hc, ?_⟩
        by_cases h2 : 48 ≤ c ∧ c ≤ 57
        · refine ifN (by simp [dig_mem.mpr h2]) ?_
          refine ifN (fun e => ?_) ⟨(c : Int) - 48, by rw [hc]; exact (int_text c (dig_list h2)).1, by omega, q2 _ ?_ _ (Same.refl _)⟩
          · have := congrArg tl e
            rw [hc2, show tl (Str.ofString "-0") = [45, 48] by decide +kernel] at this
            simp at this
          · unfold rankOf; rw [hc2]
            simp only [rankL]
            rw [if_pos h2]
        · refine ifP (by rw [decide_eq_false (fun z => h2 (dig_mem.mp z))]; rfl) (q1 ?_ _ (Same.refl _))
          unfold rankOf; rw [hc2]
          simp only [rankL]
          rw [if_neg h2]
      · refine ifP (by simp; omega) (q1 ?_ _ (Same.refl _))
        unfold rankOf
        rw [len_tl] at h1
        match h : tl z with
        | [] => rfl
        | [_] => rw [h] at h1; simp at h1
        | [a, b] => 
          simp only [rankL]
          rw [if_neg]
          rintro ⟨e, _⟩
          rw [h, e] at h0; simp at h0
        | _ :: _ :: _ :: _ => rfl
theorem GH_row_of (T : Tx K mg) : GlobH P w K mg base (CX0) 3 "row_of" p_row_of [] (sp_row_of K) := by
  obtain ⟨fd, F⟩ := T.f_row_of
  refine ⟨_, fd, [], FunD.okH F sc_row_of (fun vs H Q E h => ?_) (fun cdv A outer s H vs Q E p hr hh h => ?_), T.g_row_of, F.kp, .nil, F.bindsN fun _ _ _ _ _ _ us hl => match us, hl with | [_], _ => rfl⟩
  · obtain ⟨a, ws, rfl, _⟩ := h; rfl
  · obtain ⟨a, ws, rfl, hS, hl, he, q1, q2⟩ := h
    refine ⟨_, PSs.nox (pss_cons (ps_if (PW.pt (pw_or (pt_cmpR op_lt (pe_callB (call_len_seqK (K := K) rfl) (by rfl) T.b_len (by decide +kernel) (pa_cons (pv 0) pa_nil)) pe_int (nomark _)) (pw_or (pt_not (pt_val (pe_callGH (GH_is_pattern T) (hr.mono (by first | decide | omega)) (by first | exact hh | exact hotB hp) (by rfl) pass0 (pa_cons (pe_ix (ix_listK (K := K) rfl) (pv 0) pe_int (fun _ _ => rfl)) pa_nil)))) (pw_or (pt_not (pt_val (pe_callGH (GH_is_word T) (hr.mono (by first | decide | omega)) (by first | exact hh | exact hotB hp) (by rfl) pass0 (pa_cons (pe_ix (ix_listK (K := K) rfl) (pv 0) pe_int (fun _ _ => rfl)) pa_nil)))) (pw_or1 (pt_cmpR op_isN (pe_callGH (GH_rank_of T) (hr.mono (by first | decide | omega)) (by first | exact hh | exact hotB hp) (by rfl) pass0 (pa_cons (pe_ix (ix_listK (K := K) rfl) (pv 0) pe_int (fun _ _ => rfl)) pa_nil)) pe_non (nomark _)))))))
      (pss_one (ps_ret pe_non))
      pss_nil)
      (pss_cons (ps_set (i := 1) sc_row_of.nd rfl (Or.inl rfl) (pe_slice (sl_listK (K := K) rfl) (pv 0) (po_some pe_int) po_none))
      (pss_cons (ps_set (i := 2) sc_row_of.nd rfl (Or.inl rfl) (pe_cmpR (op_eqDK (K := K) rfl hr.units) (pe_slice (sl_listK (K := K) rfl) (pv 1) po_none (po_some pe_int)) (pe_lst (pa_cons pe_str pa_nil)) (nomark _)))
      (pss_cons (ps_if (pt_val (pv 2))
      (pss_one (ps_expr (pe_bmK (K := K) rfl PySem.F.plainAttrs_list PySem.F.slot_list_pop PySem.F.type_list_pop mt_popAt (pv 1) (pa_cons pe_int pa_nil))))
      pss_nil)
      (pss_cons (ps_if (PW.pt (pw_and (pt_cmpR (op_neDK (K := K) rfl hr.units) (pv 1) (pe_lst pa_nil) (nomark _)) (pw_and1 (PW.pt (pw_or (pt_cmpR op_ne (pe_callB (call_len_seqK (K := K) rfl) (by rfl) T.b_len (by decide +kernel) (pa_cons (pv 1) pa_nil)) pe_int (nomark _)) (pw_or (pt_cmpR op_ne (pe_ix (ix_listK (K := K) rfl) (pv 1) pe_int (fun _ _ => rfl)) pe_str (nomark _)) (pw_or1 (pt_not (pt_val (pe_callGH (GH_is_word T) (hr.mono (by first | decide | omega)) (by first | exact hh | exact hotB hp) (by rfl) pass0 (pa_cons (pe_ix (ix_listK (K := K) rfl) (pv 1) pe_int (fun _ _ => rfl)) pa_nil)))))))))))
      (pss_one (ps_ret pe_non))
      pss_nil)
      (pss_one (ps_ret (pe_tup (pa_cons (pe_ix (ix_listK (K := K) rfl) (pv 0) pe_int (fun _ _ => rfl)) (pa_cons (pe_ix (ix_listK (K := K) rfl) (pv 0) pe_int (fun _ _ => rfl)) (pa_cons (pe_callGH (GH_rank_of T) (hr.mono (by first | decide | omega)) (by first | exact hh | exact hotB hp) (by rfl) pass0 (pa_cons (pe_ix (ix_listK (K := K) rfl) (pv 0) pe_int (fun _ _ => rfl)) pa_nil)) (pa_cons (pv 2) (pa_cons (pe_joinK (K := K) rfl pe_str (pe_slice (sl_listK (K := K) rfl) (pv 1) (po_some pe_int) po_none)) pa_nil))))))))))))), ?_⟩
    simp only [tCutE, tIfE, false_and, exists_false, false_or, or_false, tRet, tRetN, tAndV, tOrV, tNotV, tChain, rI, rI0, rU, tC, tCB, tCons, tNil, tVar, tOp, tUn, tTest, tB, tAnd, tOr, tNot, tIf, tIfS, tSeq, tAsg, tDrop, tNext, tDIn, tDNotIn, tDPop1, gName, gTup_ref, gCons_cons, gNil_nil, and_assoc, tYes, wipe, rEq, rNe, scal_ss, scal_ii, scal_bb, scal_ns, scal_sn, scal_nn, scal_in, scal_ni, tLc_eq, tFor_eq, iList, iTup, iStr, iRng1, iRng2, iZip, iEnum, gSub, tSl, rSetL_ref, rCat_ref, rRep_ref, rJoin_ref, rSlL_ref, rSlS_ref, rMulS_ref, rIxL_ref, rIxT_ref, rLenK_ref, rAll_ref, rIn_ref, tLst, tTup, tPar, tPar3, tAug, tPart, tNoPart, tCall, List.getElem?_cons_zero, List.getElem?_cons_succ, List.set_cons_zero, List.set_cons_succ, List.map_cons, List.map_nil, List.append_nil, List.nil_append, List.cons_append, Option.some.injEq, exists_eq_left', exists_eq_left, exists_eq_right, exists_eq_right', exists_eq', V.int.injEq, V.str.injEq, V.bl.injEq, V.ref.injEq, List.cons.injEq, tM0, tM1, rNewStrs, sgn_eq, split_dot, split_sp, split_nl, dot_len, sp_len, nl_len, cxOf_K, L2.start, List.length_cons, List.length_nil, List.replicate_succ, List.replicate_zero, Nat.reduceSub, Nat.zero_add, and_true, true_and, and_self, exists_and_left, exists_const, Bool.false_eq_true, if_false, if_true, ite_true, ite_false, reduceIte, decide_eq_true_eq, reduceCtorEq, Nat.reduceAdd, Nat.reduceLT, L2H.iEnumN, cxH_K, cxH_prog, cxH_w, cxH_mg, cxH_base, tCallVSH, tVeI, tOst, tWhy, tXf, tCallS, tCallX, tLam1, tListZip, tCallX, tCallXU, tCallV, tCallVS, tLam1, tLamD, tCallS, tCls, tClsD, cx_cells, cx_scope, cx_N, cx_prog, cx_w, cx_base, cx_mg, cx_qual]
    refine ⟨_, .inl hS, ?_⟩
    by_cases h3 : ws.length < 3
    · refine ifP (by rw [List.length_map]; omega) (q1 (rowOf_few h3) _ (Same.refl _))
    · refine ifN (by rw [List.length_map]; omega) ⟨_, hS, ?_⟩
      obtain ⟨x, y, c, rest, rfl⟩ : ∃ x y c rest, ws = x :: y :: c :: rest := by
        match ws, h3 with
        | x :: y :: c :: rest, _ => exact ⟨x, y, c, rest, rfl⟩
        | [], h => simp at h
        | [_], h => simp at h
        | [_, _], h => simp at h
      refine ⟨.str x, atI_nat (j := 0) rfl, x, rfl, (he x (by simp)).1, fun H1 s1 => ⟨_, rfl, ?_⟩⟩
      by_cases hp : isPat x = true
      · refine ifN (by simp [hp]) ?_
        refine ⟨_, s1.seq hS, .str y, atI_nat (j := 1) rfl, ?_⟩
        refine ⟨y, rfl, (he y (by simp)).1, fun H2 s2 => ⟨_, rfl, ?_⟩⟩
        have s2 := s1.trans s2
        by_cases hn : isWord y = true
        · refine ifN (by simp [hn]) ?_
          refine ⟨_, s2.seq hS, .str c, atI_nat (j := 2) rfl, ?_⟩
          refine ⟨c, rfl, (he c (by simp)).1, fun hc H3 s3 => ?_, fun r hc H3 s3 => ?_⟩
          · exact ifP rfl (q1 (rowOf_norank hc) _ (s2.trans s3))
          · refine ifN (fun z => by cases z) ?_
            have s3 := s2.trans s3
            have hro := rowOf_rank (rest := rest) hp hn hc
            refine ⟨_, s3.seq hS, fun p hp3 => ?_⟩
            have hpn : H p = none := s3.free hp3
            have hl' : rest.length ≤ 10000 := by simp at hl; omega
            have he' : ∀ z ∈ rest, z.length ≤ 10000 ∧ PyData.strOk z = true := fun z hz => he z (by simp [hz])
            /- the tuple -/
            have fin : ∀ (H1 : Hp) (us : List Str) (once : Bool) (g : Str), Same H H1 → H1 p = some (.lst (us.map V.str)) → rowTail us = some g → rowOf (x :: y :: c :: rest) = some ⟨x, y, r, once, g⟩ → (∀ z ∈ us, z.length ≤ 10000 ∧ PyData.strOk z = true) →
                ∃ xs, SqL K H1 a xs ∧ ∃ x_5, atI xs 0 = some x_5 ∧ ∃ xs, SqL K H1 a xs ∧ ∃ x_6, atI xs 1 = some x_6 ∧ ∃ xs, SqL K H1 a xs ∧ ∃ x_7, atI xs 2 = some x_7 ∧ sp_rank_of [x_7] H1 (fun x_8 H1 => ∃ xs, SqL K H1 p xs ∧ ∀ (p : Addr), H1 p = none → ∃ ys : List Str, (SqL K (upd H1 p (HO.lst (cutV xs (some 1) none))) p (List.map V.str ys) ∨ SqT K (upd H1 p (HO.lst (cutV xs (some 1) none))) p (List.map V.str ys)) ∧ (List.map (fun x => x.length) ys).sum + ys.length * (Str.ofString "").length ≤ 16777216 ∧ 5 ≤ sizeLine ∧ ∀ (p_4 : Addr), upd H1 p (HO.lst (cutV xs (some 1) none)) p_4 = none → Q (V.ref p_4) (upd (upd H1 p (HO.lst (cutV xs (some 1) none))) p_4 (HO.tup [x_5, x_6, x_8, .bl once, V.str (Txt.join (Str.ofString "") ys)]))) E0 := by
              intro H4 us once g s4 h4 hg hr4 hu
              refine ⟨_, s4.seq hS, .str x, atI_nat (j := 0) rfl, _, s4.seq hS, .str y, atI_nat (j := 1) rfl, _, s4.seq hS, .str c, atI_nat (j := 2) rfl, ?_⟩
              refine ⟨c, rfl, (he c (by simp)).1, fun hc2 => ?_, fun r2 hc2 H5 s5 => ?_⟩
              · rw [hc] at hc2; cases hc2
              · rw [hc] at hc2; cases hc2
                refine ⟨_, s5.seq (.of h4), fun q hq => ?_⟩
                have e1 : cutV (us.map V.str) (some 1) none = (us.drop 1).map V.str := by rw [show (1 : Int) = ((1 : Nat) : Int) from rfl, cutV_from, List.map_drop]
                rw [e1]
                have hlen : (Str.ofString "").length = 0 := by decide +kernel
                have e2 := join_tail hg
                refine ⟨us.drop 1, .inl (.of upd_same), ?_, by decide, fun t ht => ?_⟩
                · rw [hlen]
                  rcases rowTail_cases hg with ⟨e, _⟩ | ⟨e, _⟩
                  · rw [e]; simp
                  · have := (hu g (by rw [e]; simp)).1
                    rw [e]; simp; omega
                · rw [e2]
                  have s6 : Same H (upd H5 q (.lst ((us.drop 1).map V.str))) := same_new (s4.trans s5) (by rw [e1] at *; exact hq)
                  exact q2 _ hr4 _ t (same_new s6 ht) (s6.free ht) upd_same
            have tail : ∀ (H1 : Hp) (us : List Str) (once : Bool), Same H H1 → H1 p = some (.lst (us.map V.str)) → rowOf (x :: y :: c :: rest) = (rowTail us).map (fun g => (⟨x, y, r, once, g⟩ : Row)) → (∀ z ∈ us, z.length ≤ 10000 ∧ PyData.strOk z = true) →
                0 ≤ sizeLine ∧ ∀ (p_3 : Addr), H1 p_3 = none → rNeD K (V.ref p) (V.ref p_3) (upd H1 p_3 (HO.lst [])) fun x_1 H' => ∃ k, x_1 = V.bl k ∧ if k = true then ∃ ys, (SqL K H' p ys ∨ SqT K H' p ys) ∧ if (!decide ((ys.length : Int) = 2)) = true then Q V.non H' else ∃ xs, SqL K H' p xs ∧ ∃ x_2, atI xs 0 = some x_2 ∧ scal x_2 (V.str (Str.ofString "in")) = true ∧ if (!decide (x_2 = V.str (Str.ofString "in"))) = true then Q V.non H' else ∃ xs, SqL K H' p xs ∧ ∃ x_3, atI xs 1 = some x_3 ∧ sp_is_word [x_3] H' (fun x_4 H1 => ∃ c, x_4 = V.bl c ∧ if (!c) = true then Q V.non H1 else ∃ xs, SqL K H1 a xs ∧ ∃ x_5, atI xs 0 = some x_5 ∧ ∃ xs, SqL K H1 a xs ∧ ∃ x_6, atI xs 1 = some x_6 ∧ ∃ xs, SqL K H1 a xs ∧ ∃ x_7, atI xs 2 = some x_7 ∧ sp_rank_of [x_7] H1 (fun x_8 H1 => ∃ xs, SqL K H1 p xs ∧ ∀ (p : Addr), H1 p = none → ∃ ys : List Str, (SqL K (upd H1 p (HO.lst (cutV xs (some 1) none))) p (List.map V.str ys) ∨ SqT K (upd H1 p (HO.lst (cutV xs (some 1) none))) p (List.map V.str ys)) ∧ (List.map (fun x => x.length) ys).sum + ys.length * (Str.ofString "").length ≤ 16777216 ∧ 5 ≤ sizeLine ∧ ∀ (p_4 : Addr), upd H1 p (HO.lst (cutV xs (some 1) none)) p_4 = none → Q (V.ref p_4) (upd (upd H1 p (HO.lst (cutV xs (some 1) none))) p_4 (HO.tup [x_5, x_6, x_8, .bl once, V.str (Txt.join (Str.ofString "") ys)]))) E0) E0 else ∃ xs, SqL K H' a xs ∧ ∃ x_5, atI xs 0 = some x_5 ∧ ∃ xs, SqL K H' a xs ∧ ∃ x_6, atI xs 1 = some x_6 ∧ ∃ xs, SqL K H' a xs ∧ ∃ x_7, atI xs 2 = some x_7 ∧ sp_rank_of [x_7] H' (fun x_8 H1 => ∃ xs, SqL K H1 p xs ∧ ∀ (p : Addr), H1 p = none → ∃ ys : List Str, (SqL K (upd H1 p (HO.lst (cutV xs (some 1) none))) p (List.map V.str ys) ∨ SqT K (upd H1 p (HO.lst (cutV xs (some 1) none))) p (List.map V.str ys)) ∧ (List.map (fun x => x.length) ys).sum + ys.length * (Str.ofString "").length ≤ 16777216 ∧ 5 ≤ sizeLine ∧ ∀ (p_4 : Addr), upd H1 p (HO.lst (cutV xs (some 1) none)) p_4 = none → Q (V.ref p_4) (upd (upd H1 p (HO.lst (cutV xs (some 1) none))) p_4 (HO.tup [x_5, x_6, x_8, .bl once, V.str (Txt.join (Str.ofString "") ys)]))) E0 := by
              intro H4 us once s4 h4 hro4 hu
              refine ⟨by decide, fun q hq => ?_⟩
              have npq : p ≠ q := ne_of_none h4 hq
              have s5 : Same H (upd H4 q (.lst [])) := same_new s4 hq
              have h5 : (upd H4 q (.lst [])) p = some (.lst (us.map V.str)) := by rw [upd_ne npq]; exact h4
              refine ⟨.list (us.map PyData.str), .list [], .lst (.of h5) (dpAll_map fun a _ => .str _), .lst (.of upd_same) .nil, ?_, by decide, _, rfl, ?_⟩
              · exact shaped_strs fun z hz => (hu z hz).2
              · rw [eqv_nil, List.isEmpty_map]
                by_cases hus : us = []
                · subst hus
                  refine ifN (by simp) ?_
                  rw [rowTail_nil] at hro4
                  exact fin _ [] once _ s5 h5 rowTail_nil hro4 hu
                · refine ifP (by simp [hus]) ⟨_, .inl (.of h5), ?_⟩
                  rw [List.length_map]
                  by_cases h2 : us.length = 2
                  · obtain ⟨k, b, rfl⟩ : ∃ k b, us = [k, b] := by
                      match us, h2 with
                      | [k, b], _ => exact ⟨k, b, rfl⟩
                    refine ifN (by simp) ⟨_, .of h5, .str k, atI_nat (j := 0) rfl, rfl, ?_⟩
                    rw [rowTail_two] at hro4
                    by_cases hk : k = ("in" : Str)
                    · refine ifN (by rw [hk]; simp) ⟨_, .of h5, .str b, atI_nat (j := 1) rfl, ?_⟩
                      refine ⟨b, rfl, (hu b (by simp)).1, fun H6 s6 => ⟨_, rfl, ?_⟩⟩
                      by_cases hb : isWord b = true
                      · refine ifN (by simp [hb]) ?_
                        rw [if_pos ⟨hk, hb⟩] at hro4
                        exact fin H6 [k, b] once b (s5.trans s6) (s6 _ _ h5) (by rw [rowTail_two, if_pos ⟨hk, hb⟩]) hro4 hu
                      · refine ifP (by simp [hb]) (q1 ?_ _ (s5.trans s6))
                        rw [hro4, if_neg (fun z => hb z.2)]; simp only [Option.map_none]
                    · refine ifP (by simp [hk]) (q1 ?_ _ s5)
                      rw [hro4, if_neg (fun z => hk z.1)]; simp only [Option.map_none]
                  · refine ifP (by simp; omega) (q1 ?_ _ s5)
                    rw [hro4, rowTail_len hus h2]; simp only [Option.map_none]
            have e3 : cutV ((x :: y :: c :: rest).map V.str) (some 3) none = rest.map V.str := by rw [show (3 : Int) = ((3 : Nat) : Int) from rfl, cutV_from]; rfl
            refine ⟨_, .of upd_same, fun p1 hp1 => ⟨by decide, fun p2 hp2 => ?_⟩⟩
            rw [e3] at hp1 hp2 ⊢
            have e4 : cutV (rest.map V.str) none (some 1) = (rest.take 1).map V.str := by rw [show (1 : Int) = ((1 : Nat) : Int) from rfl, cutV_to, List.map_take]
            rw [e4] at hp2 ⊢
            have np1 : p ≠ p1 := ne_of_none upd_same hp1
            have np2 : p1 ≠ p2 := ne_of_none upd_same hp2
            have np3 : p ≠ p2 := by
              intro e; subst e
              rw [upd_ne np1, upd_same] at hp2; cases hp2
            have s5 : Same H (upd (upd (upd H3 p (.lst (rest.map V.str))) p1 (.lst ((rest.take 1).map V.str))) p2 (.lst [V.str (Str.ofString "once")])) := same_new (same_new (same_new s3 hp3) hp1) hp2
            have f1 : (upd (upd (upd H3 p (.lst (rest.map V.str))) p1 (.lst ((rest.take 1).map V.str))) p2 (.lst [V.str (Str.ofString "once")])) p1 = some (.lst ((rest.take 1).map V.str)) := by rw [upd_ne np2, upd_same]
            have f0 : (upd (upd (upd H3 p (.lst (rest.map V.str))) p1 (.lst ((rest.take 1).map V.str))) p2 (.lst [V.str (Str.ofString "once")])) p = some (.lst (rest.map V.str)) := by rw [upd_ne np3, upd_ne np1, upd_same]
            refine ⟨.list ((rest.take 1).map PyData.str), .list ([("once" : Str)].map PyData.str), .lst (.of f1) (dpAll_map fun a _ => .str _), .lst (.of upd_same) (.cons (.str _) .nil), shaped_strs fun z hz => (he' z (List.mem_of_mem_take hz)).2, by decide +kernel, _, rfl, ?_⟩
            have e5 : PyData.eqv (.list ((rest.take 1).map PyData.str)) (.list ([("once" : Str)].map PyData.str)) = decide (rest.take 1 = [("once" : Str)]) := by
              simp only [PyData.eqv]
              exact eqv_strs _ _
            rw [e5]
            generalize upd (upd (upd H3 p (.lst (rest.map V.str))) p1 (.lst ((rest.take 1).map V.str))) p2 (.lst [V.str (Str.ofString "once")]) = H5 at s5 f0
            by_cases ho : rest.take 1 = [("once" : Str)]
            · rw [decide_eq_true ho] at hro ⊢
              obtain ⟨tl2, rfl⟩ : ∃ tl2, rest = ("once" : Str) :: tl2 := by
                match rest, ho with
                | [], h => simp at h
                | z :: r, h => simp at h; exact ⟨r, by rw [h]⟩
              refine ifP rfl ⟨_, rfl, .inl ⟨rfl, _, .of f0⟩, p, _, 0, 0, _, rfl, rfl, f0, by decide, by decide, by unfold seqIndex?; simp, rfl, ?_⟩
              exact tail _ tl2 true (same_put s5 hpn) upd_same hro (fun z hz => he' z (List.mem_cons_of_mem _ hz))
            · rw [decide_eq_false ho] at hro ⊢
              refine ifN (by simp) ?_
              exact tail _ rest false s5 f0 hro he'
        · exact ifP (by simp [hn]) (q1 (rowOf_bad fun z => hn z.2) _ s2)
      · exact ifP (by simp [hp]) (q1 (rowOf_bad fun z => hp z.1) _ s1)
end
end Hk

set_option Elab.async false
set_option linter.all false
set_option maxRecDepth 100000
set_option maxHeartbeats 4000000
namespace Hk
open PySem PySem.Spec PyProof.Rows L2
open LamX NdefX
open TL L2H
section
variable {P : Program} {w : World} {K : PySem.W.Frag} {mg : Str → Option Value} {base : Heap}
/-! ### BadText, with a row -/
theorem O_BadText___init__ (T : Tx K mg) : ∃ fd, F_BadText___init__ K (He.fAd K ("BadText", some "__init__")) fd ∧ FnOk P w K mg base (CX0) (1) (He.fAd K ("BadText", some "__init__")) fd p_BadText___init__ (sp_oinit K "BadText" "row") := by
  obtain ⟨fd, F⟩ := T.f_BadText___init__
  refine ⟨fd, F, F.ok sc_BadText___init__ (fun vs H Q E h => ?_) (fun cdv A outer s H vs Q E hr h => ?_)⟩
  · obtain ⟨a, v, rfl, ha, q⟩ := h; rfl
  · obtain ⟨a, v, rfl, ha, q⟩ := h
    refine ⟨_, PSs.nox (pss_cons (ps_expr (pe_heinit (K := K) rfl (by rfl) T.g_HearError (inhB_ok T.e_inh) (pa_cons (pv 0) (pa_cons (pv 1) pa_nil))))
      (pss_one (ps_ostK (K := K) rfl (pv 0) (pv 1)))), ?_⟩
    have O := (oexB_ok T.e_xBT)
    simp only [ha, tCutE, tIfE, false_and, exists_false, false_or, or_false, tRet, tRetN, tAndV, tOrV, tNotV, tChain, rI, rI0, rU, tC, tCB, tCons, tNil, tVar, tOp, tUn, tTest, tB, tAnd, tOr, tNot, tIf, tIfS, tSeq, tAsg, tDrop, tNext, tDIn, tDNotIn, tDPop1, gName, gTup_ref, gCons_cons, gNil_nil, and_assoc, tYes, wipe, rEq, rNe, scal_ss, scal_ii, scal_bb, scal_ns, scal_sn, scal_nn, scal_in, scal_ni, tLc_eq, tFor_eq, iList, iTup, iStr, iRng1, iRng2, iZip, iEnum, gSub, tSl, rSetL_ref, rCat_ref, rRep_ref, rJoin_ref, rSlL_ref, rSlS_ref, rMulS_ref, rIxL_ref, rIxT_ref, rLenK_ref, rAll_ref, rIn_ref, tLst, tTup, tPar, tPar3, tAug, tPart, tNoPart, tCall, List.getElem?_cons_zero, List.getElem?_cons_succ, List.set_cons_zero, List.set_cons_succ, List.map_cons, List.map_nil, List.append_nil, List.nil_append, List.cons_append, Option.some.injEq, exists_eq_left', exists_eq_left, exists_eq_right, exists_eq_right', exists_eq', V.int.injEq, V.str.injEq, V.bl.injEq, V.ref.injEq, List.cons.injEq, tM0, tM1, rNewStrs, sgn_eq, split_dot, split_sp, split_nl, dot_len, sp_len, nl_len, cxOf_K, L2.start, List.length_cons, List.length_nil, List.replicate_succ, List.replicate_zero, Nat.reduceSub, Nat.zero_add, and_true, true_and, and_self, exists_and_left, exists_const, Bool.false_eq_true, if_false, if_true, ite_true, ite_false, reduceIte, decide_eq_true_eq, reduceCtorEq, Nat.reduceAdd, Nat.reduceLT, L2H.iEnumN, cxH_K, cxH_prog, cxH_w, cxH_mg, cxH_base, tCallVSH, tVeI, tOst, tWhy, tXf, tCallS, tCallX, tLam1, tListZip, tCallX, tCallXU, tCallV, tCallVS, tLam1, tLamD, tCallS, tCls, tClsD, cx_cells, cx_scope, cx_N, cx_prog, cx_w, cx_base, cx_mg, cx_qual]
    exact ⟨by decide, _, O.oex, rfl, _, O.oex, O.no, .inl ⟨rfl, fun dx nd ne => q dx nd ne⟩⟩
theorem X_BadText (T : Tx K mg) : InitG P w K mg base "BadText" "row" p_BadText___init__ := by
  obtain ⟨fd, F, ok⟩ := O_BadText___init__ (P := P) (w := w) (base := base) T
  exact ⟨oexB_ok T.e_xBT, fd, ok, F.bindsN fun _ _ _ _ _ _ us hl => match us, hl with | [_, _], _ => rfl⟩
theorem OH_BadText___init__ (T : Tx K mg) : ∃ fd, F_BadText___init__ K (He.fAd K ("BadText", some "__init__")) fd ∧ FnH P w K mg base (CX0) (1) (He.fAd K ("BadText", some "__init__")) fd p_BadText___init__ (sp_oinit K "BadText" "row") := by
  obtain ⟨fd, F⟩ := T.f_BadText___init__
  refine ⟨fd, F, FunD.okH F sc_BadText___init__ (fun vs H Q E h => ?_) (fun cdv A outer s H vs Q E p hr hh h => ?_)⟩
  · obtain ⟨a, v, rfl, ha, q⟩ := h; rfl
  · obtain ⟨a, v, rfl, ha, q⟩ := h
    refine ⟨_, PSs.nox (pss_cons (ps_expr (pe_heinit (K := K) rfl (by rfl) T.g_HearError (inhB_ok T.e_inh) (pa_cons (pv 0) (pa_cons (pv 1) pa_nil))))
      (pss_one (ps_ostK (K := K) rfl (pv 0) (pv 1)))), ?_⟩
    have O := (oexB_ok T.e_xBT)
    simp only [ha, tCutE, tIfE, false_and, exists_false, false_or, or_false, tRet, tRetN, tAndV, tOrV, tNotV, tChain, rI, rI0, rU, tC, tCB, tCons, tNil, tVar, tOp, tUn, tTest, tB, tAnd, tOr, tNot, tIf, tIfS, tSeq, tAsg, tDrop, tNext, tDIn, tDNotIn, tDPop1, gName, gTup_ref, gCons_cons, gNil_nil, and_assoc, tYes, wipe, rEq, rNe, scal_ss, scal_ii, scal_bb, scal_ns, scal_sn, scal_nn, scal_in, scal_ni, tLc_eq, tFor_eq, iList, iTup, iStr, iRng1, iRng2, iZip, iEnum, gSub, tSl, rSetL_ref, rCat_ref, rRep_ref, rJoin_ref, rSlL_ref, rSlS_ref, rMulS_ref, rIxL_ref, rIxT_ref, rLenK_ref, rAll_ref, rIn_ref, tLst, tTup, tPar, tPar3, tAug, tPart, tNoPart, tCall, List.getElem?_cons_zero, List.getElem?_cons_succ, List.set_cons_zero, List.set_cons_succ, List.map_cons, List.map_nil, List.append_nil, List.nil_append, List.cons_append, Option.some.injEq, exists_eq_left', exists_eq_left, exists_eq_right, exists_eq_right', exists_eq', V.int.injEq, V.str.injEq, V.bl.injEq, V.ref.injEq, List.cons.injEq, tM0, tM1, rNewStrs, sgn_eq, split_dot, split_sp, split_nl, dot_len, sp_len, nl_len, cxOf_K, L2.start, List.length_cons, List.length_nil, List.replicate_succ, List.replicate_zero, Nat.reduceSub, Nat.zero_add, and_true, true_and, and_self, exists_and_left, exists_const, Bool.false_eq_true, if_false, if_true, ite_true, ite_false, reduceIte, decide_eq_true_eq, reduceCtorEq, Nat.reduceAdd, Nat.reduceLT, L2H.iEnumN, cxH_K, cxH_prog, cxH_w, cxH_mg, cxH_base, tCallVSH, tVeI, tOst, tWhy, tXf, tCallS, tCallX, tLam1, tListZip, tCallX, tCallXU, tCallV, tCallVS, tLam1, tLamD, tCallS, tCls, tClsD, cx_cells, cx_scope, cx_N, cx_prog, cx_w, cx_base, cx_mg, cx_qual]
    exact ⟨by decide, _, O.oex, rfl, _, O.oex, O.no, .inl ⟨rfl, fun dx nd ne => q dx nd ne⟩⟩
theorem XH_BadText (T : Tx K mg) : InitH P w K mg base "BadText" "row" p_BadText___init__ := by
  obtain ⟨fd, F, ok⟩ := OH_BadText___init__ (P := P) (w := w) (base := base) T
  exact ⟨oexB_ok T.e_xBT, fd, ok, F.bindsN fun _ _ _ _ _ _ us hl => match us, hl with | [_, _], _ => rfl⟩
end
end Hk

set_option Elab.async false
set_option linter.all false
set_option maxRecDepth 100000
set_option maxHeartbeats 4000000
namespace Hk
open PySem PySem.Spec PyProof.Rows L2
open LamX NdefX
open TL L2H
section
variable {P : Program} {w : World} {K : PySem.W.Frag} {mg : Str → Option Value} {base : Heap}
/-! ### read, where a row is none, too -/
def badAt (z : Str) (i : Nat) : Prop := (∃ w, (linesOf z)[i]? = some w ∧ lineRow w = none) ∧ ∀ j < i, ∀ w, (linesOf z)[j]? = some w → lineRow w ≠ none
def sp_read (K : PySem.W.Frag) : Sp := fun vs H Q E => ∃ z : Str, vs = [.str z] ∧ z.length ≤ 9000 ∧ PyData.strOk z = true ∧
  ((∀ w ∈ linesOf z, lineRow w ≠ none) → ∀ H' p, Same H H' → Q (.ref p) H') ∧ (∀ i, badAt z i → ∀ H' d, Same H H' → H' d = none → E (.ref (He.ga K "BadText")) (some d) (upd H' d (.xd [("row", .int i)])))
theorem G_read (T : Tx K mg) : Glob P w K mg base (L2N.CX P w) 4 "read" p_read [] (sp_read K) := by
  obtain ⟨fd, F⟩ := T.f_read
  refine ⟨_, fd, [], F.ok sc_read (fun vs H Q E h => ?_) (fun cdv A outer s H vs Q E hr h => ?_), T.g_read, F.kp, .nil, F.bindsN fun _ _ _ _ _ _ us hl => match us, hl with | [_], _ => rfl⟩
  · obtain ⟨z, rfl, _⟩ := h; rfl
  · obtain ⟨z, rfl, hz, hok, q1, q2⟩ := h
    refine ⟨_, (pss_cons (ps_set (i := 1) sc_read.nd rfl (Or.inl rfl) (pe_lst pa_nil))
      (pss_cons (ps_for (passes_of rfl) rfl (pi_enumK (K := K) rfl (by rfl) T.b_enumerate (pa_cons (pe_ifExp (pt_cmpR op_ne (pv 0) pe_str (nomark _)) (pe_split (pv 0) pe_str) (pe_lst pa_nil)) pa_nil)) (pg_tupK (K := K) rfl rfl (pgs_cons (pg_name (i := 2) sc_read.nd rfl (Or.inl rfl)) (pgs_cons (pg_name (i := 3) sc_read.nd rfl (Or.inl rfl)) pgs_nil)))
      (pss_cons (ps_set (i := 4) sc_read.nd rfl (Or.inl rfl) (pe_callG (G_row_of T) (hr.mono (by first | decide | omega)) (by rfl) pass0 (pa_cons (pe_split (pv 3) pe_str) pa_nil)))
      (pss_cons (ps_if (pt_cmpR op_isN (pv 4) pe_non (nomark _))
      (pss_one (L2N.ps_raise rfl (L2N.takes_of rfl rfl rfl rfl) (pmk_whyNK (P := P) (w := w) (K := K) (mg := mg) (base := base) rfl rfl rfl rfl rfl (X_BadText T) (hr.mono (by first | decide | omega)) (by rfl) T.g_BadText (pa_cons (pv 2) pa_nil))))
      pss_nil)
      (pss_one (ps_expr (pe_bmK (K := K) rfl PySem.F.plainAttrs_list PySem.F.slot_list_append PySem.F.type_list_append mt_append (pv 1) (pa_cons (pv 4) pa_nil)))))))
      (pss_one (ps_ret (pv 1))))), ?_⟩
    simp only [tCutE, tIfE, false_and, exists_false, false_or, or_false, tRet, tRetN, tAndV, tOrV, tNotV, tChain, rI, rI0, rU, tC, tCB, tCons, tNil, tVar, tOp, tUn, tTest, tB, tAnd, tOr, tNot, tIf, tIfS, tSeq, tAsg, tDrop, tNext, tDIn, tDNotIn, tDPop1, gName, gTup_ref, gCons_cons, gNil_nil, and_assoc, tYes, wipe, rEq, rNe, scal_ss, scal_ii, scal_bb, scal_ns, scal_sn, scal_nn, scal_in, scal_ni, tLc_eq, tFor_eq, iList, iTup, iStr, iRng1, iRng2, iZip, iEnum, gSub, tSl, rSetL_ref, rCat_ref, rRep_ref, rJoin_ref, rSlL_ref, rSlS_ref, rMulS_ref, rIxL_ref, rIxT_ref, rLenK_ref, rAll_ref, rIn_ref, tLst, tTup, tPar, tPar3, tAug, tPart, tNoPart, tCall, List.getElem?_cons_zero, List.getElem?_cons_succ, List.set_cons_zero, List.set_cons_succ, List.map_cons, List.map_nil, List.append_nil, List.nil_append, List.cons_append, Option.some.injEq, exists_eq_left', exists_eq_left, exists_eq_right, exists_eq_right', exists_eq', V.int.injEq, V.str.injEq, V.bl.injEq, V.ref.injEq, List.cons.injEq, tM0, tM1, rNewStrs, sgn_eq, split_dot, split_sp, split_nl, dot_len, sp_len, nl_len, cxOf_K, L2.start, List.length_cons, List.length_nil, List.replicate_succ, List.replicate_zero, Nat.reduceSub, Nat.zero_add, and_true, true_and, and_self, exists_and_left, exists_const, Bool.false_eq_true, if_false, if_true, ite_true, ite_false, reduceIte, decide_eq_true_eq, reduceCtorEq, Nat.reduceAdd, Nat.reduceLT, L2H.iEnumN, cxH_K, cxH_prog, cxH_w, cxH_mg, cxH_base, tCallVSH, tVeI, tOst, tWhy, tXf, tCallS, tCallX, tLam1, tListZip, tCallX, tCallXU, tCallV, tCallVS, tLam1, tLamD, tCallS, tCls, tClsD, cx_cells, cx_scope, cx_N, cx_prog, cx_w, cx_base, cx_mg, cx_qual]
    refine ⟨by decide, fun p hp => ?_⟩
    by_cases hz0 : z = ("" : Str)
    · have e0 : linesOf z = [] := by unfold linesOf; rw [if_pos hz0]
      refine ifN (by simp [hz0]) ⟨by decide, fun p1 hp1 => ⟨_, .of upd_same, ?_⟩⟩
      refine forG walk_enum (fun i σ H' => (∃ c d e, σ = [some (.str z), some (.ref p), c, d, e]) ∧ H' = upd (upd H p (.lst [])) p1 (.lst [])) ⟨⟨_, _, _, rfl⟩, rfl⟩ (fun i σ H' _ h => by rw [h.2]; exact .of upd_same) (fun i x σ H1 H2 hi => absurd hi (by simp)) (fun σ H1 hP => ?_)
      obtain ⟨⟨c, d, e, rfl⟩, rfl⟩ := hP
      simp only [tCutE, tIfE, false_and, exists_false, false_or, or_false, tRet, tRetN, tAndV, tOrV, tNotV, tChain, rI, rI0, rU, tC, tCB, tCons, tNil, tVar, tOp, tUn, tTest, tB, tAnd, tOr, tNot, tIf, tIfS, tSeq, tAsg, tDrop, tNext, tDIn, tDNotIn, tDPop1, gName, gTup_ref, gCons_cons, gNil_nil, and_assoc, tYes, wipe, rEq, rNe, scal_ss, scal_ii, scal_bb, scal_ns, scal_sn, scal_nn, scal_in, scal_ni, tLc_eq, tFor_eq, iList, iTup, iStr, iRng1, iRng2, iZip, iEnum, gSub, tSl, rSetL_ref, rCat_ref, rRep_ref, rJoin_ref, rSlL_ref, rSlS_ref, rMulS_ref, rIxL_ref, rIxT_ref, rLenK_ref, rAll_ref, rIn_ref, tLst, tTup, tPar, tPar3, tAug, tPart, tNoPart, tCall, List.getElem?_cons_zero, List.getElem?_cons_succ, List.set_cons_zero, List.set_cons_succ, List.map_cons, List.map_nil, List.append_nil, List.nil_append, List.cons_append, Option.some.injEq, exists_eq_left', exists_eq_left, exists_eq_right, exists_eq_right', exists_eq', V.int.injEq, V.str.injEq, V.bl.injEq, V.ref.injEq, List.cons.injEq, tM0, tM1, rNewStrs, sgn_eq, split_dot, split_sp, split_nl, dot_len, sp_len, nl_len, cxOf_K, L2.start, List.length_cons, List.length_nil, List.replicate_succ, List.replicate_zero, Nat.reduceSub, Nat.zero_add, and_true, true_and, and_self, exists_and_left, exists_const, Bool.false_eq_true, if_false, if_true, ite_true, ite_false, reduceIte, decide_eq_true_eq, reduceCtorEq, Nat.reduceAdd, Nat.reduceLT, L2H.iEnumN, cxH_K, cxH_prog, cxH_w, cxH_mg, cxH_base, tCallVSH, tVeI, tOst, tWhy, tXf, tCallS, tCallX, tLam1, tListZip, tCallX, tCallXU, tCallV, tCallVS, tLam1, tLamD, tCallS, tCls, tClsD, cx_cells, cx_scope, cx_N, cx_prog, cx_w, cx_base, cx_mg, cx_qual]
      exact q1 (by rw [e0]; exact fun _ z => nomatch z) _ p (same_new (same_new (Same.refl _) hp) hp1)
    · have e0 : linesOf z = nls z := by unfold linesOf; rw [if_neg hz0]
      have hnll : (nls z).length ≤ z.length + 1 := split_len_le z "\n" (by decide +kernel) (kind_ok (by decide +kernel))
      have hne : ∀ w ∈ nls z, w.length ≤ z.length := split_each_le z "\n" (by decide +kernel) (kind_ok (by decide +kernel))
      have hno : ∀ w ∈ nls z, PyData.strOk w = true := split_ok (by decide +kernel) (kind_ok (by decide +kernel)) hok
      refine ifP (by simp [hz0]) ⟨small (by omega), fun p1 hp1 => ⟨_, .of upd_same, ?_⟩⟩
      have n1 : p ≠ p1 := ne_of_none upd_same hp1
      obtain ⟨Pv, hPv⟩ : ∃ Pv : Nat → L2.St → Hp → Prop, ∀ i σ H', Pv i σ H' ↔ ∃ c d e vs, σ = [some (.str z), some (.ref p), c, d, e] ∧ Same H H' ∧ H' p1 = some (.lst ((nls z).map V.str)) ∧ H' p = some (.lst vs) ∧ vs.length = i ∧ ∀ j < i, ∀ w, (nls z)[j]? = some w → lineRow w ≠ none := ⟨_, fun _ _ _ => Iff.rfl⟩
      refine forG walk_enum Pv ((hPv _ _ _).mpr
        ⟨_, _, _, [], rfl, same_new (same_new (Same.refl _) hp) hp1, upd_same, by rw [upd_ne n1]; exact upd_same, rfl, fun _ h => absurd h (by omega)⟩) (fun i σ H' _ z => by obtain ⟨_, _, _, _, _, _, h, _⟩ := (hPv _ _ _).mp z; exact .of h) (fun i x σ H1 H2 hi hP hy => ?_) (fun σ H1 hP => ?_)
      · obtain ⟨c, d, e, vs, rfl, s1, hp1', hp', hvl, hall⟩ := (hPv _ _ _).mp hP
        obtain ⟨t, x1, x2, rfl, ht, rfl, hx1, hx2⟩ := hy
        rw [List.length_map] at hi
        cases hx1
        obtain ⟨w, hw, rfl⟩ : ∃ w, (nls z)[i]? = some w ∧ x2 = .str w := by
          have hx2 : ((nls z).map V.str)[i]? = some x2 := hx2
          rw [List.getElem?_map] at hx2
          cases e : (nls z)[i]? with
          | none => rw [e] at hx2; cases hx2
          | some w => rw [e] at hx2; exact ⟨w, rfl, (Option.some.inj hx2).symm⟩
        have hwm : w ∈ nls z := List.mem_of_getElem? hw
        have hwl := hne w hwm
        have npt : p ≠ t := ne_of_none hp' ht
        have np1t : p1 ≠ t := ne_of_none hp1' ht
        refine ⟨t, _, rfl, .of upd_same, rfl, ?_⟩
        simp only [tCutE, tIfE, false_and, exists_false, false_or, or_false, tRet, tRetN, tAndV, tOrV, tNotV, tChain, rI, rI0, rU, tC, tCB, tCons, tNil, tVar, tOp, tUn, tTest, tB, tAnd, tOr, tNot, tIf, tIfS, tSeq, tAsg, tDrop, tNext, tDIn, tDNotIn, tDPop1, gName, gTup_ref, gCons_cons, gNil_nil, and_assoc, tYes, wipe, rEq, rNe, scal_ss, scal_ii, scal_bb, scal_ns, scal_sn, scal_nn, scal_in, scal_ni, tLc_eq, tFor_eq, iList, iTup, iStr, iRng1, iRng2, iZip, iEnum, gSub, tSl, rSetL_ref, rCat_ref, rRep_ref, rJoin_ref, rSlL_ref, rSlS_ref, rMulS_ref, rIxL_ref, rIxT_ref, rLenK_ref, rAll_ref, rIn_ref, tLst, tTup, tPar, tPar3, tAug, tPart, tNoPart, tCall, List.getElem?_cons_zero, List.getElem?_cons_succ, List.set_cons_zero, List.set_cons_succ, List.map_cons, List.map_nil, List.append_nil, List.nil_append, List.cons_append, Option.some.injEq, exists_eq_left', exists_eq_left, exists_eq_right, exists_eq_right', exists_eq', V.int.injEq, V.str.injEq, V.bl.injEq, V.ref.injEq, List.cons.injEq, tM0, tM1, rNewStrs, sgn_eq, split_dot, split_sp, split_nl, dot_len, sp_len, nl_len, cxOf_K, L2.start, List.length_cons, List.length_nil, List.replicate_succ, List.replicate_zero, Nat.reduceSub, Nat.zero_add, and_true, true_and, and_self, exists_and_left, exists_const, Bool.false_eq_true, if_false, if_true, ite_true, ite_false, reduceIte, decide_eq_true_eq, reduceCtorEq, Nat.reduceAdd, Nat.reduceLT, L2H.iEnumN, cxH_K, cxH_prog, cxH_w, cxH_mg, cxH_base, tCallVSH, tVeI, tOst, tWhy, tXf, tCallS, tCallX, tLam1, tListZip, tCallX, tCallXU, tCallV, tCallVS, tLam1, tLamD, tCallS, tCls, tClsD, cx_cells, cx_scope, cx_N, cx_prog, cx_w, cx_base, cx_mg, cx_qual]
        refine ⟨small (by omega), fun u hu => ?_⟩
        have s3 : Same H1 (upd (upd H1 t (.tup [.int (i : Nat), .str w])) u (.lst ((sps w).map V.str))) := same_new (same_new (Same.refl _) ht) hu
        have hsl : (sps w).length ≤ w.length + 1 := split_len_le w " " (by decide +kernel) (kind_ok (by decide +kernel))
        refine ⟨u, sps w, rfl, .of upd_same, by omega, fun y hy => ⟨?_, ?_⟩, fun hn H4 s4 => ?_, fun r hr H4 t4 s4 ht4 hr4 => ?_⟩
        · have := split_each_le w " " (by decide +kernel) (kind_ok (by decide +kernel)) y hy
          omega
        · exact split_ok (by decide +kernel) (kind_ok (by decide +kernel)) (hno w hwm) y hy
        · refine ifP rfl fun d hd => ?_
          exact q2 i ⟨⟨w, by rw [e0]; exact hw, hn⟩, by rw [e0]; exact hall⟩ _ d ((s1.trans s3).trans s4) hd
        · have s5 := s3.trans s4
          have hp4 : H4 p = some (.lst vs) := s5 _ _ hp'
          refine ifN (fun z => by cases z) ⟨_, rfl, .inl ⟨rfl, _, .of hp4⟩, _, rfl, p, vs, .ref t4, rfl, rfl, hp4, smallLt (by omega), ?_⟩
          refine (hPv _ _ _).mpr ⟨_, _, _, vs ++ [.ref t4], rfl, same_put (s1.trans s5) hp, by rw [upd_ne n1.symm]; exact s5 _ _ hp1', upd_same, by rw [List.length_append, hvl]; rfl, fun j hj w' hw' => ?_⟩
          by_cases ej : j = i
          · subst ej
            rw [hw] at hw'
            cases hw'
            rw [show lineRow w = rowOf (sps w) from rfl, hr]; simp
          · exact hall j (by omega) w' hw'
      · obtain ⟨c, d, e, vs, rfl, s1, hp1', hp', hvl, hall⟩ := (hPv _ _ _).mp hP
        simp only [tCutE, tIfE, false_and, exists_false, false_or, or_false, tRet, tRetN, tAndV, tOrV, tNotV, tChain, rI, rI0, rU, tC, tCB, tCons, tNil, tVar, tOp, tUn, tTest, tB, tAnd, tOr, tNot, tIf, tIfS, tSeq, tAsg, tDrop, tNext, tDIn, tDNotIn, tDPop1, gName, gTup_ref, gCons_cons, gNil_nil, and_assoc, tYes, wipe, rEq, rNe, scal_ss, scal_ii, scal_bb, scal_ns, scal_sn, scal_nn, scal_in, scal_ni, tLc_eq, tFor_eq, iList, iTup, iStr, iRng1, iRng2, iZip, iEnum, gSub, tSl, rSetL_ref, rCat_ref, rRep_ref, rJoin_ref, rSlL_ref, rSlS_ref, rMulS_ref, rIxL_ref, rIxT_ref, rLenK_ref, rAll_ref, rIn_ref, tLst, tTup, tPar, tPar3, tAug, tPart, tNoPart, tCall, List.getElem?_cons_zero, List.getElem?_cons_succ, List.set_cons_zero, List.set_cons_succ, List.map_cons, List.map_nil, List.append_nil, List.nil_append, List.cons_append, Option.some.injEq, exists_eq_left', exists_eq_left, exists_eq_right, exists_eq_right', exists_eq', V.int.injEq, V.str.injEq, V.bl.injEq, V.ref.injEq, List.cons.injEq, tM0, tM1, rNewStrs, sgn_eq, split_dot, split_sp, split_nl, dot_len, sp_len, nl_len, cxOf_K, L2.start, List.length_cons, List.length_nil, List.replicate_succ, List.replicate_zero, Nat.reduceSub, Nat.zero_add, and_true, true_and, and_self, exists_and_left, exists_const, Bool.false_eq_true, if_false, if_true, ite_true, ite_false, reduceIte, decide_eq_true_eq, reduceCtorEq, Nat.reduceAdd, Nat.reduceLT, L2H.iEnumN, cxH_K, cxH_prog, cxH_w, cxH_mg, cxH_base, tCallVSH, tVeI, tOst, tWhy, tXf, tCallS, tCallX, tLam1, tListZip, tCallX, tCallXU, tCallV, tCallVS, tLam1, tLamD, tCallS, tCls, tClsD, cx_cells, cx_scope, cx_N, cx_prog, cx_w, cx_base, cx_mg, cx_qual]
        rw [List.length_map] at hall
        refine q1 (fun w hw => ?_) _ p s1
        rw [e0] at hw
        obtain ⟨j, hj⟩ := List.mem_iff_getElem?.mp hw
        exact hall j (List.getElem?_eq_some_iff.mp hj).1 w hj
/-- a loop over enumerate that is left ahead of its end -/
theorem forGN {a : Addr} {xs : List V} {g : TG} {tb : TS} {D : Ends} {σ : L2.St} {H : Hp} (Pv : Nat → L2.St → Hp → Prop) (b : Nat) (h0 : Pv 0 σ H) (hb : b < xs.length) (hP : ∀ i σ H, Pv i σ H → SqL K H a xs)
    (hs : ∀ i σ H t x, i ≤ b → Pv i σ H → H t = none → xs[i]? = some x → g (.ref t) σ (upd H t (.tup [.int (i : Nat), x])) fun σ2 H2 => tb { D with nx := fun σ' H' => i < b ∧ Pv (i + 1) σ' H', ct := fun σ' H' => i < b ∧ Pv (i + 1) σ' H', bk := D.nx } σ2 H2) : ForG (IteN K a) g tb D σ H := by
  refine ⟨fun i m σ H => i ≤ b ∧ m = b - i ∧ Pv i σ H, ⟨b, Nat.zero_le _, rfl, h0⟩, fun i m σ H ⟨hi, hm, hp⟩ => .inr ⟨?_, fun σ' H' => i < b ∧ Pv (i + 1) σ' H', fun σ' H' ⟨h1, h2⟩ => ⟨b - (i + 1), by omega, h1, rfl, h2⟩, fun x H' hy => ?_⟩⟩
  · exact ⟨xs, xs[i], hP i σ H hp, List.getElem?_eq_getElem (by omega)⟩
  · obtain ⟨t, y, rfl, ht, rfl, hx⟩ := hy
    exact hs i σ H t y hi hp ht (hx xs (hP i σ H hp))
end
end Hk

set_option Elab.async false
set_option linter.all false
set_option maxRecDepth 100000
set_option maxHeartbeats 4000000
namespace Hk
open PySem PySem.Spec PyProof.Rows L2
open LamX NdefX
open TL L2H
section
variable {P : Program} {w : World} {K : PySem.W.Frag} {mg : Str → Option Value} {base : Heap}
/-! ### read, where an exception is handled and a row is none -/
def sp_readH (K : PySem.W.Frag) : Sp := fun vs H Q E => ∃ (z : Str) (b : Nat), vs = [.str z] ∧ z.length ≤ 9000 ∧ PyData.strOk z = true ∧ badAt z b ∧ ∀ H' d, Same H H' → H' d = none → E (.ref (He.ga K "BadText")) (some d) (upd H' d (.xd [("row", .int b)]))
theorem GH_read (T : Tx K mg) : GlobH P w K mg base (L2.CX P w) 4 "read" p_read [] (sp_readH K) := by
  obtain ⟨fd, F⟩ := T.f_read
  refine ⟨_, fd, [], FunD.okH F sc_read (fun vs H Q E h => ?_) (fun cdv A outer s H vs Q E p hr hh h => ?_), T.g_read, F.kp, .nil, F.bindsN fun _ _ _ _ _ _ us hl => match us, hl with | [_], _ => rfl⟩
  · obtain ⟨z, b, rfl, _⟩ := h; rfl
  · obtain ⟨z, b, rfl, hz, hok, ⟨⟨wb, hwb, hnb⟩, hbe⟩, q2⟩ := h
    refine ⟨_, (pss_cons (ps_set (i := 1) sc_read.nd rfl (Or.inl rfl) (pe_lst pa_nil))
      (pss_cons (ps_forH (passes_of rfl) (by first | exact hh | exact hotB hp) (pi_enumHK (K := K) rfl (by rfl) T.b_enumerate (pa_cons (pe_ifExp (pt_cmpR op_ne (pv 0) pe_str (nomark _)) (pe_split (pv 0) pe_str) (pe_lst pa_nil)) pa_nil)) (pg_tupHK (K := K) rfl (by first | exact hh | exact hotB hp) (pgs_cons (pg_name (i := 2) sc_read.nd rfl (Or.inl rfl)) (pgs_cons (pg_name (i := 3) sc_read.nd rfl (Or.inl rfl)) pgs_nil)))
      (pss_cons (ps_set (i := 4) sc_read.nd rfl (Or.inl rfl) (pe_callGH (GH_row_of T) (hr.mono (by first | decide | omega)) (by first | exact hh | exact hotB hp) (by rfl) pass0 (pa_cons (pe_split (pv 3) pe_str) pa_nil)))
      (pss_cons (ps_if (pt_cmpR op_isN (pv 4) pe_non (nomark _))
      (pss_one (ps_raiseH (by first | exact hh | exact hotB hp) (takes_of rfl rfl rfl rfl) (pmk_whyHK (P := P) (w := w) (K := K) (mg := mg) (base := base) rfl rfl rfl rfl rfl (XH_BadText T) (hr.mono (by first | decide | omega)) (by first | exact hh | exact hotB hp) (by rfl) T.g_BadText (pa_cons (pv 2) pa_nil))))
      pss_nil)
      (pss_one (ps_expr (pe_bmK (K := K) rfl PySem.F.plainAttrs_list PySem.F.slot_list_append PySem.F.type_list_append mt_append (pv 1) (pa_cons (pv 4) pa_nil)))))))
      (pss_one (ps_ret (pv 1))))), ?_⟩
    simp only [tCutE, tIfE, false_and, exists_false, false_or, or_false, tRet, tRetN, tAndV, tOrV, tNotV, tChain, rI, rI0, rU, tC, tCB, tCons, tNil, tVar, tOp, tUn, tTest, tB, tAnd, tOr, tNot, tIf, tIfS, tSeq, tAsg, tDrop, tNext, tDIn, tDNotIn, tDPop1, gName, gTup_ref, gCons_cons, gNil_nil, and_assoc, tYes, wipe, rEq, rNe, scal_ss, scal_ii, scal_bb, scal_ns, scal_sn, scal_nn, scal_in, scal_ni, tLc_eq, tFor_eq, iList, iTup, iStr, iRng1, iRng2, iZip, iEnum, gSub, tSl, rSetL_ref, rCat_ref, rRep_ref, rJoin_ref, rSlL_ref, rSlS_ref, rMulS_ref, rIxL_ref, rIxT_ref, rLenK_ref, rAll_ref, rIn_ref, tLst, tTup, tPar, tPar3, tAug, tPart, tNoPart, tCall, List.getElem?_cons_zero, List.getElem?_cons_succ, List.set_cons_zero, List.set_cons_succ, List.map_cons, List.map_nil, List.append_nil, List.nil_append, List.cons_append, Option.some.injEq, exists_eq_left', exists_eq_left, exists_eq_right, exists_eq_right', exists_eq', V.int.injEq, V.str.injEq, V.bl.injEq, V.ref.injEq, List.cons.injEq, tM0, tM1, rNewStrs, sgn_eq, split_dot, split_sp, split_nl, dot_len, sp_len, nl_len, cxOf_K, L2.start, List.length_cons, List.length_nil, List.replicate_succ, List.replicate_zero, Nat.reduceSub, Nat.zero_add, and_true, true_and, and_self, exists_and_left, exists_const, Bool.false_eq_true, if_false, if_true, ite_true, ite_false, reduceIte, decide_eq_true_eq, reduceCtorEq, Nat.reduceAdd, Nat.reduceLT, L2H.iEnumN, cxH_K, cxH_prog, cxH_w, cxH_mg, cxH_base, tCallVSH, tVeI, tOst, tWhy, tXf, tCallS, tCallX, tLam1, tListZip, tCallX, tCallXU, tCallV, tCallVS, tLam1, tLamD, tCallS, tCls, tClsD, cx_cells, cx_scope, cx_N, cx_prog, cx_w, cx_base, cx_mg, cx_qual]
    refine ⟨by decide, fun p hp => ?_⟩
    have hz0 : z ≠ ("" : Str) := fun e => by
      have e0 : linesOf z = [] := by unfold linesOf; rw [if_pos e]
      rw [e0] at hwb; cases hwb
    have e0 : linesOf z = nls z := by unfold linesOf; rw [if_neg hz0]
    rw [e0] at hwb hbe
    have hnll : (nls z).length ≤ z.length + 1 := split_len_le z "\n" (by decide +kernel) (kind_ok (by decide +kernel))
    have hne : ∀ w ∈ nls z, w.length ≤ z.length := split_each_le z "\n" (by decide +kernel) (kind_ok (by decide +kernel))
    have hno : ∀ w ∈ nls z, PyData.strOk w = true := split_ok (by decide +kernel) (kind_ok (by decide +kernel)) hok
    refine ifP (by simp [hz0]) ⟨small (by omega), fun p1 hp1 => ⟨_, .of upd_same, ?_⟩⟩
    have n1 : p ≠ p1 := ne_of_none upd_same hp1
    obtain ⟨Pv, hPv⟩ : ∃ Pv : Nat → L2.St → Hp → Prop, ∀ i σ H', Pv i σ H' ↔ ∃ c d e vs, σ = [some (.str z), some (.ref p), c, d, e] ∧ Same H H' ∧ H' p1 = some (.lst ((nls z).map V.str)) ∧ H' p = some (.lst vs) ∧ vs.length = i := ⟨_, fun _ _ _ => Iff.rfl⟩
    refine forGN (xs := (nls z).map V.str) Pv b ((hPv _ _ _).mpr ⟨_, _, _, [], rfl, same_new (same_new (Same.refl _) hp) hp1, upd_same, by rw [upd_ne n1]; exact upd_same, rfl⟩) (by rw [List.length_map]; exact (List.getElem?_eq_some_iff.mp hwb).1) (fun i σ H' z => by obtain ⟨_, _, _, _, _, _, h, _⟩ := (hPv _ _ _).mp z; exact .of h) (fun i σ H1 t x2 hi hP ht hx2 => ?_)
    obtain ⟨c, d, e, vs, rfl, s1, hp1', hp', hvl⟩ := (hPv _ _ _).mp hP
    obtain ⟨w, hw, rfl⟩ : ∃ w, (nls z)[i]? = some w ∧ x2 = .str w := by
      rw [List.getElem?_map] at hx2
      cases e : (nls z)[i]? with
      | none => rw [e] at hx2; cases hx2
      | some w => rw [e] at hx2; exact ⟨w, rfl, (Option.some.inj hx2).symm⟩
    have hwm : w ∈ nls z := List.mem_of_getElem? hw
    have hwl := hne w hwm
    have npt : p ≠ t := ne_of_none hp' ht
    have np1t : p1 ≠ t := ne_of_none hp1' ht
    refine ⟨t, _, rfl, .of upd_same, rfl, ?_⟩
    simp only [tCutE, tIfE, false_and, exists_false, false_or, or_false, tRet, tRetN, tAndV, tOrV, tNotV, tChain, rI, rI0, rU, tC, tCB, tCons, tNil, tVar, tOp, tUn, tTest, tB, tAnd, tOr, tNot, tIf, tIfS, tSeq, tAsg, tDrop, tNext, tDIn, tDNotIn, tDPop1, gName, gTup_ref, gCons_cons, gNil_nil, and_assoc, tYes, wipe, rEq, rNe, scal_ss, scal_ii, scal_bb, scal_ns, scal_sn, scal_nn, scal_in, scal_ni, tLc_eq, tFor_eq, iList, iTup, iStr, iRng1, iRng2, iZip, iEnum, gSub, tSl, rSetL_ref, rCat_ref, rRep_ref, rJoin_ref, rSlL_ref, rSlS_ref, rMulS_ref, rIxL_ref, rIxT_ref, rLenK_ref, rAll_ref, rIn_ref, tLst, tTup, tPar, tPar3, tAug, tPart, tNoPart, tCall, List.getElem?_cons_zero, List.getElem?_cons_succ, List.set_cons_zero, List.set_cons_succ, List.map_cons, List.map_nil, List.append_nil, List.nil_append, List.cons_append, Option.some.injEq, exists_eq_left', exists_eq_left, exists_eq_right, exists_eq_right', exists_eq', V.int.injEq, V.str.injEq, V.bl.injEq, V.ref.injEq, List.cons.injEq, tM0, tM1, rNewStrs, sgn_eq, split_dot, split_sp, split_nl, dot_len, sp_len, nl_len, cxOf_K, L2.start, List.length_cons, List.length_nil, List.replicate_succ, List.replicate_zero, Nat.reduceSub, Nat.zero_add, and_true, true_and, and_self, exists_and_left, exists_const, Bool.false_eq_true, if_false, if_true, ite_true, ite_false, reduceIte, decide_eq_true_eq, reduceCtorEq, Nat.reduceAdd, Nat.reduceLT, L2H.iEnumN, cxH_K, cxH_prog, cxH_w, cxH_mg, cxH_base, tCallVSH, tVeI, tOst, tWhy, tXf, tCallS, tCallX, tLam1, tListZip, tCallX, tCallXU, tCallV, tCallVS, tLam1, tLamD, tCallS, tCls, tClsD, cx_cells, cx_scope, cx_N, cx_prog, cx_w, cx_base, cx_mg, cx_qual]
    refine ⟨small (by omega), fun u hu => ?_⟩
    have s3 : Same H1 (upd (upd H1 t (.tup [.int (i : Nat), .str w])) u (.lst ((sps w).map V.str))) := same_new (same_new (Same.refl _) ht) hu
    have hsl : (sps w).length ≤ w.length + 1 := split_len_le w " " (by decide +kernel) (kind_ok (by decide +kernel))
    refine ⟨u, sps w, rfl, .of upd_same, by omega, fun y hy => ⟨?_, ?_⟩, fun hn H4 s4 => ?_, fun r hr H4 t4 s4 ht4 hr4 => ?_⟩
    · have := split_each_le w " " (by decide +kernel) (kind_ok (by decide +kernel)) y hy
      omega
    · exact split_ok (by decide +kernel) (kind_ok (by decide +kernel)) (hno w hwm) y hy
    · have eb : i = b := Classical.byContradiction fun ne => hbe i (by omega) w hw hn
      refine ifP rfl fun d hd => ?_
      rw [eb]
      exact q2 _ d ((s1.trans s3).trans s4) hd
    · have nb : i ≠ b := fun e => by
        subst e
        rw [hw] at hwb
        cases hwb
        rw [show lineRow wb = rowOf (sps wb) from rfl, hr] at hnb
        cases hnb
      have s5 := s3.trans s4
      have hp4 : H4 p = some (.lst vs) := s5 _ _ hp'
      refine ifN (fun z => by cases z) ⟨_, rfl, .inl ⟨rfl, _, .of hp4⟩, _, rfl, p, vs, .ref t4, rfl, rfl, hp4, smallLt (by have := (List.getElem?_eq_some_iff.mp hwb).1; omega), ?_⟩
      exact ⟨by omega, (hPv _ _ _).mpr ⟨_, _, _, vs ++ [.ref t4], rfl, same_put (s1.trans s5) hp, by rw [upd_ne n1.symm]; exact s5 _ _ hp1', upd_same, by rw [List.length_append, hvl]; rfl⟩⟩
end
end Hk

set_option Elab.async false
set_option linter.all false
set_option maxRecDepth 100000
set_option maxHeartbeats 4000000
namespace Hk
open PySem PySem.Spec PyProof.Rows L2
open LamX NdefX
open LamX NdefX
section
variable {P : Program} {w : World} {K : PySem.W.Frag} {mg : Str → Option Value} {base : Heap}
/-! ### _law_kind: the word of a refusal -/
def words11 : List Str := ["line", "pattern", "word", "count", "listener", "busy", "deep", "held", "work", "text", "halt"]
/-- a refusal of one of ours, by its place among them -/
structure Ref11 (K : PySem.W.Frag) (x : Str) : Prop where
  C : ExcC K (He.ga K x)
  kit : ∀ y b, (y, b) ∈ own11.map (fun y => (y, decide (y = x))) → PySem.W.kitOne K (.ref (He.ga K x)) (.ref (He.ga K y)) = some b
  ve : PySem.W.kitOne K (.ref (He.ga K x)) (.type "ValueError") = some true
  he : PySem.W.exmOne K (.ref (He.ga K x)) (.ref (He.ga K "HearError")) = some true
theorem ref11_of (h : refB K x = true) : Ref11 K x := by
  unfold refB at h
  obtain ⟨h1, h⟩ := He.ba h
  obtain ⟨h2, h⟩ := He.ba h
  obtain ⟨h3, h4⟩ := He.ba h
  exact ⟨excB_ok h1, fun y b hm => kitsB_ok h2 hm, of_decide_eq_true h3, of_decide_eq_true h4⟩
def kinds11 (x : Str) : List V := own11.map fun y => V.bl (decide (y = x))
def kindB (j : Nat) (x : Str) : Bool := decide ((kinds11 x).countP (fun z => eqV z (.bl true)) = 1) && ((match (kinds11 x)[j]? with | some z => eqV z (.bl true) | none => false) && (((kinds11 x).take j).all (fun z => !eqV z (.bl true)) && ((kinds11 x).all flatV && decide (words11[j]? = some (words11.getD j "")))))
theorem kinds_ok : ∀ j ∈ List.range 11, (match own11[j]? with | some x => kindB j x | none => false) = true := by decide +kernel
def sp_law_kind (P : Program) (w : World) (K : PySem.W.Frag) (mg : Str → Option Value) (base : Heap) : Sp := fun vs H Q _ => ∃ (f : Addr), vs = [.ref f] ∧ ∃ sp, Act P w K mg base 40 f sp ∧
  ∀ E' : XK, (∀ cls d H', (∃ x j, cls = .ref (He.ga K x) ∧ XdAt H' d ∧ Ref11 K x ∧ own11[j]? = some x ∧ ∀ H'', Same H' H'' → Q (.str (words11.getD j "")) H'') → E' cls d H') → sp [] H (fun _ H' => Q (.str ("" : Str)) H') E'
theorem G_law_kind (T : Tx K mg) : Glob P w K mg base (CX0) 41 "_law_kind" p_law_kind [] (sp_law_kind P w K mg base) := by
  obtain ⟨fd, F⟩ := T.f_law_kind
  refine ⟨_, fd, [], F.ok sc_law_kind (fun vs H Q E h => ?_) (fun cdv A outer s H vs Q E hr h => ?_), T.g__law_kind, F.kp, .nil, F.bindsN fun _ _ _ _ _ _ us hl => match us, hl with | [_], _ => rfl⟩
  · obtain ⟨f, rfl, _⟩ := h; rfl
  · obtain ⟨f, rfl, sp, ac, q⟩ := h
    refine ⟨_, PSs.nox (pss_cons (ps_try_as (i := 1) rfl rfl sc_law_kind.nd rfl rfl ⟨rfl, by decide, .inl T.g_HearError⟩ L2.takes0 (fun W pn xe tk _ => (pss_one (ps_expr (pe_callVS0K (P := P) (w := w) (K := K) (mg := mg) (base := base) rfl rfl rfl rfl rfl (k := 40) (i := 0) (hr.mono (by first | decide | omega)) (fun σ => passAt tk σ) rfl (Or.inl rfl)))))
      (fun a oe cls d pn hz hf => pss_clsD (K := K) (fun D e1 hC => (pss_cons (ps_set (i := 2) sc_law_kind.nd rfl (Or.inl rfl) (pe_lst (pa_cons (pe_callB (call_isED (K := K) rfl hC e1 hz hf) (by rfl) T.b_isinstance (by decide +kernel) (pa_cons (pv 1) (pa_cons (pe_glob (v := V.ref (He.ga K "BadLine")) rfl T.g_BadLine rfl) pa_nil))) (pa_cons (pe_callB (call_isED (K := K) rfl hC e1 hz hf) (by rfl) T.b_isinstance (by decide +kernel) (pa_cons (pv 1) (pa_cons (pe_glob (v := V.ref (He.ga K "BadPattern")) rfl T.g_BadPattern rfl) pa_nil))) (pa_cons (pe_callB (call_isED (K := K) rfl hC e1 hz hf) (by rfl) T.b_isinstance (by decide +kernel) (pa_cons (pv 1) (pa_cons (pe_glob (v := V.ref (He.ga K "BadWord")) rfl T.g_BadWord rfl) pa_nil))) (pa_cons (pe_callB (call_isED (K := K) rfl hC e1 hz hf) (by rfl) T.b_isinstance (by decide +kernel) (pa_cons (pv 1) (pa_cons (pe_glob (v := V.ref (He.ga K "BadCount")) rfl T.g_BadCount rfl) pa_nil))) pa_nil))))))
      (pss_cons (ps_set (i := 2) sc_law_kind.nd rfl (Or.inl rfl) (pe_op op_cat (pv 2) (pe_lst (pa_cons (pe_callB (call_isED (K := K) rfl hC e1 hz hf) (by rfl) T.b_isinstance (by decide +kernel) (pa_cons (pv 1) (pa_cons (pe_glob (v := V.ref (He.ga K "NoListener")) rfl T.g_NoListener rfl) pa_nil))) (pa_cons (pe_callB (call_isED (K := K) rfl hC e1 hz hf) (by rfl) T.b_isinstance (by decide +kernel) (pa_cons (pv 1) (pa_cons (pe_glob (v := V.ref (He.ga K "Busy")) rfl T.g_Busy rfl) pa_nil))) (pa_cons (pe_callB (call_isED (K := K) rfl hC e1 hz hf) (by rfl) T.b_isinstance (by decide +kernel) (pa_cons (pv 1) (pa_cons (pe_glob (v := V.ref (He.ga K "TooDeep")) rfl T.g_TooDeep rfl) pa_nil))) (pa_cons (pe_callB (call_isED (K := K) rfl hC e1 hz hf) (by rfl) T.b_isinstance (by decide +kernel) (pa_cons (pv 1) (pa_cons (pe_glob (v := V.ref (He.ga K "NotHeld")) rfl T.g_NotHeld rfl) pa_nil))) pa_nil)))))))
      (pss_cons (ps_set (i := 2) sc_law_kind.nd rfl (Or.inl rfl) (pe_op op_cat (pv 2) (pe_lst (pa_cons (pe_callB (call_isED (K := K) rfl hC e1 hz hf) (by rfl) T.b_isinstance (by decide +kernel) (pa_cons (pv 1) (pa_cons (pe_glob (v := V.ref (He.ga K "NoWork")) rfl T.g_NoWork rfl) pa_nil))) (pa_cons (pe_callB (call_isED (K := K) rfl hC e1 hz hf) (by rfl) T.b_isinstance (by decide +kernel) (pa_cons (pv 1) (pa_cons (pe_glob (v := V.ref (He.ga K "BadText")) rfl T.g_BadText rfl) pa_nil))) (pa_cons (pe_callB (call_isED (K := K) rfl hC e1 hz hf) (by rfl) T.b_isinstance (by decide +kernel) (pa_cons (pv 1) (pa_cons (pe_glob (v := V.ref (He.ga K "Halt")) rfl T.g_Halt rfl) pa_nil))) pa_nil))))))
      (pss_cons (ps_set (i := 3) sc_law_kind.nd rfl (Or.inl rfl) (pe_lst (pa_cons pe_str (pa_cons pe_str (pa_cons pe_str (pa_cons pe_str (pa_cons pe_str (pa_cons pe_str (pa_cons pe_str (pa_cons pe_str (pa_cons pe_str (pa_cons pe_str (pa_cons pe_str pa_nil)))))))))))))
      (pss_cons (ps_if (PW.pt (pw_or (pt_cmpR op_ne (pe_bmK (K := K) rfl PySem.F.plainAttrs_list PySem.F.slot_list_count PySem.F.type_list_count (mt_countF (K := K) rfl) (pv 2) (pa_cons pe_bl pa_nil)) pe_int (nomark _)) (pw_or1 (pt_not (pt_val (pe_callB (call_isED (K := K) rfl hC e1 hz hf) (by rfl) T.b_isinstance (by decide +kernel) (pa_cons (pv 1) (pa_cons (pe_bltn (v := .ty "ValueError") (by rfl) T.b_ValueError (by decide +kernel) rfl) pa_nil))))))))
      (pss_one (ps_ret pe_str))
      pss_nil)
      (pss_one (ps_ret (pe_ix (ix_listK (K := K) rfl) (pv 3) (pe_bmK (K := K) rfl PySem.F.plainAttrs_list PySem.F.slot_list_index PySem.F.type_list_index (mt_indexK (K := K) rfl) (pv 2) (pa_cons pe_bl pa_nil)) (fun _ _ => rfl))))))))))))
      (pss_one (ps_ret pe_str))), ?_⟩
    simp only [tCutE, tIfE, false_and, exists_false, false_or, or_false, tRet, tRetN, tAndV, tOrV, tNotV, tChain, rI, rI0, rU, tC, tCB, tCons, tNil, tVar, tOp, tUn, tTest, tB, tAnd, tOr, tNot, tIf, tIfS, tSeq, tAsg, tDrop, tNext, tDIn, tDNotIn, tDPop1, gName, gTup_ref, gCons_cons, gNil_nil, and_assoc, tYes, wipe, rEq, rNe, scal_ss, scal_ii, scal_bb, scal_ns, scal_sn, scal_nn, scal_in, scal_ni, tLc_eq, tFor_eq, iList, iTup, iStr, iRng1, iRng2, iZip, iEnum, gSub, tSl, rSetL_ref, rCat_ref, rRep_ref, rJoin_ref, rSlL_ref, rSlS_ref, rMulS_ref, rIxL_ref, rIxT_ref, rLenK_ref, rAll_ref, rIn_ref, tLst, tTup, tPar, tPar3, tAug, tPart, tNoPart, tCall, List.getElem?_cons_zero, List.getElem?_cons_succ, List.set_cons_zero, List.set_cons_succ, List.map_cons, List.map_nil, List.append_nil, List.nil_append, List.cons_append, Option.some.injEq, exists_eq_left', exists_eq_left, exists_eq_right, exists_eq_right', exists_eq', V.int.injEq, V.str.injEq, V.bl.injEq, V.ref.injEq, List.cons.injEq, tM0, tM1, rNewStrs, sgn_eq, split_dot, split_sp, split_nl, dot_len, sp_len, nl_len, cxOf_K, L2.start, List.length_cons, List.length_nil, List.replicate_succ, List.replicate_zero, Nat.reduceSub, Nat.zero_add, and_true, true_and, and_self, exists_and_left, exists_const, Bool.false_eq_true, if_false, if_true, ite_true, ite_false, reduceIte, decide_eq_true_eq, reduceCtorEq, Nat.reduceAdd, Nat.reduceLT, L2H.iEnumN, cxH_K, cxH_prog, cxH_w, cxH_mg, cxH_base, tCallVSH, tVeI, tOst, tWhy, tXf, tCallS, tCallX, tLam1, tListZip, tCallX, tCallXU, tCallV, tCallVS, tLam1, tLamD, tCallS, tCls, tClsD, cx_cells, cx_scope, cx_N, cx_prog, cx_w, cx_base, cx_mg, cx_qual]
    refine ⟨sp, ac, q _ fun cls d H' hx => ?_⟩
    obtain ⟨x, j, rfl, hxd, R, hj, qq⟩ := hx
    refine ⟨true, R.he, fun _ a na => ⟨_, rfl, R.C, ?_⟩, fun z => by cases z⟩
    have hj' : j < 11 := (List.getElem?_eq_some_iff.mp hj).1
    have ko := kinds_ok j (List.mem_range.mpr hj')
    rw [hj] at ko
    obtain ⟨k1, ko⟩ := He.ba (show kindB j x = true from ko)
    obtain ⟨k2, ko⟩ := He.ba ko
    obtain ⟨k3, ko⟩ := He.ba ko
    obtain ⟨k4, k5⟩ := He.ba ko
    have k1 := of_decide_eq_true k1
    have k5 := of_decide_eq_true k5
    have kit : ∀ y, y ∈ own11 → PySem.W.kitOne K (.ref (He.ga K x)) (.ref (He.ga K y)) = some (decide (y = x)) := fun y hy => R.kit y _ (List.mem_map.mpr ⟨y, hy, rfl⟩)
    simp only [tCutE, tIfE, false_and, exists_false, false_or, or_false, tRet, tRetN, tAndV, tOrV, tNotV, tChain, rI, rI0, rU, tC, tCB, tCons, tNil, tVar, tOp, tUn, tTest, tB, tAnd, tOr, tNot, tIf, tIfS, tSeq, tAsg, tDrop, tNext, tDIn, tDNotIn, tDPop1, gName, gTup_ref, gCons_cons, gNil_nil, and_assoc, tYes, wipe, rEq, rNe, scal_ss, scal_ii, scal_bb, scal_ns, scal_sn, scal_nn, scal_in, scal_ni, tLc_eq, tFor_eq, iList, iTup, iStr, iRng1, iRng2, iZip, iEnum, gSub, tSl, rSetL_ref, rCat_ref, rRep_ref, rJoin_ref, rSlL_ref, rSlS_ref, rMulS_ref, rIxL_ref, rIxT_ref, rLenK_ref, rAll_ref, rIn_ref, tLst, tTup, tPar, tPar3, tAug, tPart, tNoPart, tCall, List.getElem?_cons_zero, List.getElem?_cons_succ, List.set_cons_zero, List.set_cons_succ, List.map_cons, List.map_nil, List.append_nil, List.nil_append, List.cons_append, Option.some.injEq, exists_eq_left', exists_eq_left, exists_eq_right, exists_eq_right', exists_eq', V.int.injEq, V.str.injEq, V.bl.injEq, V.ref.injEq, List.cons.injEq, tM0, tM1, rNewStrs, sgn_eq, split_dot, split_sp, split_nl, dot_len, sp_len, nl_len, cxOf_K, L2.start, List.length_cons, List.length_nil, List.replicate_succ, List.replicate_zero, Nat.reduceSub, Nat.zero_add, and_true, true_and, and_self, exists_and_left, exists_const, Bool.false_eq_true, if_false, if_true, ite_true, ite_false, reduceIte, decide_eq_true_eq, reduceCtorEq, Nat.reduceAdd, Nat.reduceLT, L2H.iEnumN, cxH_K, cxH_prog, cxH_w, cxH_mg, cxH_base, tCallVSH, tVeI, tOst, tWhy, tXf, tCallS, tCallX, tLam1, tListZip, tCallX, tCallXU, tCallV, tCallVS, tLam1, tLamD, tCallS, tCls, tClsD, cx_cells, cx_scope, cx_N, cx_prog, cx_w, cx_base, cx_mg, cx_qual]
    refine rIsED_ref (kit "BadLine" (by decide +kernel)) hxd (rIsED_ref (kit "BadPattern" (by decide +kernel)) hxd (rIsED_ref (kit "BadWord" (by decide +kernel)) hxd (rIsED_ref (kit "BadCount" (by decide +kernel)) hxd ?_)))
    refine ⟨by decide, fun p1 hp1 => ?_⟩
    have sa1 : ∀ o, Same H' (upd H' p1 o) := fun o => (newF (H := H') rfl hp1).1
    refine rIsED_ref (kit "NoListener" (by decide +kernel)) (hxd.same (sa1 _)) (rIsED_ref (kit "Busy" (by decide +kernel)) (hxd.same (sa1 _)) (rIsED_ref (kit "TooDeep" (by decide +kernel)) (hxd.same (sa1 _)) (rIsED_ref (kit "NotHeld" (by decide +kernel)) (hxd.same (sa1 _)) ?_)))
    refine ⟨by decide, fun p2 hp2 => ?_⟩
    generalize hA : upd H' p1 _ = Ha at hp2 ⊢
    obtain ⟨sa, fa1⟩ := newF hA ‹_›
    generalize hB : upd Ha p2 _ = Hb
    obtain ⟨sb, fb⟩ := newF hB hp2
    refine ⟨_, sb _ _ fa1, _, fb, small (by simp), fun p3 hp3 => ?_⟩
    generalize hC : upd Hb p3 _ = Hc
    obtain ⟨sc, fc⟩ := newF hC hp3
    have sc1 : Same H' Hc := (sa.trans sb).trans sc
    refine rIsED_ref (kit "NoWork" (by decide +kernel)) (hxd.same sc1) (rIsED_ref (kit "BadText" (by decide +kernel)) (hxd.same sc1) (rIsED_ref (kit "Halt" (by decide +kernel)) (hxd.same sc1) ?_))
    refine ⟨by decide, fun p4 hp4 => ?_⟩
    generalize hD : upd Hc p4 _ = Hd
    obtain ⟨sd, fd4⟩ := newF hD hp4
    refine ⟨_, sd _ _ fc, _, fd4, small (by simp), fun p5 hp5 => ?_⟩
    generalize hE : upd Hd p5 _ = He5
    obtain ⟨se, fe⟩ := newF hE hp5
    refine ⟨by decide, fun p6 hp6 => ?_⟩
    generalize hF : upd He5 p6 _ = Hf
    obtain ⟨sf, ff⟩ := newF hF hp6
    have fe' : Hf p5 = some (.lst (kinds11 x)) := sf _ _ fe
    have ff' : Hf p6 = some (.lst (words11.map V.str)) := ff
    have sH : Same H' Hf := ((((sa.trans sb).trans sc).trans sd).trans se).trans sf
    refine ⟨_, rfl, .inl ⟨rfl, _, .of fe'⟩, p5, _, _, rfl, rfl, .of fe', rfl, k4, rfl, ?_⟩
    rw [k1]
    refine ifN (by simp) (rIsED_ty R.ve (hxd.same sH) ⟨_, rfl, ifN (by simp) ⟨_, rfl, .inl ⟨rfl, _, .of fe'⟩, ?_⟩⟩)
    obtain ⟨z, hz1, hz2⟩ : ∃ z, (kinds11 x)[j]? = some z ∧ eqV z (.bl true) = true := by
      cases e : (kinds11 x)[j]? with
      | none => rw [e] at k2; cases k2
      | some z => rw [e] at k2; exact ⟨z, rfl, k2⟩
    refine ⟨p5, _, _, j, z, rfl, rfl, .of fe', rfl, k4, hz1, hz2, fun m z' hm hz' => ?_, p6, _, _, _, rfl, rfl, .of ff', atI_nat (j := j) ?_, qq _ sH⟩
    · have := List.all_eq_true.mp k3 z' (List.mem_iff_getElem?.mpr ⟨m, by rw [List.getElem?_take_of_lt hm]; exact hz'⟩)
      simpa using this
    · rw [List.getElem?_map, k5]; rfl
/-! ### a lambda told to _law_kind: its body over the heap without cells -/
theorem kind_lamG {cm : List (Str × Addr)} {sc : Scope} {N : List Str} {σ : L2.St} {obs : Addr → Obj} {H : Hp} {f : Addr} {L : LF} {fr : List Str} {dvs : List V} {spN : List (Option V) → Sp} {wd : Str} {ws : List V} {N' ps' : List Str} {Q : VK} {E : XK} {R : Hp → Prop} (C : CEnv cm sc N H) (hf : H f = some (LamO f L)) (hc : H L.c = some (CodeO L.c L.qual))
    (ac : Act P w K mg base 40 f (spLam f L fr dvs spN)) (js : List Nat) (hL : L.cl = cloFrom cm L.scope.names []) (hb : ndefB sc L.scope fr = true) (S : NScope N' ps' fr L.scope) (hjs : js.map (fun j => N[j]?) = fr.map some) (hws : js.map (fun j => σ[j]?) = ws.map (fun v => some (some v))) (hdt : DtOk H L.dT dvs)
    (tells : ∀ (Qf : VK) (Ef : XK), (wd = ("" : Str) → ∀ v H', R H' → Qf v H') → (∀ x j d, own11[j]? = some x → words11.getD j "" = wd → Ref11 K x → ∀ H', XdAt H' d → R H' → Ef (.ref (He.ga K x)) d H') → spN (ws.map some) dvs H Qf Ef)
    (q : ∀ H1 H2, R H1 → ((∀ b, InC cm b → exC cm sc N σ obs H b = none → H2 b = none) → Same H1 (delC cm H2)) → Q (.str wd) H2) : sp_law_kind P w K mg base [.ref f] (exC cm sc N σ obs H) Q E := by
  obtain ⟨sp, a, run⟩ := lam_all (vs := []) (R := fun v H' => wd = ("" : Str) ∧ R H') (RE := fun c d H' => XdAt H' d ∧ (∃ x j, own11[j]? = some x ∧ words11.getD j "" = wd ∧ Ref11 K x ∧ c = .ref (He.ga K x)) ∧ R H') (obs := obs) C hf hc ac js hL hb S hjs hws hdt
    (fun Q E hq he => tells Q E (fun z v H' r => hq v H' ⟨z, r⟩) (fun x j d h1 h2 h3 H' hx r => he _ _ H' ⟨hx, ⟨x, j, h1, h2, h3, rfl⟩, r⟩))
  refine ⟨f, rfl, sp, a, fun E' hE => run _ _ (fun v Hl H' ⟨hw, r⟩ o => ?_) (fun c d Hl H' ⟨hd, ⟨x, j, h1, h2, h3, h4⟩, r⟩ o => hE _ _ _ ⟨x, j, h4, fun dd e => (hd dd e).elim fun fs q => ⟨fs, (o dd _ q).1⟩, h3, h1, fun H2 s2 => ?_⟩)⟩
  · have := q H' Hl r (o.same (Same.refl _))
    rw [hw] at this
    exact this
  · rw [h2]
    exact q H' H2 r (o.same s2)
end
end Hk

set_option Elab.async false
set_option linter.all false
set_option maxRecDepth 100000
set_option maxHeartbeats 4000000
namespace Hk
open PySem PySem.Spec PyProof.Rows L2
open LamX NdefX
open TL L2H LamX NdefX
section
variable {P : Program} {w : World} {K : PySem.W.Frag} {mg : Str → Option Value} {base : Heap}
/-! ### _law_kind, where an exception is handled (printed by hotgen.py from Kind) -/
def sp_law_kindH (P : Program) (w : World) (K : PySem.W.Frag) (mg : Str → Option Value) (base : Heap) : Sp := fun vs H Q _ => ∃ (f : Addr), vs = [.ref f] ∧ ∃ sp, ActH P w K mg base 40 f sp ∧
  ∀ E' : XK, (∀ cls d H', (∃ x j, cls = .ref (He.ga K x) ∧ XdAt H' d ∧ Ref11 K x ∧ own11[j]? = some x ∧ ∀ H'', Same H' H'' → Q (.str (words11.getD j "")) H'') → E' cls d H') → sp [] H (fun _ H' => Q (.str ("" : Str)) H') E'
theorem GH_law_kind (T : Tx K mg) : GlobH P w K mg base (CX0) 41 "_law_kind" p_law_kind [] (sp_law_kindH P w K mg base) := by
  obtain ⟨fd, F⟩ := T.f_law_kind
  refine ⟨_, fd, [], FunD.okH F sc_law_kind (fun vs H Q E h => ?_) (fun cdv A outer s H vs Q E p hr hh h => ?_), T.g__law_kind, F.kp, .nil, F.bindsN fun _ _ _ _ _ _ us hl => match us, hl with | [_], _ => rfl⟩
  · obtain ⟨f, rfl, _⟩ := h; rfl
  · obtain ⟨f, rfl, sp, ac, q⟩ := h
    refine ⟨_, PSs.nox (pss_cons (L2H.ps_try_asH (i := 1) rfl rfl sc_law_kind.nd rfl rfl ⟨rfl, by decide, .inl T.g_HearError⟩ L2.takes0 (fun W pn xe hpn tk _ => (pss_one (ps_expr (pe_callVS0HK (P := P) (w := w) (K := K) (mg := mg) (base := base) rfl rfl rfl rfl rfl (k := 40) (i := 0) (hr.mono (by first | decide | omega)) (hotT hh hpn) (fun σ => passAt tk σ) rfl (Or.inl rfl)))))
      (fun a oe cls d pn hz hf => pss_clsD (K := K) (fun D e1 hC => (pss_cons (ps_set (i := 2) sc_law_kind.nd rfl (Or.inl rfl) (pe_lst (pa_cons (pe_callB (call_isED (K := K) rfl hC e1 hz hf) (by rfl) T.b_isinstance (by decide +kernel) (pa_cons (pv 1) (pa_cons (pe_glob (v := V.ref (He.ga K "BadLine")) rfl T.g_BadLine rfl) pa_nil))) (pa_cons (pe_callB (call_isED (K := K) rfl hC e1 hz hf) (by rfl) T.b_isinstance (by decide +kernel) (pa_cons (pv 1) (pa_cons (pe_glob (v := V.ref (He.ga K "BadPattern")) rfl T.g_BadPattern rfl) pa_nil))) (pa_cons (pe_callB (call_isED (K := K) rfl hC e1 hz hf) (by rfl) T.b_isinstance (by decide +kernel) (pa_cons (pv 1) (pa_cons (pe_glob (v := V.ref (He.ga K "BadWord")) rfl T.g_BadWord rfl) pa_nil))) (pa_cons (pe_callB (call_isED (K := K) rfl hC e1 hz hf) (by rfl) T.b_isinstance (by decide +kernel) (pa_cons (pv 1) (pa_cons (pe_glob (v := V.ref (He.ga K "BadCount")) rfl T.g_BadCount rfl) pa_nil))) pa_nil))))))
      (pss_cons (ps_set (i := 2) sc_law_kind.nd rfl (Or.inl rfl) (pe_op op_cat (pv 2) (pe_lst (pa_cons (pe_callB (call_isED (K := K) rfl hC e1 hz hf) (by rfl) T.b_isinstance (by decide +kernel) (pa_cons (pv 1) (pa_cons (pe_glob (v := V.ref (He.ga K "NoListener")) rfl T.g_NoListener rfl) pa_nil))) (pa_cons (pe_callB (call_isED (K := K) rfl hC e1 hz hf) (by rfl) T.b_isinstance (by decide +kernel) (pa_cons (pv 1) (pa_cons (pe_glob (v := V.ref (He.ga K "Busy")) rfl T.g_Busy rfl) pa_nil))) (pa_cons (pe_callB (call_isED (K := K) rfl hC e1 hz hf) (by rfl) T.b_isinstance (by decide +kernel) (pa_cons (pv 1) (pa_cons (pe_glob (v := V.ref (He.ga K "TooDeep")) rfl T.g_TooDeep rfl) pa_nil))) (pa_cons (pe_callB (call_isED (K := K) rfl hC e1 hz hf) (by rfl) T.b_isinstance (by decide +kernel) (pa_cons (pv 1) (pa_cons (pe_glob (v := V.ref (He.ga K "NotHeld")) rfl T.g_NotHeld rfl) pa_nil))) pa_nil)))))))
      (pss_cons (ps_set (i := 2) sc_law_kind.nd rfl (Or.inl rfl) (pe_op op_cat (pv 2) (pe_lst (pa_cons (pe_callB (call_isED (K := K) rfl hC e1 hz hf) (by rfl) T.b_isinstance (by decide +kernel) (pa_cons (pv 1) (pa_cons (pe_glob (v := V.ref (He.ga K "NoWork")) rfl T.g_NoWork rfl) pa_nil))) (pa_cons (pe_callB (call_isED (K := K) rfl hC e1 hz hf) (by rfl) T.b_isinstance (by decide +kernel) (pa_cons (pv 1) (pa_cons (pe_glob (v := V.ref (He.ga K "BadText")) rfl T.g_BadText rfl) pa_nil))) (pa_cons (pe_callB (call_isED (K := K) rfl hC e1 hz hf) (by rfl) T.b_isinstance (by decide +kernel) (pa_cons (pv 1) (pa_cons (pe_glob (v := V.ref (He.ga K "Halt")) rfl T.g_Halt rfl) pa_nil))) pa_nil))))))
      (pss_cons (ps_set (i := 3) sc_law_kind.nd rfl (Or.inl rfl) (pe_lst (pa_cons pe_str (pa_cons pe_str (pa_cons pe_str (pa_cons pe_str (pa_cons pe_str (pa_cons pe_str (pa_cons pe_str (pa_cons pe_str (pa_cons pe_str (pa_cons pe_str (pa_cons pe_str pa_nil)))))))))))))
      (pss_cons (ps_if (PW.pt (pw_or (pt_cmpR op_ne (pe_bmK (K := K) rfl PySem.F.plainAttrs_list PySem.F.slot_list_count PySem.F.type_list_count (mt_countF (K := K) rfl) (pv 2) (pa_cons pe_bl pa_nil)) pe_int (nomark _)) (pw_or1 (pt_not (pt_val (pe_callB (call_isED (K := K) rfl hC e1 hz hf) (by rfl) T.b_isinstance (by decide +kernel) (pa_cons (pv 1) (pa_cons (pe_bltn (v := .ty "ValueError") (by rfl) T.b_ValueError (by decide +kernel) rfl) pa_nil))))))))
      (pss_one (ps_ret pe_str))
      pss_nil)
      (pss_one (ps_ret (pe_ix (ix_listK (K := K) rfl) (pv 3) (pe_bmK (K := K) rfl PySem.F.plainAttrs_list PySem.F.slot_list_index PySem.F.type_list_index (mt_indexK (K := K) rfl) (pv 2) (pa_cons pe_bl pa_nil)) (fun _ _ => rfl))))))))))))
      (pss_one (ps_ret pe_str))), ?_⟩
    simp only [tCutE, tIfE, false_and, exists_false, false_or, or_false, tRet, tRetN, tAndV, tOrV, tNotV, tChain, rI, rI0, rU, tC, tCB, tCons, tNil, tVar, tOp, tUn, tTest, tB, tAnd, tOr, tNot, tIf, tIfS, tSeq, tAsg, tDrop, tNext, tDIn, tDNotIn, tDPop1, gName, gTup_ref, gCons_cons, gNil_nil, and_assoc, tYes, wipe, rEq, rNe, scal_ss, scal_ii, scal_bb, scal_ns, scal_sn, scal_nn, scal_in, scal_ni, tLc_eq, tFor_eq, iList, iTup, iStr, iRng1, iRng2, iZip, iEnum, gSub, tSl, rSetL_ref, rCat_ref, rRep_ref, rJoin_ref, rSlL_ref, rSlS_ref, rMulS_ref, rIxL_ref, rIxT_ref, rLenK_ref, rAll_ref, rIn_ref, tLst, tTup, tPar, tPar3, tAug, tPart, tNoPart, tCall, List.getElem?_cons_zero, List.getElem?_cons_succ, List.set_cons_zero, List.set_cons_succ, List.map_cons, List.map_nil, List.append_nil, List.nil_append, List.cons_append, Option.some.injEq, exists_eq_left', exists_eq_left, exists_eq_right, exists_eq_right', exists_eq', V.int.injEq, V.str.injEq, V.bl.injEq, V.ref.injEq, List.cons.injEq, tM0, tM1, rNewStrs, sgn_eq, split_dot, split_sp, split_nl, dot_len, sp_len, nl_len, cxOf_K, L2.start, List.length_cons, List.length_nil, List.replicate_succ, List.replicate_zero, Nat.reduceSub, Nat.zero_add, and_true, true_and, and_self, exists_and_left, exists_const, Bool.false_eq_true, if_false, if_true, ite_true, ite_false, reduceIte, decide_eq_true_eq, reduceCtorEq, Nat.reduceAdd, Nat.reduceLT, L2H.iEnumN, cxH_K, cxH_prog, cxH_w, cxH_mg, cxH_base, tCallVSH, tVeI, tOst, tWhy, tXf, tCallS, tCallX, tLam1, tListZip, tCallX, tCallXU, tCallV, tCallVS, tLam1, tLamD, tCallS, tCls, tClsD, cx_cells, cx_scope, cx_N, cx_prog, cx_w, cx_base, cx_mg, cx_qual]
    refine ⟨sp, ac, q _ fun cls d H' hx => ?_⟩
    obtain ⟨x, j, rfl, hxd, R, hj, qq⟩ := hx
    refine ⟨true, R.he, fun _ a na => ⟨_, rfl, R.C, ?_⟩, fun z => by cases z⟩
    have hj' : j < 11 := (List.getElem?_eq_some_iff.mp hj).1
    have ko := kinds_ok j (List.mem_range.mpr hj')
    rw [hj] at ko
    obtain ⟨k1, ko⟩ := He.ba (show kindB j x = true from ko)
    obtain ⟨k2, ko⟩ := He.ba ko
    obtain ⟨k3, ko⟩ := He.ba ko
    obtain ⟨k4, k5⟩ := He.ba ko
    have k1 := of_decide_eq_true k1
    have k5 := of_decide_eq_true k5
    have kit : ∀ y, y ∈ own11 → PySem.W.kitOne K (.ref (He.ga K x)) (.ref (He.ga K y)) = some (decide (y = x)) := fun y hy => R.kit y _ (List.mem_map.mpr ⟨y, hy, rfl⟩)
    simp only [tCutE, tIfE, false_and, exists_false, false_or, or_false, tRet, tRetN, tAndV, tOrV, tNotV, tChain, rI, rI0, rU, tC, tCB, tCons, tNil, tVar, tOp, tUn, tTest, tB, tAnd, tOr, tNot, tIf, tIfS, tSeq, tAsg, tDrop, tNext, tDIn, tDNotIn, tDPop1, gName, gTup_ref, gCons_cons, gNil_nil, and_assoc, tYes, wipe, rEq, rNe, scal_ss, scal_ii, scal_bb, scal_ns, scal_sn, scal_nn, scal_in, scal_ni, tLc_eq, tFor_eq, iList, iTup, iStr, iRng1, iRng2, iZip, iEnum, gSub, tSl, rSetL_ref, rCat_ref, rRep_ref, rJoin_ref, rSlL_ref, rSlS_ref, rMulS_ref, rIxL_ref, rIxT_ref, rLenK_ref, rAll_ref, rIn_ref, tLst, tTup, tPar, tPar3, tAug, tPart, tNoPart, tCall, List.getElem?_cons_zero, List.getElem?_cons_succ, List.set_cons_zero, List.set_cons_succ, List.map_cons, List.map_nil, List.append_nil, List.nil_append, List.cons_append, Option.some.injEq, exists_eq_left', exists_eq_left, exists_eq_right, exists_eq_right', exists_eq', V.int.injEq, V.str.injEq, V.bl.injEq, V.ref.injEq, List.cons.injEq, tM0, tM1, rNewStrs, sgn_eq, split_dot, split_sp, split_nl, dot_len, sp_len, nl_len, cxOf_K, L2.start, List.length_cons, List.length_nil, List.replicate_succ, List.replicate_zero, Nat.reduceSub, Nat.zero_add, and_true, true_and, and_self, exists_and_left, exists_const, Bool.false_eq_true, if_false, if_true, ite_true, ite_false, reduceIte, decide_eq_true_eq, reduceCtorEq, Nat.reduceAdd, Nat.reduceLT, L2H.iEnumN, cxH_K, cxH_prog, cxH_w, cxH_mg, cxH_base, tCallVSH, tVeI, tOst, tWhy, tXf, tCallS, tCallX, tLam1, tListZip, tCallX, tCallXU, tCallV, tCallVS, tLam1, tLamD, tCallS, tCls, tClsD, cx_cells, cx_scope, cx_N, cx_prog, cx_w, cx_base, cx_mg, cx_qual]
    refine rIsED_ref (kit "BadLine" (by decide +kernel)) hxd (rIsED_ref (kit "BadPattern" (by decide +kernel)) hxd (rIsED_ref (kit "BadWord" (by decide +kernel)) hxd (rIsED_ref (kit "BadCount" (by decide +kernel)) hxd ?_)))
    refine ⟨by decide, fun p1 hp1 => ?_⟩
    have sa1 : ∀ o, Same H' (upd H' p1 o) := fun o => (newF (H := H') rfl hp1).1
    refine rIsED_ref (kit "NoListener" (by decide +kernel)) (hxd.same (sa1 _)) (rIsED_ref (kit "Busy" (by decide +kernel)) (hxd.same (sa1 _)) (rIsED_ref (kit "TooDeep" (by decide +kernel)) (hxd.same (sa1 _)) (rIsED_ref (kit "NotHeld" (by decide +kernel)) (hxd.same (sa1 _)) ?_)))
    refine ⟨by decide, fun p2 hp2 => ?_⟩
    generalize hA : upd H' p1 _ = Ha at hp2 ⊢
    obtain ⟨sa, fa1⟩ := newF hA ‹_›
    generalize hB : upd Ha p2 _ = Hb
    obtain ⟨sb, fb⟩ := newF hB hp2
    refine ⟨_, sb _ _ fa1, _, fb, small (by simp), fun p3 hp3 => ?_⟩
    generalize hC : upd Hb p3 _ = Hc
    obtain ⟨sc, fc⟩ := newF hC hp3
    have sc1 : Same H' Hc := (sa.trans sb).trans sc
    refine rIsED_ref (kit "NoWork" (by decide +kernel)) (hxd.same sc1) (rIsED_ref (kit "BadText" (by decide +kernel)) (hxd.same sc1) (rIsED_ref (kit "Halt" (by decide +kernel)) (hxd.same sc1) ?_))
    refine ⟨by decide, fun p4 hp4 => ?_⟩
    generalize hD : upd Hc p4 _ = Hd
    obtain ⟨sd, fd4⟩ := newF hD hp4
    refine ⟨_, sd _ _ fc, _, fd4, small (by simp), fun p5 hp5 => ?_⟩
    generalize hE : upd Hd p5 _ = He5
    obtain ⟨se, fe⟩ := newF hE hp5
    refine ⟨by decide, fun p6 hp6 => ?_⟩
    generalize hF : upd He5 p6 _ = Hf
    obtain ⟨sf, ff⟩ := newF hF hp6
    have fe' : Hf p5 = some (.lst (kinds11 x)) := sf _ _ fe
    have ff' : Hf p6 = some (.lst (words11.map V.str)) := ff
    have sH : Same H' Hf := ((((sa.trans sb).trans sc).trans sd).trans se).trans sf
    refine ⟨_, rfl, .inl ⟨rfl, _, .of fe'⟩, p5, _, _, rfl, rfl, .of fe', rfl, k4, rfl, ?_⟩
    rw [k1]
    refine ifN (by simp) (rIsED_ty R.ve (hxd.same sH) ⟨_, rfl, ifN (by simp) ⟨_, rfl, .inl ⟨rfl, _, .of fe'⟩, ?_⟩⟩)
    obtain ⟨z, hz1, hz2⟩ : ∃ z, (kinds11 x)[j]? = some z ∧ eqV z (.bl true) = true := by
      cases e : (kinds11 x)[j]? with
      | none => rw [e] at k2; cases k2
      | some z => rw [e] at k2; exact ⟨z, rfl, k2⟩
    refine ⟨p5, _, _, j, z, rfl, rfl, .of fe', rfl, k4, hz1, hz2, fun m z' hm hz' => ?_, p6, _, _, _, rfl, rfl, .of ff', atI_nat (j := j) ?_, qq _ sH⟩
    · have := List.all_eq_true.mp k3 z' (List.mem_iff_getElem?.mpr ⟨m, by rw [List.getElem?_take_of_lt hm]; exact hz'⟩)
      simpa using this
    · rw [List.getElem?_map, k5]; rfl
end
end Hk

set_option Elab.async false
set_option linter.all false
set_option maxRecDepth 100000
set_option maxHeartbeats 4000000
namespace Hk
open PySem PySem.Spec PyProof.Rows L2
open LamX NdefX
section
variable {P : Program} {w : World} {K : PySem.W.Frag} {mg : Str → Option Value} {base : Heap}
abbrev Fwd (K : PySem.W.Frag) (S : Addr → Prop) (H H' : Hp) : Prop := Fw (Ts K) nm S H H'
abbrev Tab (K : PySem.W.Frag) (H : Hp) : Prop := Tabs1 (Ts K) nm H
end
end Hk

set_option Elab.async false
set_option linter.all false
set_option maxRecDepth 100000
set_option maxHeartbeats 4000000
namespace Hk
open PySem PySem.Spec PyProof.Rows L2
open LamX NdefX
open TL L2H LamX NdefX
section
variable {P : Program} {w : World} {K : PySem.W.Frag} {mg : Str → Option Value} {base : Heap}
def spRdL (K : PySem.W.Frag) : List (Option V) → Sp := fun ws vs H Q E => ∃ z : Str, ws = [some (.str z)] ∧ vs = [] ∧ sp_readH K [.str z] H Q E
def sp_law_refused (P : Program) (w : World) (K : PySem.W.Frag) (mg : Str → Option Value) (base : Heap) : Sp := fun vs H Q _ => ∃ z : Str, vs = [.str z] ∧ z.length ≤ 9000 ∧ PyData.strOk z = true ∧ Tab K H ∧
  ((∀ w ∈ linesOf z, lineRow w ≠ none) → ∀ H', Fwd K No H H' → Q (.int (-1)) H') ∧ (∀ i : Nat, badAt z i → ∀ H', Fwd K No H H' → Q (.int i) H')
theorem G_law_refused (T : Tx K mg) (B : Tb K mg base) : Glob P w K mg base (CX0) (43) "_law_refused" p_law_refused [] (sp_law_refused P w K mg base) := by
  obtain ⟨fd, F⟩ := T.f_law_refused
  refine ⟨_, fd, [], okT (p := ("_law_refused", none)) F sc_law_refused (fun vs H Q E h => ?_) (fun A outer s H vs Q E hr h => ?_), T.g__law_refused, F.kp, .nil, F.bindsN fun _ _ _ _ _ _ us hl => match us, hl with | [_], _ => rfl⟩
  · obtain ⟨z, rfl, _⟩ := h; rfl
  · obtain ⟨z, rfl, hz, hok, hT, q1, q2⟩ := h
    refine ⟨_, PSs.nox (pss_cons (ps_try_as1N (i := 1) rfl rfl sc_law_refused.nd rfl rfl ⟨rfl, by decide, .inl T.g_BadText⟩ (fun W pn xe tk _ => (pss_one (ps_expr (pe_callGS (k := 4) (G_read (P := P) (w := w) T) (hr.mono (by first | decide | omega)) (by rfl) (fun σ => L2N.passAt tk σ) (pa_cons (pv 0) pa_nil)))))
      (fun a oe cls d pn hz hf => by exact (pss_one (ps_ret (pe_ifExp (pt_cmpR op_eq (pe_callXHS (GH_law_kind T).weak (hr.mono (by first | decide | omega)) (hotS hz hf) (by rfl) passN sc_law_refused.nd (fun _ _ _ => rfl) (pa_cons (pe_lamS (Ts := Ts K) (nm := nm) (B.t_law_refused) rfl (m_law_refused K) (show nm 138 34 = Str.ofString "_law_refused.<locals>." ++ Str.ofString "<lambda>" by decide +kernel) (ndef_free (sc := defScope s_law_refused) (fr := ["_law_text_here"]) (by decide +kernel)) rfl) pa_nil)) pe_str (nomark _)) (pe_xfK (K := K) rfl (X_BadText (P := P) (w := w) (base := base) T).own.xf (X_BadText (P := P) (w := w) (base := base) T).own.no hz.zc hf (pv 1)) (pe_un un_neg pe_int))))))
      (pss_one (ps_ret (pe_un un_neg pe_int)))), ?_⟩
    simp only [tCutE, tIfE, false_and, exists_false, false_or, or_false, tRet, tRetN, tAndV, tOrV, tNotV, tChain, rI, rI0, rU, tC, tCB, tCons, tNil, tVar, tOp, tUn, tTest, tB, tAnd, tOr, tNot, tIf, tIfS, tSeq, tAsg, tDrop, tNext, tDIn, tDNotIn, tDPop1, gName, gTup_ref, gCons_cons, gNil_nil, and_assoc, tYes, wipe, rEq, rNe, scal_ss, scal_ii, scal_bb, scal_ns, scal_sn, scal_nn, scal_in, scal_ni, tLc_eq, tFor_eq, iList, iTup, iStr, iRng1, iRng2, iZip, iEnum, gSub, tSl, rSetL_ref, rCat_ref, rRep_ref, rJoin_ref, rSlL_ref, rSlS_ref, rMulS_ref, rIxL_ref, rIxT_ref, rLenK_ref, rAll_ref, rIn_ref, tLst, tTup, tPar, tPar3, tAug, tPart, tNoPart, tCall, List.getElem?_cons_zero, List.getElem?_cons_succ, List.set_cons_zero, List.set_cons_succ, List.map_cons, List.map_nil, List.append_nil, List.nil_append, List.cons_append, Option.some.injEq, exists_eq_left', exists_eq_left, exists_eq_right, exists_eq_right', exists_eq', V.int.injEq, V.str.injEq, V.bl.injEq, V.ref.injEq, List.cons.injEq, tM0, tM1, rNewStrs, sgn_eq, split_dot, split_sp, split_nl, dot_len, sp_len, nl_len, cxOf_K, L2.start, List.length_cons, List.length_nil, List.replicate_succ, List.replicate_zero, Nat.reduceSub, Nat.zero_add, and_true, true_and, and_self, exists_and_left, exists_const, Bool.false_eq_true, if_false, if_true, ite_true, ite_false, reduceIte, decide_eq_true_eq, reduceCtorEq, Nat.reduceAdd, Nat.reduceLT, L2H.iEnumN, cxH_K, cxH_prog, cxH_w, cxH_mg, cxH_base, tCallVSH, tVeI, tOst, tWhy, tXf, tCallS, tCallX, tLam1, tListZip, tCallX, tCallXU, tCallV, tCallVS, tLam1, tLamD, tCallS, tCls, tClsD, cx_cells, cx_scope, cx_N, cx_prog, cx_w, cx_base, cx_mg, cx_qual]
    refine ⟨z, rfl, hz, hok, fun hg H1 p s1 => q1 hg _ (.of_same s1 hT), fun i hb H1 d s1 nd => ⟨of_decide_eq_true T.e_hBT, fun a na => ?_⟩⟩
    have w1 : Fwd K No H (upd H1 d (.xd [("row", .int i)])) := (Fw.of_same s1 hT).new nd
    have hd1 : upd H1 d (.xd [("row", .int i)]) d = some (.xd [("row", .int i)]) := upd_same
    generalize upd H1 d (.xd [("row", .int i)]) = H2 at w1 hd1 ⊢
    simp only [tCutE, tIfE, false_and, exists_false, false_or, or_false, tRet, tRetN, tAndV, tOrV, tNotV, tChain, rI, rI0, rU, tC, tCB, tCons, tNil, tVar, tOp, tUn, tTest, tB, tAnd, tOr, tNot, tIf, tIfS, tSeq, tAsg, tDrop, tNext, tDIn, tDNotIn, tDPop1, gName, gTup_ref, gCons_cons, gNil_nil, and_assoc, tYes, wipe, rEq, rNe, scal_ss, scal_ii, scal_bb, scal_ns, scal_sn, scal_nn, scal_in, scal_ni, tLc_eq, tFor_eq, iList, iTup, iStr, iRng1, iRng2, iZip, iEnum, gSub, tSl, rSetL_ref, rCat_ref, rRep_ref, rJoin_ref, rSlL_ref, rSlS_ref, rMulS_ref, rIxL_ref, rIxT_ref, rLenK_ref, rAll_ref, rIn_ref, tLst, tTup, tPar, tPar3, tAug, tPart, tNoPart, tCall, List.getElem?_cons_zero, List.getElem?_cons_succ, List.set_cons_zero, List.set_cons_succ, List.map_cons, List.map_nil, List.append_nil, List.nil_append, List.cons_append, Option.some.injEq, exists_eq_left', exists_eq_left, exists_eq_right, exists_eq_right', exists_eq', V.int.injEq, V.str.injEq, V.bl.injEq, V.ref.injEq, List.cons.injEq, tM0, tM1, rNewStrs, sgn_eq, split_dot, split_sp, split_nl, dot_len, sp_len, nl_len, cxOf_K, L2.start, List.length_cons, List.length_nil, List.replicate_succ, List.replicate_zero, Nat.reduceSub, Nat.zero_add, and_true, true_and, and_self, exists_and_left, exists_const, Bool.false_eq_true, if_false, if_true, ite_true, ite_false, reduceIte, decide_eq_true_eq, reduceCtorEq, Nat.reduceAdd, Nat.reduceLT, L2H.iEnumN, cxH_K, cxH_prog, cxH_w, cxH_mg, cxH_base, tCallVSH, tVeI, tOst, tWhy, tXf, tCallS, tCallX, tLam1, tListZip, tCallX, tCallXU, tCallV, tCallVS, tLam1, tLamD, tCallS, tCls, tClsD, cx_cells, cx_scope, cx_N, cx_prog, cx_w, cx_base, cx_mg, cx_qual]
    refine ⟨w1.tab, fun f c' H3 e3 n3 T3 f0 f1 c1 CE obs => ?_⟩
    have w3 : Fwd K No H2 H3 := .of_off w1.tab e3 n3 T3
    have caps : CapsAt (cloFrom (cellsFrom (s.heap.objs.size + 1) (defScope s_law_refused).names []) [(Str.ofString "_law_text_here", NameKind.free), (Str.ofString "read", NameKind.globalImplicit)] []) ["_law_text_here"] [.str z] (exC (cellsFrom (s.heap.objs.size + 1) (defScope s_law_refused).names []) (defScope s_law_refused) N_law_refused [some (V.str z), some (V.ref a)] obs H3) :=
      CE.caps (scope := { kind := .function, names := [(("_law_text_here" : Str), .free), (("read" : Str), .globalImplicit)], isGenerator := false, isCoroutine := false }) (js := [0]) (by kernel_rfl) (nscope_by (N := ["_law_text_here"]) (ps := []) (fr := ["_law_text_here"]) (by kernel_rfl)).free rfl rfl (fun a o h _ => h)
    have sx := CE.same (σ := [some (V.str z), some (V.ref a)]) (obs := obs)
    obtain ⟨X1, hX1⟩ : ∃ X1, X1 = exC (cellsFrom (s.heap.objs.size + 1) (defScope s_law_refused).names []) (defScope s_law_refused) N_law_refused [some (V.str z), some (V.ref a)] obs H3 := ⟨_, rfl⟩
    rw [← hX1] at caps sx ⊢
    have back : ∀ H', Same X1 H' → Same H3 (delC (cellsFrom (s.heap.objs.size + 1) (defScope s_law_refused).names []) H') := fun H' sH b o e => by rw [delC_out (CE.out e)]; exact sH _ _ (sx _ _ e)
    have key : ∀ L : LF, H3 f = some (LamO f L) → H3 L.c = some (CodeO L.c L.qual) → L.cl = (cloFrom (cellsFrom (s.heap.objs.size + 1) (defScope s_law_refused).names []) [(Str.ofString "_law_text_here", NameKind.free), (Str.ofString "read", NameKind.globalImplicit)] []) → L.dT = none → ActH P w K mg base 40 f (spLam f L ["_law_text_here"] [] (spRdL K)) → sp_law_kindH P w K mg base [V.ref f] X1 (fun v H' => scal v (V.str (Str.ofString "text")) = true ∧ if v = V.str (Str.ofString "text") then ∃ x, delC (cellsFrom (s.heap.objs.size + 1) (defScope s_law_refused).names []) H' d = some (HO.xd x) ∧ ∃ x_1, List.lookup (Str.ofString "row") x = some x_1 ∧ Q x_1 (delC (cellsFrom (s.heap.objs.size + 1) (defScope s_law_refused).names []) H') else Q (V.int (-2)) (delC (cellsFrom (s.heap.objs.size + 1) (defScope s_law_refused).names []) H')) (fun cls d H' => E0 cls d (delC (cellsFrom (s.heap.objs.size + 1) (defScope s_law_refused).names []) H')) := fun L h1 h2 h3 h4 h5 => by
      refine ⟨f, rfl, _, h5, fun E' hE => ⟨[.str z], sx _ _ h1, sx _ _ h2, (by rw [h3]; exact caps), (by unfold DtOk; rw [h4]), z, rfl, rfl, z, i, rfl, hz, hok, hb, fun Hr dd sr ndd hfree => ?_⟩⟩
      rw [h3] at sr hfree ⊢
      have ndc : ∀ b, InC (cloFrom (cellsFrom (s.heap.objs.size + 1) (defScope s_law_refused).names []) [(Str.ofString "_law_text_here", NameKind.free), (Str.ofString "read", NameKind.globalImplicit)] []) b → b ≠ dd := fun b zb e => by
        have := hfree b zb
        rw [e, upd_same] at this; cases this
      have sP : Same X1 (putC (cloFrom (cellsFrom (s.heap.objs.size + 1) (defScope s_law_refused).names []) [(Str.ofString "_law_text_here", NameKind.free), (Str.ofString "read", NameKind.globalImplicit)] []) X1 (upd Hr dd (.xd [("row", .int i)]))) := fun b o e => by
        by_cases zb : InC (cloFrom (cellsFrom (s.heap.objs.size + 1) (defScope s_law_refused).names []) [(Str.ofString "_law_text_here", NameKind.free), (Str.ofString "read", NameKind.globalImplicit)] []) b
        · rw [putC_in zb]; exact e
        · rw [putC_out zb, upd_ne (fun y => ?_)]
          · exact sr _ _ (by rw [delC_out zb]; exact e)
          · rw [y] at e
            have := sr dd o (by rw [delC_out (y ▸ zb)]; exact e)
            rw [ndd] at this; cases this
      refine hE _ _ _ ⟨"BadText", 9, rfl, fun d2 e2 => ?_, ref11_of T.e_rBT, rfl, fun H4 s4 => ?_⟩
      · cases e2
        exact ⟨_, by rw [putC_out (fun zb => ndc dd zb rfl), upd_same]⟩
      · have s5 := back H4 (sP.trans s4)
        refine ⟨rfl, ifP rfl ⟨_, s5 _ _ (w3.at_ w1.tab hd1 (fun _ z => by cases z) (fun z => z)), _, rfl, q2 i hb _ ((w1.trans w3).same s5)⟩⟩
    refine key _ f1 c1 rfl rfl (act_lamH (N := ["_law_text_here"]) (ps := []) (fr := ["_law_text_here"]) (spN := spRdL K) (nscope_by (by kernel_rfl)) rfl (fun ws vs H Q E h => by obtain ⟨_, _, rfl, _⟩ := h; rfl) (fun pm ctv us hl => ?_) (fun A outer s H vs ws Q E p hr hh hl h => ?_))
    · match us, hl with
      | [], _ => rfl
    · obtain ⟨z, rfl, rfl, h⟩ := h
      refine ⟨_, (pe_callGH (GH_read T) (hr.mono (by first | decide | omega)) (by first | exact hh | exact hotB hp) (by rfl) (passes_call (takes_of rfl rfl rfl rfl) (fun _ _ _ _ h => h)) (pa_cons (pv 0) pa_nil)), ?_⟩
      simp only [startF, tCutE, tIfE, false_and, exists_false, false_or, or_false, tRet, tRetN, tAndV, tOrV, tNotV, tChain, rI, rI0, rU, tC, tCB, tCons, tNil, tVar, tOp, tUn, tTest, tB, tAnd, tOr, tNot, tIf, tIfS, tSeq, tAsg, tDrop, tNext, tDIn, tDNotIn, tDPop1, gName, gTup_ref, gCons_cons, gNil_nil, and_assoc, tYes, wipe, rEq, rNe, scal_ss, scal_ii, scal_bb, scal_ns, scal_sn, scal_nn, scal_in, scal_ni, tLc_eq, tFor_eq, iList, iTup, iStr, iRng1, iRng2, iZip, iEnum, gSub, tSl, rSetL_ref, rCat_ref, rRep_ref, rJoin_ref, rSlL_ref, rSlS_ref, rMulS_ref, rIxL_ref, rIxT_ref, rLenK_ref, rAll_ref, rIn_ref, tLst, tTup, tPar, tPar3, tAug, tPart, tNoPart, tCall, List.getElem?_cons_zero, List.getElem?_cons_succ, List.set_cons_zero, List.set_cons_succ, List.map_cons, List.map_nil, List.append_nil, List.nil_append, List.cons_append, Option.some.injEq, exists_eq_left', exists_eq_left, exists_eq_right, exists_eq_right', exists_eq', V.int.injEq, V.str.injEq, V.bl.injEq, V.ref.injEq, List.cons.injEq, tM0, tM1, rNewStrs, sgn_eq, split_dot, split_sp, split_nl, dot_len, sp_len, nl_len, cxOf_K, L2.start, List.length_cons, List.length_nil, List.replicate_succ, List.replicate_zero, Nat.reduceSub, Nat.zero_add, and_true, true_and, and_self, exists_and_left, exists_const, Bool.false_eq_true, if_false, if_true, ite_true, ite_false, reduceIte, decide_eq_true_eq, reduceCtorEq, Nat.reduceAdd, Nat.reduceLT, L2H.iEnumN, cxH_K, cxH_prog, cxH_w, cxH_mg, cxH_base, tCallVSH, tVeI, tOst, tWhy, tXf, tCallS, tCallX, tLam1, tListZip, tCallX, tCallXU, tCallV, tCallVS, tLam1, tLamD, tCallS, tCls, tClsD, cx_cells, cx_scope, cx_N, cx_prog, cx_w, cx_base, cx_mg, cx_qual]
      exact h
end
end Hk

set_option Elab.async false
set_option linter.all false
set_option maxRecDepth 100000
set_option maxHeartbeats 4000000
namespace Hk
open PySem PySem.Spec PyProof.Rows L2
open LamX NdefX
section
variable {P : Program} {w : World} {K : PySem.W.Frag} {mg : Str → Option Value} {base : Heap}
/-! ### _law_alike: the same data -/
def sp_law_alike (K : PySem.W.Frag) (n : Nat) : Sp := fun vs H Q _ => ∃ (v u : V) (d : PyData), vs = [v, u] ∧ Dp K H v d ∧ Dp K H u d ∧ d.depth < n ∧ smallD d = true ∧ ∀ H', Same H H' → Q (.bl true) H'
theorem G_law_alike (T : Tx K mg) : ∀ n : Nat, Glob P w K mg base CX0 (n + 1) "_law_alike" p_law_alike [] (sp_law_alike K n) := by
  intro n
  obtain ⟨fd, F⟩ := T.f_law_alike
  induction n with
  | zero =>
    refine ⟨_, fd, [], ⟨fun vs H Q E h => ?_, fun A outer s H args us vs Q E _ _ _ _ h => ?_⟩, T.g__law_alike, F.kp, .nil, F.bindsN fun _ _ _ _ _ _ us hl => match us, hl with | [_, _], _ => rfl⟩
    · obtain ⟨v, u, d, rfl, _⟩ := h; rfl
    · obtain ⟨v, u, d, _, _, _, hd, _⟩ := h; omega
  | succ n ih =>
    refine ⟨_, fd, [], F.ok sc_law_alike (fun vs H Q E h => ?_) (fun cdv A outer s H vs Q E hr h => ?_), T.g__law_alike, F.kp, .nil, F.bindsN fun _ _ _ _ _ _ us hl => match us, hl with | [_, _], _ => rfl⟩
    · obtain ⟨v, u, d, rfl, _⟩ := h; rfl
    · obtain ⟨v, u, d, rfl, h1, h2, hd, hs, q⟩ := h
      refine ⟨_, PSs.nox (pss_cons (ps_if (pt_val (pe_callB (call_isiTK (K := K) rfl) (by rfl) T.b_isinstance (by decide +kernel) (pa_cons (pv 1) (pa_cons (pe_tup (pa_cons (pe_bltn (v := .ty "tuple") (by rfl) T.b_tuple (by decide +kernel) rfl) (pa_cons (pe_bltn (v := .ty "list") (by rfl) T.b_list (by decide +kernel) rfl) pa_nil))) pa_nil))))
      (pss_cons (ps_if (PW.pt (pw_or (pt_not (pt_val (pe_callB (call_isiTK (K := K) rfl) (by rfl) T.b_isinstance (by decide +kernel) (pa_cons (pv 0) (pa_cons (pe_tup (pa_cons (pe_bltn (v := .ty "tuple") (by rfl) T.b_tuple (by decide +kernel) rfl) (pa_cons (pe_bltn (v := .ty "list") (by rfl) T.b_list (by decide +kernel) rfl) pa_nil))) pa_nil))))) (pw_or1 (pt_cmpR op_ne (pe_callB (call_isiK1 (K := K) rfl) (by rfl) T.b_isinstance (by decide +kernel) (pa_cons (pv 0) (pa_cons (pe_bltn (v := .ty "list") (by rfl) T.b_list (by decide +kernel) rfl) pa_nil))) (pe_callB (call_isiK1 (K := K) rfl) (by rfl) T.b_isinstance (by decide +kernel) (pa_cons (pv 1) (pa_cons (pe_bltn (v := .ty "list") (by rfl) T.b_list (by decide +kernel) rfl) pa_nil))) (nomark _)))))
      (pss_one (ps_ret pe_bl))
      pss_nil)
      (pss_cons (ps_if (pt_cmpR op_ne (pe_callB (call_len_seqK (K := K) rfl) (by rfl) T.b_len (by decide +kernel) (pa_cons (pv 0) pa_nil)) (pe_callB (call_len_seqK (K := K) rfl) (by rfl) T.b_len (by decide +kernel) (pa_cons (pv 1) pa_nil)) (nomark _))
      (pss_one (ps_ret pe_bl))
      pss_nil)
      (pss_one (ps_ret (pe_cmpR (op_eqDK (K := K) rfl hr.units) (pe_lc (own := [("_law_k", 2)]) (g := (gName 2)) rfl sc_law_alike.nd (pi_range1 (by rfl) T.b_range (pa_cons (pe_callB (call_len_seqK (K := K) rfl) (by rfl) T.b_len (by decide +kernel) (pa_cons (pv 1) pa_nil)) pa_nil)) (blkOk_by (by kernel_rfl)) (fun _ _ _ _ _ => (pg_name (i := 2) sc_law_alike.nd rfl (Or.inl rfl))) (fun _ _ _ _ _ => (pts_one (pt_not (pt_val (pe_callG ih hr (by rfl) pass0 (pa_cons (pe_ix (ix_seqK (K := K) rfl) (pv 0) (pv 2) (fun _ _ => rfl)) (pa_cons (pe_ix (ix_seqK (K := K) rfl) (pv 1) (pv 2) (fun _ _ => rfl)) pa_nil))))))) (fun _ _ _ _ _ => (pv 2))) (pe_lst pa_nil) (nomark _))))))
      pss_nil)
      (pss_cons (ps_if (PW.pt (pw_or (pt_cmpR op_isN (pv 1) pe_non (nomark _)) (pw_or1 (pt_val (pe_callB (call_isiK1 (K := K) rfl) (by rfl) T.b_isinstance (by decide +kernel) (pa_cons (pv 1) (pa_cons (pe_bltn (v := .ty "str") (by rfl) T.b_str (by decide +kernel) rfl) pa_nil)))))))
      (pss_one (ps_ret (pe_and (pe_cmpR op_eq (pv 0) (pv 1) (nomark _)) (pe_one (pe_cmpR op_eq (pe_callB (call_isiK1 (K := K) rfl) (by rfl) T.b_isinstance (by decide +kernel) (pa_cons (pv 0) (pa_cons (pe_bltn (v := .ty "str") (by rfl) T.b_str (by decide +kernel) rfl) pa_nil))) (pe_callB (call_isiK1 (K := K) rfl) (by rfl) T.b_isinstance (by decide +kernel) (pa_cons (pv 1) (pa_cons (pe_bltn (v := .ty "str") (by rfl) T.b_str (by decide +kernel) rfl) pa_nil))) (nomark _))))))
      pss_nil)
      (pss_one (ps_ret (pe_and (pe_callB (call_isiK1 (K := K) rfl) (by rfl) T.b_isinstance (by decide +kernel) (pa_cons (pv 0) (pa_cons (pe_bltn (v := .ty "int") (by rfl) T.b_int (by decide +kernel) rfl) pa_nil))) (pe_and (pe_cmpR op_eq (pe_callB (call_isiK1 (K := K) rfl) (by rfl) T.b_isinstance (by decide +kernel) (pa_cons (pv 0) (pa_cons (pe_bltn (v := .ty "bool") (by rfl) T.b_bool (by decide +kernel) rfl) pa_nil))) (pe_callB (call_isiK1 (K := K) rfl) (by rfl) T.b_isinstance (by decide +kernel) (pa_cons (pv 1) (pa_cons (pe_bltn (v := .ty "bool") (by rfl) T.b_bool (by decide +kernel) rfl) pa_nil))) (nomark _)) (pe_one (pe_cmpR op_eq (pv 0) (pv 1) (nomark _))))))))), ?_⟩
      simp only [tCutE, tIfE, false_and, exists_false, false_or, or_false, tRet, tRetN, tAndV, tOrV, tNotV, tChain, rI, rI0, rU, tC, tCB, tCons, tNil, tVar, tOp, tUn, tTest, tB, tAnd, tOr, tNot, tIf, tIfS, tSeq, tAsg, tDrop, tNext, tDIn, tDNotIn, tDPop1, gName, gTup_ref, gCons_cons, gNil_nil, and_assoc, tYes, wipe, rEq, rNe, scal_ss, scal_ii, scal_bb, scal_ns, scal_sn, scal_nn, scal_in, scal_ni, tLc_eq, tFor_eq, iList, iTup, iStr, iRng1, iRng2, iZip, iEnum, gSub, tSl, rSetL_ref, rCat_ref, rRep_ref, rJoin_ref, rSlL_ref, rSlS_ref, rMulS_ref, rIxL_ref, rIxT_ref, rLenK_ref, rAll_ref, rIn_ref, tLst, tTup, tPar, tPar3, tAug, tPart, tNoPart, tCall, List.getElem?_cons_zero, List.getElem?_cons_succ, List.set_cons_zero, List.set_cons_succ, List.map_cons, List.map_nil, List.append_nil, List.nil_append, List.cons_append, Option.some.injEq, exists_eq_left', exists_eq_left, exists_eq_right, exists_eq_right', exists_eq', V.int.injEq, V.str.injEq, V.bl.injEq, V.ref.injEq, List.cons.injEq, tM0, tM1, rNewStrs, sgn_eq, split_dot, split_sp, split_nl, dot_len, sp_len, nl_len, cxOf_K, L2.start, List.length_cons, List.length_nil, List.replicate_succ, List.replicate_zero, Nat.reduceSub, Nat.zero_add, and_true, true_and, and_self, exists_and_left, exists_const, Bool.false_eq_true, if_false, if_true, ite_true, ite_false, reduceIte, decide_eq_true_eq, reduceCtorEq, Nat.reduceAdd, Nat.reduceLT, L2H.iEnumN, cxH_K, cxH_prog, cxH_w, cxH_mg, cxH_base, tCallVSH, tVeI, tOst, tWhy, tXf, tCallS, tCallX, tLam1, tListZip, tCallX, tCallXU, tCallV, tCallVS, tLam1, tLamD, tCallS, tCls, tClsD, cx_cells, cx_scope, cx_N, cx_prog, cx_w, cx_base, cx_mg, cx_qual]
      refine ⟨by decide, fun p hp => ?_⟩
      have s1 : Same H (upd H p (HO.tup [V.ty "tuple", V.ty "list"])) := same_put (Same.refl _) hp
      have k1 := dp_same s1 h1
      have k2 := dp_same s1 h2
      have seqs : ∀ (ds : List PyData), PyData.depthAll ds < n → ∀ (vs us : List V) (a b : Addr) (Ha : Hp), DpAll K Ha vs ds → DpAll K Ha us ds → (SqL K Ha a vs ∨ SqT K Ha a vs) → (SqL K Ha b us ∨ SqT K Ha b us) → Same H Ha → smallAll ds = true → ds.length ≤ 100000 →
          rLenK K [V.ref a] Ha fun x H1 => rLenK K [V.ref b] H1 fun y H2 => scal x y = true ∧ if (!decide (x = y)) = true then Q (V.bl false) H2 else
            rLenK K [V.ref b] H2 fun x H1 => ∃ j, x = V.int j ∧ -2 ^ 62 ≤ j ∧ j < 2 ^ 62 ∧ LcG (Itr 0 j.toNat) (gName 2) (tNot (tB (tCall (sp_law_alike K n) [] E0 (tCons (tOp (rIx K) (tVar 0) (tVar 2)) (tCons (tOp (rIx K) (tVar 1) (tVar 2)) tNil)))))
              (tVar 2) [2] [some (V.ref a), some (V.ref b), none] H1 fun x H1 => 0 ≤ sizeLine ∧ ∀ (p : Addr), H1 p = none → rEqD K x (V.ref p) (upd H1 p (HO.lst [])) Q := by
        intro ds hdd vs us a b Ha d1 d2 q1 q2 sa hsm hsz
        have l1 := dpAll_len d1
        have l2 := dpAll_len d2
        refine ⟨a, vs, rfl, q1, b, us, rfl, q2, rfl, ?_⟩
        rw [l1, l2]
        simp only [decide_true, Bool.not_true, Bool.false_eq_true, if_false]
        refine ⟨b, us, rfl, q2, _, rfl, by omega, by omega, ?_⟩
        rw [l2, Int.toNat_natCast]
        refine lc_acc walk_range No (fun _ => True) (fun i acc => acc = []) (smallLt (by omega)) (fun _ _ z => z) rfl trivial (fun _ _ _ _ _ => trivial) (fun _ _ _ => trivial) (fun i x Hb Hc acc R hi xb _ pa hy r0 r1 => ?_) (fun D acc Hb nD pa la xb _ hD => ?_)
        · obtain ⟨rfl, rfl⟩ := hy
          subst pa
          simp only [tCutE, tIfE, false_and, exists_false, false_or, or_false, tRet, tRetN, tAndV, tOrV, tNotV, tChain, rI, rI0, rU, tC, tCB, tCons, tNil, tVar, tOp, tUn, tTest, tB, tAnd, tOr, tNot, tIf, tIfS, tSeq, tAsg, tDrop, tNext, tDIn, tDNotIn, tDPop1, gName, gTup_ref, gCons_cons, gNil_nil, and_assoc, tYes, wipe, rEq, rNe, scal_ss, scal_ii, scal_bb, scal_ns, scal_sn, scal_nn, scal_in, scal_ni, tLc_eq, tFor_eq, iList, iTup, iStr, iRng1, iRng2, iZip, iEnum, gSub, tSl, rSetL_ref, rCat_ref, rRep_ref, rJoin_ref, rSlL_ref, rSlS_ref, rMulS_ref, rIxL_ref, rIxT_ref, rLenK_ref, rAll_ref, rIn_ref, tLst, tTup, tPar, tPar3, tAug, tPart, tNoPart, tCall, List.getElem?_cons_zero, List.getElem?_cons_succ, List.set_cons_zero, List.set_cons_succ, List.map_cons, List.map_nil, List.append_nil, List.nil_append, List.cons_append, Option.some.injEq, exists_eq_left', exists_eq_left, exists_eq_right, exists_eq_right', exists_eq', V.int.injEq, V.str.injEq, V.bl.injEq, V.ref.injEq, List.cons.injEq, tM0, tM1, rNewStrs, sgn_eq, split_dot, split_sp, split_nl, dot_len, sp_len, nl_len, cxOf_K, L2.start, List.length_cons, List.length_nil, List.replicate_succ, List.replicate_zero, Nat.reduceSub, Nat.zero_add, and_true, true_and, and_self, exists_and_left, exists_const, Bool.false_eq_true, if_false, if_true, ite_true, ite_false, reduceIte, decide_eq_true_eq, reduceCtorEq, Nat.reduceAdd, Nat.reduceLT, L2H.iEnumN, cxH_K, cxH_prog, cxH_w, cxH_mg, cxH_base, tCallVSH, tVeI, tOst, tWhy, tXf, tCallS, tCallX, tLam1, tListZip, tCallX, tCallXU, tCallV, tCallVS, tLam1, tLamD, tCallS, tCls, tClsD, cx_cells, cx_scope, cx_N, cx_prog, cx_w, cx_base, cx_mg, cx_qual]
          have sb : Same Ha Hc := xb.same
          have hx : ds[i]? = some ds[i] := List.getElem?_eq_getElem hi
          obtain ⟨v1, e1, f1⟩ := dpAll_get d1 hx
          obtain ⟨v2, e2, f2⟩ := dpAll_get d2 hx
          have at1 : atI vs (0 + (i : Int)) = some v1 := by rw [Int.zero_add]; exact atI_nat e1
          have at2 : atI us (0 + (i : Int)) = some v2 := by rw [Int.zero_add]; exact atI_nat e2
          have get : ∀ (a : Addr) (xs : List V) (v : V) (i : Int) (Hz : Hp) (Rz : VK), (SqL K Hz a xs ∨ SqT K Hz a xs) → atI xs i = some v → Rz v Hz → rIx K (V.ref a) (V.int i) Hz Rz := fun a xs v i Hz Rz hq ha hr => by
            rcases hq with hq | hq
            · exact .inl ⟨a, xs, i, v, rfl, rfl, hq, ha, hr⟩
            · exact .inr (.inl ⟨a, xs, i, v, rfl, rfl, hq, ha, hr⟩)
          have up : ∀ (a : Addr) (xs : List V), (SqL K Ha a xs ∨ SqT K Ha a xs) → (SqL K Hc a xs ∨ SqT K Hc a xs) := fun a xs h => h.elim (fun h => .inl (sb.seq h)) (fun h => .inr (same_tup sb h))
          refine get a vs v1 _ _ _ (up a vs q1) at1 ?_
          refine get b us v2 _ _ _ (up b us q2) at2 ?_
          refine ⟨v1, v2, ds[i], rfl, dp_same sb f1, dp_same sb f2, ?_, small_in hsm _ (List.getElem_mem hi), fun H' s' => ⟨_, rfl, ?_⟩⟩
          · have := depth_in (List.getElem_mem hi)
            omega
          · simp only [Bool.not_true, Bool.false_eq_true, if_false]
            exact r0 _ (.of_same s') trivial rfl
        · subst pa
          refine ⟨by decide, fun t ht => ⟨.list [], .list [], .lst (.of (by rw [upd_ne (ne_of_none hD ht)]; exact hD)) .nil, .lst (.of upd_same) .nil, by decide, by decide, ?_⟩⟩
          rw [eqv_nil]
          exact q _ (same_new (sa.trans xb.same) ht)
      cases h1 with
      | non =>
        cases h2
        refine isiT_dp .non upd_same (b := false) (c := false) kb_NoneType_tuple kb_NoneType_list ⟨_, rfl, ?_⟩
        simp only [Bool.or_self, Bool.false_eq_true, if_false, if_true]
        refine ⟨rfl, isi_dp .non (b := false) kb_NoneType_str (isi_dp .non (b := false) kb_NoneType_str ⟨rfl, ?_⟩)⟩
        simp only [decide_true]
        exact q _ s1
      | bl x =>
        cases h2
        refine isiT_dp (.bl x) upd_same (b := false) (c := false) kb_bool_tuple kb_bool_list ⟨_, rfl, ?_⟩
        simp only [Bool.or_self, Bool.false_eq_true, if_false, reduceCtorEq]
        refine isi_dp (.bl x) (b := false) kb_bool_str ⟨_, rfl, ?_⟩
        simp only [Bool.false_eq_true, if_false]
        refine isi_dp (.bl x) (b := true) kb_bool_int ⟨_, rfl, ?_⟩
        simp only [if_true]
        refine isi_dp (.bl x) (b := true) kb_bool_bool (isi_dp (.bl x) (b := true) kb_bool_bool ⟨rfl, ?_⟩)
        simp only [if_true, decide_true]
        exact ⟨rfl, q _ s1⟩
      | int x =>
        cases h2
        refine isiT_dp (.int x) upd_same (b := false) (c := false) kb_int_tuple kb_int_list ⟨_, rfl, ?_⟩
        simp only [Bool.or_self, Bool.false_eq_true, if_false, reduceCtorEq]
        refine isi_dp (.int x) (b := false) kb_int_str ⟨_, rfl, ?_⟩
        simp only [Bool.false_eq_true, if_false]
        refine isi_dp (.int x) (b := true) kb_int_int ⟨_, rfl, ?_⟩
        simp only [if_true]
        refine isi_dp (.int x) (b := false) kb_int_bool (isi_dp (.int x) (b := false) kb_int_bool ⟨rfl, ?_⟩)
        simp only [if_true, decide_true]
        exact ⟨rfl, q _ s1⟩
      | str x =>
        cases h2
        refine isiT_dp (.str x) upd_same (b := false) (c := false) kb_str_tuple kb_str_list ⟨_, rfl, ?_⟩
        simp only [Bool.or_self, Bool.false_eq_true, if_false, reduceCtorEq]
        refine isi_dp (.str x) (b := true) kb_str_str ⟨_, rfl, ?_⟩
        simp only [if_true]
        refine ⟨rfl, isi_dp (.str x) (b := true) kb_str_str (isi_dp (.str x) (b := true) kb_str_str ⟨rfl, ?_⟩)⟩
        simp only [decide_true]
        exact q _ s1
      | @lst a xs ds ha da =>
        cases h2 with
        | @lst b ys _ hb db =>
          refine isiT_dp k2 upd_same (b := false) (c := true) kb_list_tuple kb_list_list ⟨_, rfl, ?_⟩
          simp only [Bool.or_true, if_true]
          refine ⟨by decide, fun r hr => ?_⟩
          have s2 : Same H (upd (upd H p (HO.tup [V.ty "tuple", V.ty "list"])) r (HO.tup [V.ty "tuple", V.ty "list"])) := same_new s1 hr
          refine isiT_dp (dp_same s2 (.lst ha da)) upd_same (b := false) (c := true) kb_list_tuple kb_list_list ⟨_, rfl, ?_⟩
          simp only [Bool.or_true, Bool.not_true, Bool.false_eq_true, if_false]
          refine isi_dp (dp_same s2 (.lst ha da)) (b := true) kb_list_list (isi_dp (dp_same s2 (.lst hb db)) (b := true) kb_list_list ⟨rfl, ?_⟩)
          simp only [decide_true, Bool.not_true, Bool.false_eq_true, if_false]
          have hdd : PyData.depthAll ds < n := by simp only [PyData.depth] at hd; omega
          have hs2 : ds.length ≤ 100000 ∧ smallAll ds = true := by simpa only [smallD, Bool.and_eq_true, decide_eq_true_eq] using hs
          exact seqs ds hdd xs ys a b _ (dpAll_same s2 da) (dpAll_same s2 db) (.inl (s2.seq ha)) (.inl (s2.seq hb)) s2 hs2.2 hs2.1
      | @tup a xs ds ha da =>
        cases h2 with
        | @tup b ys _ hb db =>
          refine isiT_dp k2 upd_same (b := true) (c := false) kb_tuple_tuple kb_tuple_list ⟨_, rfl, ?_⟩
          simp only [Bool.or_false, if_true]
          refine ⟨by decide, fun r hr => ?_⟩
          have s2 : Same H (upd (upd H p (HO.tup [V.ty "tuple", V.ty "list"])) r (HO.tup [V.ty "tuple", V.ty "list"])) := same_new s1 hr
          refine isiT_dp (dp_same s2 (.tup ha da)) upd_same (b := true) (c := false) kb_tuple_tuple kb_tuple_list ⟨_, rfl, ?_⟩
          simp only [Bool.or_false, Bool.not_true, Bool.false_eq_true, if_false]
          refine isi_dp (dp_same s2 (.tup ha da)) (b := false) kb_tuple_list (isi_dp (dp_same s2 (.tup hb db)) (b := false) kb_tuple_list ⟨rfl, ?_⟩)
          simp only [decide_true, Bool.not_true, Bool.false_eq_true, if_false]
          have hdd : PyData.depthAll ds < n := by simp only [PyData.depth] at hd; omega
          have hs2 : ds.length ≤ 100000 ∧ smallAll ds = true := by simpa only [smallD, Bool.and_eq_true, decide_eq_true_eq] using hs
          exact seqs ds hdd xs ys a b _ (dpAll_same s2 da) (dpAll_same s2 db) (.inr (same_tup s2 ha)) (.inr (same_tup s2 hb)) s2 hs2.2 hs2.1
end
end Hk

set_option Elab.async false
set_option linter.all false
set_option maxRecDepth 100000
set_option maxHeartbeats 4000000
namespace Hk
open PySem PySem.Spec PyProof.Rows L2
open LamX NdefX
open TL
section
variable {P : Program} {w : World} {K : PySem.W.Frag} {mg : Str → Option Value} {base : Heap}
def sp_law_text : Sp := fun vs H Q _ => ∃ (t : Addr) (r : Row), vs = [.ref t] ∧ H t = some (.tup (rowVs r)) ∧ Good r ∧ ∀ H', Same H H' → Q (.str (rowText r)) H'
theorem G_law_text (T : Tx K mg) : Glob P w K mg base (CX0) 1 "_law_text" p_law_text [] sp_law_text := by
  obtain ⟨fd, F⟩ := T.f_law_text
  refine ⟨_, fd, [], F.ok sc_law_text (fun vs H Q E h => ?_) (fun cdv A outer s H vs Q E hr h => ?_), T.g__law_text, F.kp, .nil, F.bindsN fun _ _ _ _ _ _ us hl => match us, hl with | [_], _ => rfl⟩
  · obtain ⟨t, r, rfl, _⟩ := h; rfl
  · obtain ⟨t, r, rfl, ht, gr, q⟩ := h
    refine ⟨_, PSs.nox (pss_cons (ps_asg (pv 0) (pg_tupK (K := K) rfl rfl (pgs_cons (pg_name (i := 1) sc_law_text.nd rfl (Or.inl rfl)) (pgs_cons (pg_name (i := 2) sc_law_text.nd rfl (Or.inl rfl)) (pgs_cons (pg_name (i := 3) sc_law_text.nd rfl (Or.inl rfl)) (pgs_cons (pg_name (i := 4) sc_law_text.nd rfl (Or.inl rfl)) (pgs_cons (pg_name (i := 5) sc_law_text.nd rfl (Or.inl rfl)) pgs_nil)))))))
      (pss_one (ps_ret (pe_op op_add_str (pe_op op_add_str (pe_op op_add_str (pe_op op_add_str (pe_op op_add_str (pe_op op_add_str (pv 1) pe_str) (pv 2)) pe_str) (pe_callTy call_str_int (by rfl) T.b_str (by decide +kernel) (pa_cons (pv 3) pa_nil))) (pe_op op_mulS pe_str (pe_callTy call_int1 (by rfl) T.b_int (by decide +kernel) (pa_cons (pv 4) pa_nil)))) (pe_op op_mulS (pe_op op_add_str pe_str (pv 5)) (pe_callTy call_int1 (by rfl) T.b_int (by decide +kernel) (pa_cons (pe_cmpR op_ne (pv 5) pe_str (nomark _)) pa_nil))))))), ?_⟩
    simp only [tCutE, tIfE, false_and, exists_false, false_or, or_false, tRet, tRetN, tAndV, tOrV, tNotV, tChain, rI, rI0, rU, tC, tCB, tCons, tNil, tVar, tOp, tUn, tTest, tB, tAnd, tOr, tNot, tIf, tIfS, tSeq, tAsg, tDrop, tNext, tDIn, tDNotIn, tDPop1, gName, gTup_ref, gCons_cons, gNil_nil, and_assoc, tYes, wipe, rEq, rNe, scal_ss, scal_ii, scal_bb, scal_ns, scal_sn, scal_nn, scal_in, scal_ni, tLc_eq, tFor_eq, iList, iTup, iStr, iRng1, iRng2, iZip, iEnum, gSub, tSl, rSetL_ref, rCat_ref, rRep_ref, rJoin_ref, rSlL_ref, rSlS_ref, rMulS_ref, rIxL_ref, rIxT_ref, rLenK_ref, rAll_ref, rIn_ref, tLst, tTup, tPar, tPar3, tAug, tPart, tNoPart, tCall, List.getElem?_cons_zero, List.getElem?_cons_succ, List.set_cons_zero, List.set_cons_succ, List.map_cons, List.map_nil, List.append_nil, List.nil_append, List.cons_append, Option.some.injEq, exists_eq_left', exists_eq_left, exists_eq_right, exists_eq_right', exists_eq', V.int.injEq, V.str.injEq, V.bl.injEq, V.ref.injEq, List.cons.injEq, tM0, tM1, rNewStrs, sgn_eq, split_dot, split_sp, split_nl, dot_len, sp_len, nl_len, cxOf_K, L2.start, List.length_cons, List.length_nil, List.replicate_succ, List.replicate_zero, Nat.reduceSub, Nat.zero_add, and_true, true_and, and_self, exists_and_left, exists_const, Bool.false_eq_true, if_false, if_true, ite_true, ite_false, reduceIte, decide_eq_true_eq, reduceCtorEq, Nat.reduceAdd, Nat.reduceLT, L2H.iEnumN, cxH_K, cxH_prog, cxH_w, cxH_mg, cxH_base, tCallVSH, tVeI, tOst, tWhy, tXf, tCallS, tCallX, tLam1, tListZip, tCallX, tCallXU, tCallV, tCallVS, tLam1, tLamD, tCallS, tCls, tClsD, cx_cells, cx_scope, cx_N, cx_prog, cx_w, cx_base, cx_mg, cx_qual]
    refine ⟨_, .of ht, rfl, ?_⟩
    simp only [rowVs, tCutE, tIfE, false_and, exists_false, false_or, or_false, tRet, tRetN, tAndV, tOrV, tNotV, tChain, rI, rI0, rU, tC, tCB, tCons, tNil, tVar, tOp, tUn, tTest, tB, tAnd, tOr, tNot, tIf, tIfS, tSeq, tAsg, tDrop, tNext, tDIn, tDNotIn, tDPop1, gName, gTup_ref, gCons_cons, gNil_nil, and_assoc, tYes, wipe, rEq, rNe, scal_ss, scal_ii, scal_bb, scal_ns, scal_sn, scal_nn, scal_in, scal_ni, tLc_eq, tFor_eq, iList, iTup, iStr, iRng1, iRng2, iZip, iEnum, gSub, tSl, rSetL_ref, rCat_ref, rRep_ref, rJoin_ref, rSlL_ref, rSlS_ref, rMulS_ref, rIxL_ref, rIxT_ref, rLenK_ref, rAll_ref, rIn_ref, tLst, tTup, tPar, tPar3, tAug, tPart, tNoPart, tCall, List.getElem?_cons_zero, List.getElem?_cons_succ, List.set_cons_zero, List.set_cons_succ, List.map_cons, List.map_nil, List.append_nil, List.nil_append, List.cons_append, Option.some.injEq, exists_eq_left', exists_eq_left, exists_eq_right, exists_eq_right', exists_eq', V.int.injEq, V.str.injEq, V.bl.injEq, V.ref.injEq, List.cons.injEq, tM0, tM1, rNewStrs, sgn_eq, split_dot, split_sp, split_nl, dot_len, sp_len, nl_len, cxOf_K, L2.start, List.length_cons, List.length_nil, List.replicate_succ, List.replicate_zero, Nat.reduceSub, Nat.zero_add, and_true, true_and, and_self, exists_and_left, exists_const, Bool.false_eq_true, if_false, if_true, ite_true, ite_false, reduceIte, decide_eq_true_eq, reduceCtorEq, Nat.reduceAdd, Nat.reduceLT, L2H.iEnumN, cxH_K, cxH_prog, cxH_w, cxH_mg, cxH_base, tCallVSH, tVeI, tOst, tWhy, tXf, tCallS, tCallX, tLam1, tListZip, tCallX, tCallXU, tCallV, tCallVS, tLam1, tLamD, tCallS, tCls, tClsD, cx_cells, cx_scope, cx_N, cx_prog, cx_w, cx_base, cx_mg, cx_qual]
    rw [rowText_eq]
    have h1 := word_len gr.n
    have h2 := gr.gl
    have h3 : (Str.ofString (toString r.r)).length ≤ 2 := gr.rl
    have h4 := gr.pl
    have e1 : (Str.ofString " ").length = 1 := by decide +kernel
    have e2 : (if (if r.o = true then (1 : Int) else 0) = 1 then Str.ofString " once" else Str.empty).length ≤ 5 := by cases r.o <;> decide +kernel
    have e3 : (Str.ofString " in ").length = 4 := by decide +kernel
    have ea : ∀ a b : Str, (a ++ b).length = a.length + b.length := fun a b => by rw [len_tl, tl_append, List.length_append, ← len_tl, ← len_tl]
    have e4 : (if (if (!decide (r.g = Str.ofString "")) = true then (1 : Int) else 0) = 1 then Str.ofString " in " ++ r.g else Str.empty).length ≤ 8 := by
      generalize (if (!decide (r.g = Str.ofString "")) = true then (1 : Int) else 0) = k
      split
      · rw [ea]; omega
      · exact Nat.zero_le _
    simp only [ea]
    refine ⟨small (by omega), small (by omega), small (by omega), gr.log, small (by omega), by cases r.o <;> simp, small (by omega), small (by omega), ?_, small (by omega), q _ (Same.refl _)⟩
    by_cases h : r.g = ("" : Str) <;> simp [h]
end
end Hk

set_option Elab.async false
set_option linter.all false
set_option maxRecDepth 100000
set_option maxHeartbeats 4000000
namespace Hk
open PySem PySem.Spec PyProof.Rows L2
open LamX NdefX
open TL
section
variable {P : Program} {w : World} {K : PySem.W.Frag} {mg : Str → Option Value} {base : Heap}
def sp_law_word : Sp := fun vs H Q _ => ∃ (h l : Addr), vs = [.ref h] ∧ SrcOk H h l ∧
  ∀ H' (w : Str), Ext (DrS h l) H H' → SrcOk H' h l → isWord w = true → Q (.str w) H'
theorem G_law_word (T : Tx K mg) : Glob P w K mg base (CX0) 2 "_law_word" p_law_word [] sp_law_word := by
  obtain ⟨fd, F⟩ := T.f_law_word
  refine ⟨_, fd, [], F.ok sc_law_word (fun vs H Q E h => ?_) (fun cdv A outer s H vs Q E hr h => ?_), T.g__law_word, F.kp, .nil, F.bindsN fun _ _ _ _ _ _ us hl => match us, hl with | [_], _ => rfl⟩
  · obtain ⟨h, l, rfl, _⟩ := h; rfl
  · obtain ⟨h, l, rfl, hS, q⟩ := h
    refine ⟨_, PSs.nox (pss_one (ps_ret (pe_joinK (K := K) rfl pe_str (pe_lc (own := [("_law_k", 1)]) (g := (gName 1)) (tt := tYes) rfl sc_law_word.nd (pi_range1 (by rfl) T.b_range (pa_cons (pe_op op_add pe_int (pe_callG (G_law_next T) (hr.mono (by first | decide | omega)) (by rfl) pass0 (pa_cons (pv 0) (pa_cons pe_int pa_nil)))) pa_nil)) (blkOk_by (by kernel_rfl)) (fun _ _ _ _ _ => (pg_name (i := 1) sc_law_word.nd rfl (Or.inl rfl))) (fun _ _ _ _ _ => pts_nil) (fun _ _ _ _ _ => (pe_item_str pe_str (pe_callG (G_law_next T) (hr.mono (by first | decide | omega)) (by rfl) pass0 (pa_cons (pv 0) (pa_cons pe_int pa_nil))) (fun _ _ => rfl))))))), ?_⟩
    simp only [tCutE, tIfE, false_and, exists_false, false_or, or_false, tRet, tRetN, tAndV, tOrV, tNotV, tChain, rI, rI0, rU, tC, tCB, tCons, tNil, tVar, tOp, tUn, tTest, tB, tAnd, tOr, tNot, tIf, tIfS, tSeq, tAsg, tDrop, tNext, tDIn, tDNotIn, tDPop1, gName, gTup_ref, gCons_cons, gNil_nil, and_assoc, tYes, wipe, rEq, rNe, scal_ss, scal_ii, scal_bb, scal_ns, scal_sn, scal_nn, scal_in, scal_ni, tLc_eq, tFor_eq, iList, iTup, iStr, iRng1, iRng2, iZip, iEnum, gSub, tSl, rSetL_ref, rCat_ref, rRep_ref, rJoin_ref, rSlL_ref, rSlS_ref, rMulS_ref, rIxL_ref, rIxT_ref, rLenK_ref, rAll_ref, rIn_ref, tLst, tTup, tPar, tPar3, tAug, tPart, tNoPart, tCall, List.getElem?_cons_zero, List.getElem?_cons_succ, List.set_cons_zero, List.set_cons_succ, List.map_cons, List.map_nil, List.append_nil, List.nil_append, List.cons_append, Option.some.injEq, exists_eq_left', exists_eq_left, exists_eq_right, exists_eq_right', exists_eq', V.int.injEq, V.str.injEq, V.bl.injEq, V.ref.injEq, List.cons.injEq, tM0, tM1, rNewStrs, sgn_eq, split_dot, split_sp, split_nl, dot_len, sp_len, nl_len, cxOf_K, L2.start, List.length_cons, List.length_nil, List.replicate_succ, List.replicate_zero, Nat.reduceSub, Nat.zero_add, and_true, true_and, and_self, exists_and_left, exists_const, Bool.false_eq_true, if_false, if_true, ite_true, ite_false, reduceIte, decide_eq_true_eq, reduceCtorEq, Nat.reduceAdd, Nat.reduceLT, L2H.iEnumN, cxH_K, cxH_prog, cxH_w, cxH_mg, cxH_base, tCallVSH, tVeI, tOst, tWhy, tXf, tCallS, tCallX, tLam1, tListZip, tCallX, tCallXU, tCallV, tCallVS, tLam1, tLamD, tCallS, tCls, tClsD, cx_cells, cx_scope, cx_N, cx_prog, cx_w, cx_base, cx_mg, cx_qual]
    refine ⟨h, l, 4, rfl, hS, by decide, by decide, fun H3 r3 x3 S3 h30 h31 => ⟨_, rfl, by omega, by omega, ?_⟩⟩
    refine lc_acc walk_range (DrS h l) (fun H => SrcOk H h l) (fun i acc => ∃ cs : List Nat, acc = cs.map (fun c => V.str ⟨#[c]⟩) ∧ cs.length = i ∧ ∀ c ∈ cs, c ∈ tl letters) (smallLt (by omega)) (fun D nD => S3.nD nD) ⟨[], rfl, rfl, fun _ h => nomatch h⟩ S3 (fun D H o nD s => s.put (S3.neD nD).1 (S3.neD nD).2) (fun _ _ _ => trivial) (fun j y Hc Hd acc2 R2 hj xc Sc pc hy q0 q1 => ?_) (fun D acc2 Hc nD pc lc xc Sc hD => ?_)
    · obtain ⟨rfl, rfl⟩ := hy
      obtain ⟨cs, rfl, hcl, hcs⟩ := pc
      simp only [tCutE, tIfE, false_and, exists_false, false_or, or_false, tRet, tRetN, tAndV, tOrV, tNotV, tChain, rI, rI0, rU, tC, tCB, tCons, tNil, tVar, tOp, tUn, tTest, tB, tAnd, tOr, tNot, tIf, tIfS, tSeq, tAsg, tDrop, tNext, tDIn, tDNotIn, tDPop1, gName, gTup_ref, gCons_cons, gNil_nil, and_assoc, tYes, wipe, rEq, rNe, scal_ss, scal_ii, scal_bb, scal_ns, scal_sn, scal_nn, scal_in, scal_ni, tLc_eq, tFor_eq, iList, iTup, iStr, iRng1, iRng2, iZip, iEnum, gSub, tSl, rSetL_ref, rCat_ref, rRep_ref, rJoin_ref, rSlL_ref, rSlS_ref, rMulS_ref, rIxL_ref, rIxT_ref, rLenK_ref, rAll_ref, rIn_ref, tLst, tTup, tPar, tPar3, tAug, tPart, tNoPart, tCall, List.getElem?_cons_zero, List.getElem?_cons_succ, List.set_cons_zero, List.set_cons_succ, List.map_cons, List.map_nil, List.append_nil, List.nil_append, List.cons_append, Option.some.injEq, exists_eq_left', exists_eq_left, exists_eq_right, exists_eq_right', exists_eq', V.int.injEq, V.str.injEq, V.bl.injEq, V.ref.injEq, List.cons.injEq, tM0, tM1, rNewStrs, sgn_eq, split_dot, split_sp, split_nl, dot_len, sp_len, nl_len, cxOf_K, L2.start, List.length_cons, List.length_nil, List.replicate_succ, List.replicate_zero, Nat.reduceSub, Nat.zero_add, and_true, true_and, and_self, exists_and_left, exists_const, Bool.false_eq_true, if_false, if_true, ite_true, ite_false, reduceIte, decide_eq_true_eq, reduceCtorEq, Nat.reduceAdd, Nat.reduceLT, L2H.iEnumN, cxH_K, cxH_prog, cxH_w, cxH_mg, cxH_base, tCallVSH, tVeI, tOst, tWhy, tXf, tCallS, tCallX, tLam1, tListZip, tCallX, tCallXU, tCallV, tCallVS, tLam1, tLamD, tCallS, tCls, tClsD, cx_cells, cx_scope, cx_N, cx_prog, cx_w, cx_base, cx_mg, cx_qual]
      refine ⟨h, l, 26, rfl, Sc, by omega, by omega, fun H4 r4 x4 S4 h40 h41 => ⟨_, rfl, h40, by omega, ?_, ?_⟩⟩
      · have : (Str.ofString "abcdefghijklmnopqrstuvwxyz").length = 26 := by decide +kernel
        rw [this]; omega
      · have hll : (tl letters).length = 26 := by decide +kernel
        have hlt : r4.toNat < (tl letters).length := by omega
        have hg : (Str.ofString "abcdefghijklmnopqrstuvwxyz").cps[r4.toNat]? = some (tl letters)[r4.toNat] := by
          rw [← Array.getElem?_toList]
          exact List.getElem?_eq_getElem hlt
        refine ⟨_, hg, q1 _ _ x4 S4 ⟨cs ++ [(tl letters)[r4.toNat]], by rw [List.map_append]; rfl, by rw [List.length_append, hcl]; rfl, fun d hd => ?_⟩⟩
        rcases List.mem_append.mp hd with hd | hd
        · exact hcs d hd
        · rw [List.mem_singleton.mp hd]; exact List.getElem_mem hlt
    · obtain ⟨cs, rfl, hcl, hcs⟩ := pc
      simp only [tCutE, tIfE, false_and, exists_false, false_or, or_false, tRet, tRetN, tAndV, tOrV, tNotV, tChain, rI, rI0, rU, tC, tCB, tCons, tNil, tVar, tOp, tUn, tTest, tB, tAnd, tOr, tNot, tIf, tIfS, tSeq, tAsg, tDrop, tNext, tDIn, tDNotIn, tDPop1, gName, gTup_ref, gCons_cons, gNil_nil, and_assoc, tYes, wipe, rEq, rNe, scal_ss, scal_ii, scal_bb, scal_ns, scal_sn, scal_nn, scal_in, scal_ni, tLc_eq, tFor_eq, iList, iTup, iStr, iRng1, iRng2, iZip, iEnum, gSub, tSl, rSetL_ref, rCat_ref, rRep_ref, rJoin_ref, rSlL_ref, rSlS_ref, rMulS_ref, rIxL_ref, rIxT_ref, rLenK_ref, rAll_ref, rIn_ref, tLst, tTup, tPar, tPar3, tAug, tPart, tNoPart, tCall, List.getElem?_cons_zero, List.getElem?_cons_succ, List.set_cons_zero, List.set_cons_succ, List.map_cons, List.map_nil, List.append_nil, List.nil_append, List.cons_append, Option.some.injEq, exists_eq_left', exists_eq_left, exists_eq_right, exists_eq_right', exists_eq', V.int.injEq, V.str.injEq, V.bl.injEq, V.ref.injEq, List.cons.injEq, tM0, tM1, rNewStrs, sgn_eq, split_dot, split_sp, split_nl, dot_len, sp_len, nl_len, cxOf_K, L2.start, List.length_cons, List.length_nil, List.replicate_succ, List.replicate_zero, Nat.reduceSub, Nat.zero_add, and_true, true_and, and_self, exists_and_left, exists_const, Bool.false_eq_true, if_false, if_true, ite_true, ite_false, reduceIte, decide_eq_true_eq, reduceCtorEq, Nat.reduceAdd, Nat.reduceLT, L2H.iEnumN, cxH_K, cxH_prog, cxH_w, cxH_mg, cxH_base, tCallVSH, tVeI, tOst, tWhy, tXf, tCallS, tCallX, tLam1, tListZip, tCallX, tCallXU, tCallV, tCallVS, tLam1, tLamD, tCallS, tCls, tClsD, cx_cells, cx_scope, cx_N, cx_prog, cx_w, cx_base, cx_mg, cx_qual]
      refine ⟨cs.map fun c => (⟨#[c]⟩ : Str), .inl (.of (by rw [hD, List.map_map]; rfl)), ?_, ?_⟩
      · rw [sum_one, List.length_map]
        have : (Str.ofString "").length = 0 := by decide +kernel
        rw [this]; omega
      · refine q _ _ (x3.trans xc) Sc ?_
        have et := tl_signs cs
        unfold isWord
        have hl1 : (Txt.join (Str.ofString "") (cs.map fun c => (⟨#[c]⟩ : Str))).length = cs.length := by rw [len_tl, et]
        rw [hl1, decide_eq_true (by omega : 1 ≤ cs.length), decide_eq_true (by omega : cs.length ≤ 4), et, Bool.true_and, Bool.true_and, List.all_eq_true]
        exact fun c hc => decide_eq_true (hcs c hc)
def sp_law_row : Sp := fun vs H Q _ => ∃ (h l : Addr), vs = [.ref h] ∧ SrcOk H h l ∧
  ∀ H' (t : Addr) (r : Row), Ext (DrS h l) H H' → SrcOk H' h l → Good r → H t = none → H' t = some (.tup (rowVs r)) → Q (.ref t) H'
theorem G_law_row (T : Tx K mg) : Glob P w K mg base (CX0) 3 "_law_row" p_law_row [] sp_law_row := by
  obtain ⟨fd, F⟩ := T.f_law_row
  refine ⟨_, fd, [], F.ok sc_law_row (fun vs H Q E h => ?_) (fun cdv A outer s H vs Q E hr h => ?_), T.g__law_row, F.kp, .nil, F.bindsN fun _ _ _ _ _ _ us hl => match us, hl with | [_], _ => rfl⟩
  · obtain ⟨h, l, rfl, _⟩ := h; rfl
  · obtain ⟨h, l, rfl, hS, q⟩ := h
    refine ⟨_, PSs.nox (pss_cons (ps_setLc (i := 1) (own := [("_law_k", 2)]) (g := (gName 2)) (tt := tYes) rfl sc_law_row.nd rfl rfl (sw_true rfl rfl rfl (by kernel_rfl)) (pi_range1 (by rfl) T.b_range (pa_cons (pe_callG (G_law_next T) (hr.mono (by first | decide | omega)) (by rfl) pass0 (pa_cons (pv 0) (pa_cons pe_int pa_nil))) pa_nil)) (blkOk_by (by kernel_rfl)) (fun _ _ _ _ _ => (pg_name (i := 2) sc_law_row.nd rfl (Or.inl rfl))) (fun _ _ _ _ _ => pts_nil) (fun _ _ _ _ _ => (pe_ix (ix_listK (K := K) rfl) (pe_lst (pa_cons pe_str (pa_cons (pe_callG (G_law_word T) (hr.mono (by first | decide | omega)) (by rfl) pass0 (pa_cons (pv 0) pa_nil)) (pa_cons (pe_callG (G_law_word T) (hr.mono (by first | decide | omega)) (by rfl) pass0 (pa_cons (pv 0) pa_nil)) pa_nil)))) (pe_callG (G_law_next T) (hr.mono (by first | decide | omega)) (by rfl) pass0 (pa_cons (pv 0) (pa_cons pe_int pa_nil))) (fun _ _ => rfl))))
      (pss_cutE (ps_set (i := 3) sc_law_row.nd rfl (Or.inl rfl) (pe_ifExp (PW.pt (pw_or (pt_cmpR (op_eqDK (K := K) rfl hr.units) (pv 1) (pe_lst pa_nil) (nomark _)) (pw_or1 (pt_cmpR op_eq (pe_callG (G_law_next T) (hr.mono (by first | decide | omega)) (by rfl) pass0 (pa_cons (pv 0) (pa_cons pe_int pa_nil))) pe_int (nomark _))))) (pe_joinK (K := K) rfl pe_str (pe_op op_cat (pv 1) (pe_lst (pa_cons pe_str pa_nil)))) (pe_joinK (K := K) rfl pe_str (pv 1))))
      (pss_cutE (ps_set (i := 4) sc_law_row.nd rfl (Or.inl rfl) (pe_ifExp (pt_cmpR op_eq (pe_callG (G_law_next T) (hr.mono (by first | decide | omega)) (by rfl) pass0 (pa_cons (pv 0) (pa_cons pe_int pa_nil))) pe_int (nomark _)) (pe_callG (G_law_word T) (hr.mono (by first | decide | omega)) (by rfl) pass0 (pa_cons (pv 0) pa_nil)) pe_str))
      (pss_one (ps_ret (pe_tup (pa_cons (pv 3) (pa_cons (pe_callG (G_law_word T) (hr.mono (by first | decide | omega)) (by rfl) pass0 (pa_cons (pv 0) pa_nil)) (pa_cons (pe_op op_sub (pe_callG (G_law_next T) (hr.mono (by first | decide | omega)) (by rfl) pass0 (pa_cons (pv 0) (pa_cons pe_int pa_nil))) pe_int) (pa_cons (pe_cmpR op_eq (pe_callG (G_law_next T) (hr.mono (by first | decide | omega)) (by rfl) pass0 (pa_cons (pv 0) (pa_cons pe_int pa_nil))) pe_int (nomark _)) (pa_cons (pv 4) pa_nil))))))))))), ?_⟩
    simp only [tCutE, tIfE, false_and, exists_false, false_or, or_false, tRet, tRetN, tAndV, tOrV, tNotV, tChain, rI, rI0, rU, tC, tCB, tCons, tNil, tVar, tOp, tUn, tTest, tB, tAnd, tOr, tNot, tIf, tIfS, tSeq, tAsg, tDrop, tNext, tDIn, tDNotIn, tDPop1, gName, gTup_ref, gCons_cons, gNil_nil, and_assoc, tYes, wipe, rEq, rNe, scal_ss, scal_ii, scal_bb, scal_ns, scal_sn, scal_nn, scal_in, scal_ni, tLc_eq, tFor_eq, iList, iTup, iStr, iRng1, iRng2, iZip, iEnum, gSub, tSl, rSetL_ref, rCat_ref, rRep_ref, rJoin_ref, rSlL_ref, rSlS_ref, rMulS_ref, rIxL_ref, rIxT_ref, rLenK_ref, rAll_ref, rIn_ref, tLst, tTup, tPar, tPar3, tAug, tPart, tNoPart, tCall, List.getElem?_cons_zero, List.getElem?_cons_succ, List.set_cons_zero, List.set_cons_succ, List.map_cons, List.map_nil, List.append_nil, List.nil_append, List.cons_append, Option.some.injEq, exists_eq_left', exists_eq_left, exists_eq_right, exists_eq_right', exists_eq', V.int.injEq, V.str.injEq, V.bl.injEq, V.ref.injEq, List.cons.injEq, tM0, tM1, rNewStrs, sgn_eq, split_dot, split_sp, split_nl, dot_len, sp_len, nl_len, cxOf_K, L2.start, List.length_cons, List.length_nil, List.replicate_succ, List.replicate_zero, Nat.reduceSub, Nat.zero_add, and_true, true_and, and_self, exists_and_left, exists_const, Bool.false_eq_true, if_false, if_true, ite_true, ite_false, reduceIte, decide_eq_true_eq, reduceCtorEq, Nat.reduceAdd, Nat.reduceLT, L2H.iEnumN, cxH_K, cxH_prog, cxH_w, cxH_mg, cxH_base, tCallVSH, tVeI, tOst, tWhy, tXf, tCallS, tCallX, tLam1, tListZip, tCallX, tCallXU, tCallV, tCallVS, tLam1, tLamD, tCallS, tCls, tClsD, cx_cells, cx_scope, cx_N, cx_prog, cx_w, cx_base, cx_mg, cx_qual]
    refine ⟨h, l, 7, rfl, hS, by decide, by decide, fun H1 r1 x1 S1 h10 h11 => ⟨_, rfl, by omega, by omega, ?_⟩⟩
    refine lc_acc walk_range (DrS h l) (fun H => SrcOk H h l) (fun i acc => ∃ ws : List Str, acc = ws.map V.str ∧ ws.length = i ∧ ∀ w ∈ ws, starOr w = true) (smallLt (by omega)) (fun D nD => S1.nD nD) ⟨[], rfl, rfl, fun _ h => nomatch h⟩ S1 (fun D H o nD s => s.put (S1.neD nD).1 (S1.neD nD).2) (fun _ _ _ => trivial) (fun i x Ha Hb acc R hi xa Sa pa hy r0 r1 => ?_) (fun D acc Ha nD pa la xa Sa hD => ?_)
    · obtain ⟨rfl, rfl⟩ := hy
      obtain ⟨ws, rfl, hw, hws⟩ := pa
      simp only [tCutE, tIfE, false_and, exists_false, false_or, or_false, tRet, tRetN, tAndV, tOrV, tNotV, tChain, rI, rI0, rU, tC, tCB, tCons, tNil, tVar, tOp, tUn, tTest, tB, tAnd, tOr, tNot, tIf, tIfS, tSeq, tAsg, tDrop, tNext, tDIn, tDNotIn, tDPop1, gName, gTup_ref, gCons_cons, gNil_nil, and_assoc, tYes, wipe, rEq, rNe, scal_ss, scal_ii, scal_bb, scal_ns, scal_sn, scal_nn, scal_in, scal_ni, tLc_eq, tFor_eq, iList, iTup, iStr, iRng1, iRng2, iZip, iEnum, gSub, tSl, rSetL_ref, rCat_ref, rRep_ref, rJoin_ref, rSlL_ref, rSlS_ref, rMulS_ref, rIxL_ref, rIxT_ref, rLenK_ref, rAll_ref, rIn_ref, tLst, tTup, tPar, tPar3, tAug, tPart, tNoPart, tCall, List.getElem?_cons_zero, List.getElem?_cons_succ, List.set_cons_zero, List.set_cons_succ, List.map_cons, List.map_nil, List.append_nil, List.nil_append, List.cons_append, Option.some.injEq, exists_eq_left', exists_eq_left, exists_eq_right, exists_eq_right', exists_eq', V.int.injEq, V.str.injEq, V.bl.injEq, V.ref.injEq, List.cons.injEq, tM0, tM1, rNewStrs, sgn_eq, split_dot, split_sp, split_nl, dot_len, sp_len, nl_len, cxOf_K, L2.start, List.length_cons, List.length_nil, List.replicate_succ, List.replicate_zero, Nat.reduceSub, Nat.zero_add, and_true, true_and, and_self, exists_and_left, exists_const, Bool.false_eq_true, if_false, if_true, ite_true, ite_false, reduceIte, decide_eq_true_eq, reduceCtorEq, Nat.reduceAdd, Nat.reduceLT, L2H.iEnumN, cxH_K, cxH_prog, cxH_w, cxH_mg, cxH_base, tCallVSH, tVeI, tOst, tWhy, tXf, tCallS, tCallX, tLam1, tListZip, tCallX, tCallXU, tCallV, tCallVS, tLam1, tLamD, tCallS, tCls, tClsD, cx_cells, cx_scope, cx_N, cx_prog, cx_w, cx_base, cx_mg, cx_qual]
      refine ⟨h, l, rfl, Sa, fun H2 w1 x2 S2 g1 => ⟨h, l, rfl, S2, fun H3 w2 x3 S3 g2 => ⟨by decide, fun t ht => ?_⟩⟩⟩
      have St := S3.new (o := .lst [.str ("*" : Str), .str w1, .str w2]) ht
      have xt : Ext (DrS h l) H3 (upd H3 t (.lst [.str ("*" : Str), .str w1, .str w2])) := (Ext.refl _ _).new ht (S3.nD ht)
      refine ⟨h, l, 3, rfl, St, by decide, by decide, fun H4 r4 x4 S4 h40 h41 => ?_⟩
      have hk : ∃ w : Str, starOr w = true ∧ atI [V.str ("*" : Str), .str w1, .str w2] r4 = some (.str w) := by
        rcases (show r4 = 0 ∨ r4 = 1 ∨ r4 = 2 by omega) with e | e | e
        · rw [e]; exact ⟨("*" : Str), by decide +kernel, rfl⟩
        · rw [e]; exact ⟨w1, word_star g1, rfl⟩
        · rw [e]; exact ⟨w2, word_star g2, rfl⟩
      obtain ⟨w, hw1, hw2⟩ := hk
      refine ⟨t, _, r4, .str w, rfl, rfl, .of (x4 _ _ (S3.nD ht) upd_same), hw2, r1 _ _ (((x2.trans x3).trans xt).trans x4) S4 ⟨ws ++ [w], by rw [List.map_append]; rfl, by rw [List.length_append, hw]; rfl, fun u hu => ?_⟩⟩
      rcases List.mem_append.mp hu with hu | hu
      · exact hws u hu
      · rw [List.mem_singleton.mp hu]; exact hw1
    · obtain ⟨ws, rfl, hw, hws⟩ := pa
      simp only [tCutE, tIfE, false_and, exists_false, false_or, or_false, tRet, tRetN, tAndV, tOrV, tNotV, tChain, rI, rI0, rU, tC, tCB, tCons, tNil, tVar, tOp, tUn, tTest, tB, tAnd, tOr, tNot, tIf, tIfS, tSeq, tAsg, tDrop, tNext, tDIn, tDNotIn, tDPop1, gName, gTup_ref, gCons_cons, gNil_nil, and_assoc, tYes, wipe, rEq, rNe, scal_ss, scal_ii, scal_bb, scal_ns, scal_sn, scal_nn, scal_in, scal_ni, tLc_eq, tFor_eq, iList, iTup, iStr, iRng1, iRng2, iZip, iEnum, gSub, tSl, rSetL_ref, rCat_ref, rRep_ref, rJoin_ref, rSlL_ref, rSlS_ref, rMulS_ref, rIxL_ref, rIxT_ref, rLenK_ref, rAll_ref, rIn_ref, tLst, tTup, tPar, tPar3, tAug, tPart, tNoPart, tCall, List.getElem?_cons_zero, List.getElem?_cons_succ, List.set_cons_zero, List.set_cons_succ, List.map_cons, List.map_nil, List.append_nil, List.nil_append, List.cons_append, Option.some.injEq, exists_eq_left', exists_eq_left, exists_eq_right, exists_eq_right', exists_eq', V.int.injEq, V.str.injEq, V.bl.injEq, V.ref.injEq, List.cons.injEq, tM0, tM1, rNewStrs, sgn_eq, split_dot, split_sp, split_nl, dot_len, sp_len, nl_len, cxOf_K, L2.start, List.length_cons, List.length_nil, List.replicate_succ, List.replicate_zero, Nat.reduceSub, Nat.zero_add, and_true, true_and, and_self, exists_and_left, exists_const, Bool.false_eq_true, if_false, if_true, ite_true, ite_false, reduceIte, decide_eq_true_eq, reduceCtorEq, Nat.reduceAdd, Nat.reduceLT, L2H.iEnumN, cxH_K, cxH_prog, cxH_w, cxH_mg, cxH_base, tCallVSH, tVeI, tOst, tWhy, tXf, tCallS, tCallX, tLam1, tListZip, tCallX, tCallXU, tCallV, tCallVS, tLam1, tLamD, tCallS, tCls, tClsD, cx_cells, cx_scope, cx_N, cx_prog, cx_w, cx_base, cx_mg, cx_qual]
      obtain ⟨R1, hR1⟩ : ∃ R : L2.St → Hp → Prop, ∀ σ H', R σ H' ↔ ∃ pat : Str, σ = [some (.ref h), some (.ref D), none, some (.str pat), none] ∧ Ext (DrS h l) H H' ∧ SrcOk H' h l ∧ isPat pat = true ∧ (pat.length ≤ 100 ∧ ∀ c ∈ tl pat, 33 ≤ c ∧ c ≤ 122) := ⟨_, fun _ _ => Iff.rfl⟩
      obtain ⟨R2, hR2⟩ : ∃ R : L2.St → Hp → Prop, ∀ σ H', R σ H' ↔ ∃ pat g : Str, σ = [some (.ref h), some (.ref D), none, some (.str pat), some (.str g)] ∧ Ext (DrS h l) H H' ∧ SrcOk H' h l ∧ isPat pat = true ∧ (pat.length ≤ 100 ∧ ∀ c ∈ tl pat, 33 ≤ c ∧ c ≤ 122) ∧ (g = ("" : Str) ∨ isWord g = true) := ⟨_, fun _ _ => Iff.rfl⟩
      have xH := x1.trans xa
      have hwl : ws.length ≤ 6 := by omega
      have e1 : (Str.ofString ".").length = 1 := by decide +kernel
      have hw4 : ∀ w ∈ ws, w.length ≤ 4 := fun w hw => (star_signs (hws w hw)).1
      have hsum := sum_le hw4
      have hlD : H D = none := (x1.free (S1.nD nD) nD)
      have hash : ∀ (H5 : Hp), Ext (DrS h l) H H5 → SrcOk H5 h l → H5 D = some (.lst (ws.map V.str)) → 1 ≤ sizeLine ∧ ∀ (p : Addr), H5 p = none → ∃ xs, upd H5 p (HO.lst [V.str (Str.ofString "#")]) D = some (HO.lst xs) ∧ ∃ x_2, upd H5 p (HO.lst [V.str (Str.ofString "#")]) p = some (HO.lst x_2) ∧ xs.length + x_2.length ≤ sizeLine ∧ ∀ (p_1 : Addr), upd H5 p (HO.lst [V.str (Str.ofString "#")]) p_1 = none → ∃ ys : List Str, (SqL K (upd (upd H5 p (HO.lst [V.str (Str.ofString "#")])) p_1 (HO.lst (xs ++ x_2))) p_1 (List.map V.str ys) ∨ SqT K (upd (upd H5 p (HO.lst [V.str (Str.ofString "#")])) p_1 (HO.lst (xs ++ x_2))) p_1 (List.map V.str ys)) ∧ (List.map (fun x => x.length) ys).sum + ys.length * (Str.ofString ".").length ≤ 16777216 ∧ R1 [some (V.ref h), some (V.ref D), none, some (V.str (Txt.join (Str.ofString ".") ys)), none] (upd (upd H5 p (HO.lst [V.str (Str.ofString "#")])) p_1 (HO.lst (xs ++ x_2))) := by
        intro H5 x5 S5 hD5
        refine ⟨by decide, fun p hp => ?_⟩
        have Sp' := S5.new (o := .lst [V.str (Str.ofString "#")]) hp
        have xp : Ext (DrS h l) H (upd H5 p (.lst [V.str (Str.ofString "#")])) := x5.new hp (S5.nD hp)
        have nDp : D ≠ p := ne_of_none hD5 hp
        refine ⟨_, by rw [upd_ne nDp]; exact hD5, _, upd_same, by rw [List.length_map]; exact small (by simp; omega), fun u hu => ⟨ws ++ [("#" : Str)], ?_, ?_, ?_⟩⟩
        · rw [List.map_append]; exact .inl (.of upd_same)
        · have e2 : Str.length ("#" : Str) = 1 := by decide +kernel
          rw [List.map_append, List.sum_append, List.length_append, e1]
          simp only [List.map_cons, List.map_nil, List.sum_cons, List.sum_nil, e2, List.length_singleton]
          omega
        · refine (hR1 _ _).mpr ⟨_, rfl, xp.new hu (Sp'.nD hu), Sp'.new hu, isPat_hash hwl hws, ?_, pat_signs fun u hu => by
            rcases List.mem_append.mp hu with hu | hu
            · exact .inl (hws u hu)
            · exact .inr (List.mem_singleton.mp hu)⟩
          have := joinD_len (k := 4) (ws := ws ++ [("#" : Str)]) fun w hw => by
            rcases List.mem_append.mp hw with hw | hw
            · exact hw4 w hw
            · rw [List.mem_singleton.mp hw]; decide +kernel
          rw [List.length_append, List.length_singleton] at this
          show (Txt.join "." (ws ++ [("#" : Str)])).length ≤ 100
          omega
      refine ⟨by decide, R1, fun p hp => ?_, fun σ' H' h' => ⟨R2, ?_, fun σ2 H2 h2 => ?_⟩⟩
      · generalize hH5 : upd Ha p _ = H5
        obtain ⟨s5, fp⟩ := newF hH5 hp
        have S5 : SrcOk H5 h l := by rw [← hH5]; exact Sa.new hp
        have x5 : Ext (DrS h l) H H5 := xH.trans (.of_same s5)
        have hD5 := s5 _ _ hD
        have hso : ∀ z ∈ ws, PyData.strOk z = true := fun z hz => strOk_iff.mpr fun c hc => by
          rcases (star_signs (hws z hz)).2.1 c hc with e | e <;> omega
        refine ⟨.list (ws.map PyData.str), .list [], .lst (.of hD5) (dpAll_map fun a _ => .str _), .lst (.of fp) .nil, shaped_strs hso, by decide, _, rfl, ?_⟩
        rw [eqv_nil, List.isEmpty_map]
        by_cases hwe : ws = []
        · refine ifP (by rw [hwe]; rfl) (hash H5 x5 S5 hD5)
        · refine ifN (by simp [hwe]) ⟨h, l, 3, rfl, S5, by decide, by decide, fun H6 r6 x6 S6 h60 h61 => ⟨rfl, ?_⟩⟩
          have hD6 := x6 _ _ (S1.nD nD) hD5
          by_cases hr6 : r6 = 0
          · exact ifP (by rw [hr6]) (hash H6 (x5.trans x6) S6 hD6)
          · refine ifN (by simp [hr6]) ⟨ws, .inl (.of hD6), by rw [e1]; omega, (hR1 _ _).mpr ⟨_, rfl, x5.trans x6, S6, isPat_join hwe hwl hws, ?_, pat_signs fun u hu => .inl (hws u hu)⟩⟩
            have := joinD_len hw4
            show (Txt.join "." ws).length ≤ 100
            omega
      · obtain ⟨pat, rfl, x5, S5, gp, lp⟩ := (hR1 _ _).mp h'
        refine ⟨_, rfl, h, l, 2, rfl, S5, by decide, by decide, fun H6 r6 x6 S6 h60 h61 => ⟨rfl, ?_⟩⟩
        by_cases hr6 : r6 = 0
        · refine ifP (by rw [hr6]) ⟨_, rfl, h, l, rfl, S6, fun H7 w x7 S7 gw => (hR2 _ _).mpr ⟨pat, w, rfl, (x5.trans x6).trans x7, S7, gp, lp, .inr gw⟩⟩
        · exact ifN (by simp [hr6]) ((hR2 _ _).mpr ⟨pat, _, rfl, x5.trans x6, S6, gp, lp, .inl rfl⟩)
      · obtain ⟨pat, g, rfl, x5, S5, gp, lp, hg⟩ := (hR2 _ _).mp h2
        refine ⟨_, rfl, _, rfl, h, l, rfl, S5, fun H6 nm x6 S6 gn => ⟨_, rfl, h, l, 19, rfl, S6, by decide, by decide, fun H7 rk x7 S7 h70 h71 => ⟨_, rfl, _, rfl, h, l, 2, rfl, S7, by decide, by decide, fun H8 oo x8 S8 h80 h81 => ⟨rfl, _, rfl, by decide, fun t ht => ?_⟩⟩⟩⟩
        have x9 := ((x5.trans x6).trans x7).trans x8
        exact q _ t ⟨pat, nm, rk - 9, decide (V.int oo = V.int 0), g⟩ (x9.new ht (S8.nD ht)) (S8.new ht) ⟨gp, gn, by show -9 ≤ rk - 9; omega, by show rk - 9 ≤ 9; omega, hg, lp.1, lp.2⟩ (x9.free (S8.nD ht) ht) upd_same
end
end Hk

set_option Elab.async false
set_option linter.all false
set_option maxRecDepth 100000
set_option maxHeartbeats 4000000
namespace Hk
open PySem PySem.Spec PyProof.Rows L2
open LamX NdefX
open TL
section
variable {P : Program} {w : World} {K : PySem.W.Frag} {mg : Str → Option Value} {base : Heap}
/-! ### _law_is_word: the law's own look at words -/
theorem letters_iff {c : Nat} : c ∈ tl letters ↔ 97 ≤ c ∧ c ≤ 122 := by
  constructor
  · exact letters_in c
  · intro h
    have e : tl letters = [97, 98, 99, 100, 101, 102, 103, 104, 105, 106, 107, 108, 109, 110, 111, 112, 113, 114, 115, 116, 117, 118, 119, 120, 121, 122] := by decide +kernel
    rw [e]
    simp only [List.mem_cons, List.not_mem_nil, or_false]
    omega
theorem filter_nil {α : Type} (p : α → Bool) (xs : List α) : (xs.filter fun a => !p a).isEmpty = xs.all p := by
  rw [Bool.eq_iff_iff, List.isEmpty_iff, List.filter_eq_nil_iff, List.all_eq_true]
  simp
theorem filterMap_if {α β : Type} (p : α → Bool) (f : α → β) (xs : List α) : xs.filterMap (fun a => if p a = true then none else some (f a)) = (xs.filter fun a => !p a).map f := by
  induction xs with
  | nil => rfl
  | cons a r ih => by_cases h : p a = true <;> simp [h, ih]
theorem lt_one {a b : Nat} : ([a] < [b]) ↔ a < b := by
  constructor
  · intro h
    cases h with
    | rel h => exact h
    | cons h => cases h
  · exact fun h => .rel h
def sp_law_is_word (K : PySem.W.Frag) : Sp := fun vs H Q _ => ∃ z : Str, vs = [.str z] ∧ z.length ≤ 10000 ∧ PyData.strOk z = true ∧ ∀ H', Same H H' → Q (.bl (isWord z)) H'
theorem G_law_is_word (T : Tx K mg) : Glob P w K mg base (CX0) 1 "_law_is_word" p_law_is_word [] (sp_law_is_word K) := by
  obtain ⟨fd, F⟩ := T.f_law_is_word
  refine ⟨_, fd, [], F.ok sc_law_is_word (fun vs H Q E h => ?_) (fun cdv A outer s H vs Q E hr h => ?_), T.g__law_is_word, F.kp, .nil, F.bindsN fun _ _ _ _ _ _ us hl => match us, hl with | [_], _ => rfl⟩
  · obtain ⟨z, rfl, _⟩ := h; rfl
  · obtain ⟨z, rfl, hz, hok, q⟩ := h
    refine ⟨_, PSs.nox (pss_one (ps_ret (pe_and (pe_chain op_le op_le pe_int (pe_callB call_len_str (by rfl) T.b_len (by decide +kernel) (pa_cons (pv 0) pa_nil)) pe_int) (pe_one (pe_cmpR (op_eqDK (K := K) rfl hr.units) (pe_lc (own := [("_law_sign", 1)]) (g := (gName 1)) rfl sc_law_is_word.nd (pi_str (pv 0)) (blkOk_by (by kernel_rfl)) (fun _ _ _ _ _ => (pg_name (i := 1) sc_law_is_word.nd rfl (Or.inl rfl))) (fun _ _ _ _ _ => (pts_one (pt_not (pt_chain op_le_str op_le_str pe_str (pv 1) pe_str)))) (fun _ _ _ _ _ => (pv 1))) (pe_lst pa_nil) (nomark _)))))), ?_⟩
    simp only [tCutE, tIfE, false_and, exists_false, false_or, or_false, tRet, tRetN, tAndV, tOrV, tNotV, tChain, rI, rI0, rU, tC, tCB, tCons, tNil, tVar, tOp, tUn, tTest, tB, tAnd, tOr, tNot, tIf, tIfS, tSeq, tAsg, tDrop, tNext, tDIn, tDNotIn, tDPop1, gName, gTup_ref, gCons_cons, gNil_nil, and_assoc, tYes, wipe, rEq, rNe, scal_ss, scal_ii, scal_bb, scal_ns, scal_sn, scal_nn, scal_in, scal_ni, tLc_eq, tFor_eq, iList, iTup, iStr, iRng1, iRng2, iZip, iEnum, gSub, tSl, rSetL_ref, rCat_ref, rRep_ref, rJoin_ref, rSlL_ref, rSlS_ref, rMulS_ref, rIxL_ref, rIxT_ref, rLenK_ref, rAll_ref, rIn_ref, tLst, tTup, tPar, tPar3, tAug, tPart, tNoPart, tCall, List.getElem?_cons_zero, List.getElem?_cons_succ, List.set_cons_zero, List.set_cons_succ, List.map_cons, List.map_nil, List.append_nil, List.nil_append, List.cons_append, Option.some.injEq, exists_eq_left', exists_eq_left, exists_eq_right, exists_eq_right', exists_eq', V.int.injEq, V.str.injEq, V.bl.injEq, V.ref.injEq, List.cons.injEq, tM0, tM1, rNewStrs, sgn_eq, split_dot, split_sp, split_nl, dot_len, sp_len, nl_len, cxOf_K, L2.start, List.length_cons, List.length_nil, List.replicate_succ, List.replicate_zero, Nat.reduceSub, Nat.zero_add, and_true, true_and, and_self, exists_and_left, exists_const, Bool.false_eq_true, if_false, if_true, ite_true, ite_false, reduceIte, decide_eq_true_eq, reduceCtorEq, Nat.reduceAdd, Nat.reduceLT, L2H.iEnumN, cxH_K, cxH_prog, cxH_w, cxH_mg, cxH_base, tCallVSH, tVeI, tOst, tWhy, tXf, tCallS, tCallX, tLam1, tListZip, tCallX, tCallXU, tCallV, tCallVS, tLam1, tLamD, tCallS, tCls, tClsD, cx_cells, cx_scope, cx_N, cx_prog, cx_w, cx_base, cx_mg, cx_qual]
    refine ⟨small (by omega), ?_⟩
    have hz' : (tl z).length ≤ 10000 := by rw [← len_tl]; exact hz
    by_cases h1 : (1 : Int) ≤ (z.length : Int)
    · refine ifP h1 ?_
      by_cases h4 : (z.length : Int) ≤ 4
      · refine ifP h4 ?_
        refine lc_fil (tl z) (fun c => if decide (c ∈ tl letters) = true then none else some (V.str ⟨#[c]⟩)) walk_str (by omega) (fun _ _ => trivial) (fun i a x H1 H' R hx s1 hy r => ?_) (fun D H1 nD s1 hD => ?_)
        · obtain ⟨rfl, c, hc, rfl⟩ := hy
          have e : c = a := by
            rw [Array.getElem?_toList] at hx
            exact Option.some.inj (hc.symm.trans hx)
          subst e
          simp only [tCutE, tIfE, false_and, exists_false, false_or, or_false, tRet, tRetN, tAndV, tOrV, tNotV, tChain, rI, rI0, rU, tC, tCB, tCons, tNil, tVar, tOp, tUn, tTest, tB, tAnd, tOr, tNot, tIf, tIfS, tSeq, tAsg, tDrop, tNext, tDIn, tDNotIn, tDPop1, gName, gTup_ref, gCons_cons, gNil_nil, and_assoc, tYes, wipe, rEq, rNe, scal_ss, scal_ii, scal_bb, scal_ns, scal_sn, scal_nn, scal_in, scal_ni, tLc_eq, tFor_eq, iList, iTup, iStr, iRng1, iRng2, iZip, iEnum, gSub, tSl, rSetL_ref, rCat_ref, rRep_ref, rJoin_ref, rSlL_ref, rSlS_ref, rMulS_ref, rIxL_ref, rIxT_ref, rLenK_ref, rAll_ref, rIn_ref, tLst, tTup, tPar, tPar3, tAug, tPart, tNoPart, tCall, List.getElem?_cons_zero, List.getElem?_cons_succ, List.set_cons_zero, List.set_cons_succ, List.map_cons, List.map_nil, List.append_nil, List.nil_append, List.cons_append, Option.some.injEq, exists_eq_left', exists_eq_left, exists_eq_right, exists_eq_right', exists_eq', V.int.injEq, V.str.injEq, V.bl.injEq, V.ref.injEq, List.cons.injEq, tM0, tM1, rNewStrs, sgn_eq, split_dot, split_sp, split_nl, dot_len, sp_len, nl_len, cxOf_K, L2.start, List.length_cons, List.length_nil, List.replicate_succ, List.replicate_zero, Nat.reduceSub, Nat.zero_add, and_true, true_and, and_self, exists_and_left, exists_const, Bool.false_eq_true, if_false, if_true, ite_true, ite_false, reduceIte, decide_eq_true_eq, reduceCtorEq, Nat.reduceAdd, Nat.reduceLT, L2H.iEnumN, cxH_K, cxH_prog, cxH_w, cxH_mg, cxH_base, tCallVSH, tVeI, tOst, tWhy, tXf, tCallS, tCallX, tLam1, tListZip, tCallX, tCallXU, tCallV, tCallVS, tLam1, tLamD, tCallS, tCls, tClsD, cx_cells, cx_scope, cx_N, cx_prog, cx_w, cx_base, cx_mg, cx_qual]
          have ea : (Str.ofString "a").cps.toList = [97] := by decide +kernel
          have ez : (Str.ofString "z").cps.toList = [122] := by decide +kernel
          rw [ea, ez]
          have r' := r _ (Same.refl _)
          by_cases l1 : c < 97
          · rw [if_neg (fun z => by have := letters_iff.mp (of_decide_eq_true z); omega)] at r'
            exact ifN (by rw [decide_eq_true (lt_one.mpr l1)]; decide) (ifP rfl r')
          · refine ifP (by rw [decide_eq_false (fun z => l1 (lt_one.mp z))]; rfl) ?_
            by_cases l2 : 122 < c
            · rw [if_neg (fun z => by have := letters_iff.mp (of_decide_eq_true z); omega)] at r'
              exact ifP (by rw [decide_eq_true (lt_one.mpr l2)]; rfl) r'
            · rw [if_pos (decide_eq_true (letters_iff.mpr (by omega)))] at r'
              exact ifN (by rw [decide_eq_false (fun z => l2 (lt_one.mp z))]; decide) r'
        · rw [filterMap_if] at hD
          refine ⟨by decide, fun t ht => ⟨.list (((tl z).filter fun c => !decide (c ∈ tl letters)).map fun c => .str ⟨#[c]⟩), .list [], .lst (.of (by rw [upd_ne (ne_of_none hD ht)]; exact hD)) (dpAll_map fun a _ => .str _), .lst (.of upd_same) .nil, ?_, by decide, ?_⟩⟩
          · have := shaped_strs (us := ((tl z).filter fun c => !decide (c ∈ tl letters)).map fun c => (⟨#[c]⟩ : Str)) fun w hw => by
              obtain ⟨c, hc, rfl⟩ := List.mem_map.mp hw
              exact strOk_iff.mpr fun d hd => by
                have : d = c := by simpa [tl] using hd
                rw [this]; exact strOk_iff.mp hok c (List.mem_filter.mp hc).1
            rw [List.map_map] at this
            exact this
          · rw [eqv_nil, List.isEmpty_map, filter_nil]
            have e : isWord z = (tl z).all fun c => decide (c ∈ tl letters) := by
              unfold isWord
              rw [decide_eq_true (by omega : 1 ≤ z.length), decide_eq_true (by omega : z.length ≤ 4), Bool.true_and, Bool.true_and]
            rw [← e]
            exact q _ (same_new s1 ht)
      · refine ifN h4 ?_
        have e : isWord z = false := by
          unfold isWord
          rw [decide_eq_false (by omega : ¬ z.length ≤ 4)]; simp
        rw [← e]; exact q _ (Same.refl _)
    · refine ifN h1 ?_
      have e : isWord z = false := by
        unfold isWord
        rw [decide_eq_false (by omega : ¬ 1 ≤ z.length)]; simp
      rw [← e]; exact q _ (Same.refl _)
/-! ### _law_is_row -/
theorem eqv_ss (us vs : List Str) : PyData.eqv (.list (us.map PyData.str)) (.list (vs.map PyData.str)) = decide (us = vs) := by
  simp only [PyData.eqv, eqv_strs]
theorem rEq_strs {H : Hp} {Q : VK} {a b : Addr} {us vs : List Str} (h1 : H a = some (.lst (us.map V.str))) (h2 : H b = some (.lst (vs.map V.str))) (o1 : ∀ z ∈ us, PyData.strOk z = true) (o2 : ∀ z ∈ vs, PyData.strOk z = true) (q : Q (.bl (decide (us = vs))) H) : rEqD K (.ref a) (.ref b) H Q :=
  ⟨.list (us.map PyData.str), .list (vs.map PyData.str), .lst (.of h1) (dpAll_map fun a _ => .str _), .lst (.of h2) (dpAll_map fun a _ => .str _), shaped_strs o1, shaped_strs o2, by rw [eqv_ss]; exact q⟩
theorem rNe_strs {H : Hp} {Q : VK} {a b : Addr} {us vs : List Str} (h1 : H a = some (.lst (us.map V.str))) (h2 : H b = some (.lst (vs.map V.str))) (o1 : ∀ z ∈ us, PyData.strOk z = true) (o2 : ∀ z ∈ vs, PyData.strOk z = true) (q : Q (.bl (!decide (us = vs))) H) : rNeD K (.ref a) (.ref b) H Q :=
  ⟨.list (us.map PyData.str), .list (vs.map PyData.str), .lst (.of h1) (dpAll_map fun a _ => .str _), .lst (.of h2) (dpAll_map fun a _ => .str _), shaped_strs o1, shaped_strs o2, by rw [eqv_ss]; exact q⟩
theorem cut34 (x y c : Str) (rest : List Str) : cutV ((x :: y :: c :: rest).map V.str) (some 3) (some 4) = (rest.take 1).map V.str := by
  cases rest with
  | nil => rfl
  | cons a r =>
    unfold cutV
    have e3 := HT.sIx_nat ((x :: y :: c :: a :: r).map V.str).length 0 3
    have e4 := HT.sIx_nat ((x :: y :: c :: a :: r).map V.str).length ((x :: y :: c :: a :: r).map V.str).length 4
    have hlen : ((x :: y :: c :: a :: r).map V.str).length = r.length + 4 := by simp
    rw [hlen] at e3 e4 ⊢
    rw [Nat.min_eq_left (by omega)] at e3 e4
    rw [show HT.sIx (r.length + 4) 0 (some 3) = 3 from e3, show HT.sIx (r.length + 4) (r.length + 4) (some 4) = 4 from e4]
    simp
theorem tl_cutTo (z : Str) (k : Nat) : tl (cutS z none (some (k : Int))) = (tl z).take k := by
  unfold cutS
  rw [HT.sIx_nat, HT.sIx_none, len_tl]
  show ((z.cps.toList.drop 0).take _) = _
  rw [List.drop_zero, Nat.sub_zero]
  show (tl z).take _ = _
  by_cases h : k ≤ (tl z).length
  · rw [Nat.min_eq_left h]
  · rw [Nat.min_eq_right (by omega), List.take_of_length_le (Nat.le_refl _), List.take_of_length_le (by omega)]
theorem cut_dash (c : Str) : cutS c none (some 1) = Str.ofString "-" ↔ (tl c).head? = some 45 := by
  have e : tl (Str.ofString "-") = [45] := by decide +kernel
  have e1 : tl (cutS c none (some 1)) = (tl c).take 1 := tl_cutTo c 1
  constructor
  · intro h
    rw [h, e] at e1
    cases hc : tl c with
    | nil => rw [hc] at e1; simp at e1
    | cons a r => rw [hc] at e1; simp at e1; simp [e1]
  · intro h
    refine ext_tl ?_
    rw [e1, e]
    cases hc : tl c with
    | nil => rw [hc] at h; simp at h
    | cons a r => rw [hc] at h; simp at h; simp [h]
/-- the sign of a rank, as the law looks at it -/
def rkOf (c : Str) : Str := if cutS c none (some 1) = Str.ofString "-" ∧ c ≠ Str.ofString "-0" then cutS c (some 1) none else c
theorem rank_look (c : Str) : (rankOf c).isSome = true ↔ ∃ d, rkOf c = ⟨#[d]⟩ ∧ 48 ≤ d ∧ d ≤ 57 := by
  have e0 : tl (Str.ofString "-0") = [45, 48] := by decide +kernel
  have es : ∀ (w : Str) (d : Nat), w = ⟨#[d]⟩ ↔ tl w = [d] := fun w d => ⟨fun h => by rw [h], fun h => ext_tl (by rw [h])⟩
  have e1 : tl (cutS c (some 1) none) = (tl c).drop 1 := tl_cut1 c
  have en : c = Str.ofString "-0" ↔ tl c = [45, 48] := ⟨fun h => by rw [h, e0], fun h => ext_tl (by rw [h, e0])⟩
  have ec := cut_dash c
  unfold rkOf rankOf
  by_cases hh : (tl c).head? = some 45 ∧ ¬ tl c = [45, 48]
  · rw [if_pos ⟨ec.mpr hh.1, fun z => hh.2 (en.mp z)⟩]
    simp only [es, e1]
    obtain ⟨h1, h2⟩ := hh
    rcases ht : tl c with _ | ⟨a, _ | ⟨b, _ | ⟨d, r⟩⟩⟩
    · rw [ht] at h1; simp at h1
    · rw [ht] at h1; simp at h1; subst h1
      simp [rankL]
    · rw [ht] at h1 h2; simp at h1; subst h1
      simp only [rankL, List.drop_succ_cons, List.drop_zero]
      have h3 : b ≠ 48 := fun e => h2 (by rw [e])
      constructor
      · intro h
        split at h
        · rename_i h5; exact ⟨b, rfl, by omega, by omega⟩
        · simp at h
      · rintro ⟨d, e, h5, h6⟩
        cases e
        rw [if_pos ⟨trivial, by omega, h6⟩]; rfl
    · simp [rankL]
  · rw [if_neg (fun z => hh ⟨ec.mp z.1, fun y => z.2 (en.mpr y)⟩)]
    simp only [es]
    rcases ht : tl c with _ | ⟨a, _ | ⟨b, _ | ⟨d, r⟩⟩⟩
    · simp [rankL]
    · simp only [rankL]
      constructor
      · intro h
        split at h
        · rename_i h5; exact ⟨a, rfl, h5⟩
        · simp at h
      · rintro ⟨d, e, h5⟩
        cases e
        rw [if_pos h5]; rfl
    · simp only [rankL]
      rw [ht] at hh
      constructor
      · intro h
        split at h
        · rename_i h5
          exact absurd ⟨by rw [h5.1]; rfl, fun z => by cases z; omega⟩ hh
        · simp at h
      · rintro ⟨d, e, h5⟩
        simp at e
    · simp [rankL]
theorem rowTail_some (us : List Str) : (rowTail us).isSome = true ↔ us = [] ∨ ∃ a b, us = [a, b] ∧ a = ("in" : Str) ∧ isWord b = true := by
  match us with
  | [] => simp [rowTail_nil]
  | [a] => rw [rowTail_len (by simp) (by simp)]; simp
  | [a, b] =>
    rw [rowTail_two]
    by_cases h : a = ("in" : Str) ∧ isWord b = true
    · rw [if_pos h]; exact ⟨fun _ => .inr ⟨a, b, rfl, h⟩, fun _ => rfl⟩
    · rw [if_neg h]; simp
      simpa using h
  | a :: b :: c :: r => rw [rowTail_len (by simp) (by simp)]; simp
def sp_law_is_row (K : PySem.W.Frag) : Sp := fun vs H Q _ => ∃ z : Str, vs = [.str z] ∧ z.length ≤ 9000 ∧ PyData.strOk z = true ∧ ∀ H', Same H H' → Q (.bl (lineRow z).isSome) H'
theorem G_law_is_row (T : Tx K mg) : Glob P w K mg base (CX0) 2 "_law_is_row" p_law_is_row [] (sp_law_is_row K) := by
  obtain ⟨fd, F⟩ := T.f_law_is_row
  refine ⟨_, fd, [], F.ok sc_law_is_row (fun vs H Q E h => ?_) (fun cdv A outer s H vs Q E hr h => ?_), T.g__law_is_row, F.kp, .nil, F.bindsN fun _ _ _ _ _ _ us hl => match us, hl with | [_], _ => rfl⟩
  · obtain ⟨z, rfl, _⟩ := h; rfl
  · obtain ⟨z, rfl, hz, hok, q⟩ := h
    refine ⟨_, PSs.nox (pss_cons (ps_set (i := 1) sc_law_is_row.nd rfl (Or.inl rfl) (pe_split (pv 0) pe_str))
      (pss_cons (ps_if (pt_cmpR op_lt (pe_callB (call_len_seqK (K := K) rfl) (by rfl) T.b_len (by decide +kernel) (pa_cons (pv 1) pa_nil)) pe_int (nomark _))
      (pss_one (ps_ret pe_bl))
      pss_nil)
      (pss_cutE (ps_set (i := 2) sc_law_is_row.nd rfl (Or.inl rfl) (pe_split (pe_ix (ix_listK (K := K) rfl) (pv 1) pe_int (fun _ _ => rfl)) pe_str))
      (pss_cutE (ps_set (i := 2) sc_law_is_row.nd rfl (Or.inl rfl) (pe_ifExp (pt_cmpR op_eq (pe_ix (ix_listK (K := K) rfl) (pv 2) (pe_un un_neg pe_int) (fun _ _ => rfl)) pe_str (nomark _)) (pe_slice (sl_listK (K := K) rfl) (pv 2) po_none (po_some (pe_un un_neg pe_int))) (pv 2)))
      (pss_cutE (ps_if (PW.pt (pw_or (pt_cmpR op_gt (pe_callB (call_len_seqK (K := K) rfl) (by rfl) T.b_len (by decide +kernel) (pa_cons (pv 2) pa_nil)) pe_int (nomark _)) (pw_or1 (pt_cmpR (op_neDK (K := K) rfl hr.units) (pe_lc (own := [("_law_part", 3)]) (g := (gName 3)) rfl sc_law_is_row.nd (pi_listK (K := K) rfl (pv 2)) (blkOk_by (by kernel_rfl)) (fun _ _ _ _ _ => (pg_name (i := 3) sc_law_is_row.nd rfl (Or.inl rfl))) (fun _ _ _ _ _ => (pts_one (PW.pt (pw_and (pt_cmpR op_ne (pv 3) pe_str (nomark _)) (pw_and1 (pt_not (pt_val (pe_callG (G_law_is_word T) (hr.mono (by first | decide | omega)) (by rfl) pass0 (pa_cons (pv 3) pa_nil))))))))) (fun _ _ _ _ _ => (pv 3))) (pe_lst pa_nil) (nomark _)))))
      (pss_one (ps_ret pe_bl))
      pss_nil)
      (pss_cutE (ps_set (i := 4) sc_law_is_row.nd rfl (Or.inl rfl) (pe_ifExp (PW.pt (pw_and (pt_cmpR op_eq (pe_slice sl_str (pe_ix (ix_listK (K := K) rfl) (pv 1) pe_int (fun _ _ => rfl)) po_none (po_some pe_int)) pe_str (nomark _)) (pw_and1 (pt_cmpR op_ne (pe_ix (ix_listK (K := K) rfl) (pv 1) pe_int (fun _ _ => rfl)) pe_str (nomark _))))) (pe_slice sl_str (pe_ix (ix_listK (K := K) rfl) (pv 1) pe_int (fun _ _ => rfl)) (po_some pe_int) po_none) (pe_ix (ix_listK (K := K) rfl) (pv 1) pe_int (fun _ _ => rfl))))
      (pss_cutE (ps_if (PW.pt (pw_or (pt_not (pt_val (pe_callG (G_law_is_word T) (hr.mono (by first | decide | omega)) (by rfl) pass0 (pa_cons (pe_ix (ix_listK (K := K) rfl) (pv 1) pe_int (fun _ _ => rfl)) pa_nil)))) (pw_or (pt_cmpR op_ne (pe_callB call_len_str (by rfl) T.b_len (by decide +kernel) (pa_cons (pv 4) pa_nil)) pe_int (nomark _)) (pw_or1 (pt_cmpR op_notIn_sign (pv 4) pe_str (by rfl))))))
      (pss_one (ps_ret pe_bl))
      pss_nil)
      (pss_cutE (ps_set (i := 5) sc_law_is_row.nd rfl (Or.inl rfl) (pe_ifExp (pt_cmpR (op_eqDK (K := K) rfl hr.units) (pe_slice (sl_listK (K := K) rfl) (pv 1) (po_some pe_int) (po_some pe_int)) (pe_lst (pa_cons pe_str pa_nil)) (nomark _)) (pe_slice (sl_listK (K := K) rfl) (pv 1) (po_some pe_int) po_none) (pe_slice (sl_listK (K := K) rfl) (pv 1) (po_some pe_int) po_none)))
      (pss_one (ps_ret (pe_or (pe_cmpR (op_eqDK (K := K) rfl hr.units) (pv 5) (pe_lst pa_nil) (nomark _)) (pe_one (pe_and (pe_cmpR op_eq (pe_callB (call_len_seqK (K := K) rfl) (by rfl) T.b_len (by decide +kernel) (pa_cons (pv 5) pa_nil)) pe_int (nomark _)) (pe_and (pe_cmpR op_eq (pe_ix (ix_listK (K := K) rfl) (pv 5) pe_int (fun _ _ => rfl)) pe_str (nomark _)) (pe_one (pe_callG (G_law_is_word T) (hr.mono (by first | decide | omega)) (by rfl) pass0 (pa_cons (pe_ix (ix_listK (K := K) rfl) (pv 5) pe_int (fun _ _ => rfl)) pa_nil))))))))))))))))), ?_⟩
    simp only [tCutE, tIfE, false_and, exists_false, false_or, or_false, tRet, tRetN, tAndV, tOrV, tNotV, tChain, rI, rI0, rU, tC, tCB, tCons, tNil, tVar, tOp, tUn, tTest, tB, tAnd, tOr, tNot, tIf, tIfS, tSeq, tAsg, tDrop, tNext, tDIn, tDNotIn, tDPop1, gName, gTup_ref, gCons_cons, gNil_nil, and_assoc, tYes, wipe, rEq, rNe, scal_ss, scal_ii, scal_bb, scal_ns, scal_sn, scal_nn, scal_in, scal_ni, tLc_eq, tFor_eq, iList, iTup, iStr, iRng1, iRng2, iZip, iEnum, gSub, tSl, rSetL_ref, rCat_ref, rRep_ref, rJoin_ref, rSlL_ref, rSlS_ref, rMulS_ref, rIxL_ref, rIxT_ref, rLenK_ref, rAll_ref, rIn_ref, tLst, tTup, tPar, tPar3, tAug, tPart, tNoPart, tCall, List.getElem?_cons_zero, List.getElem?_cons_succ, List.set_cons_zero, List.set_cons_succ, List.map_cons, List.map_nil, List.append_nil, List.nil_append, List.cons_append, Option.some.injEq, exists_eq_left', exists_eq_left, exists_eq_right, exists_eq_right', exists_eq', V.int.injEq, V.str.injEq, V.bl.injEq, V.ref.injEq, List.cons.injEq, tM0, tM1, rNewStrs, sgn_eq, split_dot, split_sp, split_nl, dot_len, sp_len, nl_len, cxOf_K, L2.start, List.length_cons, List.length_nil, List.replicate_succ, List.replicate_zero, Nat.reduceSub, Nat.zero_add, and_true, true_and, and_self, exists_and_left, exists_const, Bool.false_eq_true, if_false, if_true, ite_true, ite_false, reduceIte, decide_eq_true_eq, reduceCtorEq, Nat.reduceAdd, Nat.reduceLT, L2H.iEnumN, cxH_K, cxH_prog, cxH_w, cxH_mg, cxH_base, tCallVSH, tVeI, tOst, tWhy, tXf, tCallS, tCallX, tLam1, tListZip, tCallX, tCallXU, tCallV, tCallVS, tLam1, tLamD, tCallS, tCls, tClsD, cx_cells, cx_scope, cx_N, cx_prog, cx_w, cx_base, cx_mg, cx_qual]
    have hl : (sps z).length ≤ z.length + 1 := split_len_le z " " (by decide +kernel) (kind_ok (by decide +kernel))
    have hle : ∀ w ∈ sps z, w.length ≤ z.length := split_each_le z " " (by decide +kernel) (kind_ok (by decide +kernel))
    have hwo : ∀ w ∈ sps z, PyData.strOk w = true := split_ok (z := z) (y := " ") (by decide +kernel) (kind_ok (by decide +kernel)) hok
    have eLR : lineRow z = rowOf (sps z) := rfl
    refine ⟨small (by omega), fun p hp => ⟨(sps z).map V.str, .inl (.of upd_same), ?_⟩⟩
    generalize hH1 : upd H p _ = H1
    obtain ⟨s1, f1⟩ := newF hH1 hp
    rw [List.length_map]
    by_cases h3 : (sps z).length < 3
    · refine ifP (by omega) ?_
      have := q _ s1
      rw [eLR, rowOf_few h3] at this
      exact this
    · refine ifN (by omega) ?_
      obtain ⟨x, y, c, rest, hw⟩ : ∃ x y c rest, sps z = x :: y :: c :: rest := by
        match sps z, h3 with
        | x :: y :: c :: rest, _ => exact ⟨x, y, c, rest, rfl⟩
        | [], h => simp at h
        | [_], h => simp at h
        | [_, _], h => simp at h
      rw [eLR, hw] at q
      rw [hw] at f1 hl
      have hxl : x.length ≤ 9000 := Nat.le_trans (hle x (by rw [hw]; simp)) hz
      have hyl : y.length ≤ 9000 := Nat.le_trans (hle y (by rw [hw]; simp)) hz
      have hcl : c.length ≤ 9000 := Nat.le_trans (hle c (by rw [hw]; simp)) hz
      have hxo : PyData.strOk x = true := hwo x (by rw [hw]; simp)
      have hyo : PyData.strOk y = true := hwo y (by rw [hw]; simp)
      have hro : ∀ w ∈ rest, w.length ≤ 9000 ∧ PyData.strOk w = true := fun w hm => ⟨Nat.le_trans (hle w (by rw [hw]; simp [hm])) hz, hwo w (by rw [hw]; simp [hm])⟩
      have hpl := wds_len x
      have hpe := wds_each x
      have hpo : ∀ w ∈ wds x, PyData.strOk w = true := split_ok (z := x) (y := ".") (by decide +kernel) (kind_ok (by decide +kernel)) hxo
      have no : ∀ {H' : Hp}, Same H H' → rowOf (x :: y :: c :: rest) = none → Q (.bl false) H' := fun s e => by
        have := q _ s
        rw [e] at this
        exact this
      obtain ⟨us, hus⟩ : ∃ us, us = if rest.take 1 = [("once" : Str)] then rest.drop 1 else rest := ⟨_, rfl⟩
      obtain ⟨Fp, hFp⟩ : ∃ Fp : Hp → Prop, ∀ H', Fp H' ↔ Same H H' ∧ H' p = some (.lst ((x :: y :: c :: rest).map V.str)) := ⟨_, fun _ => Iff.rfl⟩
      obtain ⟨R1, hR1⟩ : ∃ R : L2.St → Hp → Prop, ∀ σ H', R σ H' ↔ ∃ p1, σ = [some (.str z), some (.ref p), some (.ref p1), none, none, none] ∧ Fp H' ∧ H' p1 = some (.lst ((wds x).map V.str)) := ⟨_, fun _ _ => Iff.rfl⟩
      obtain ⟨R2, hR2⟩ : ∃ R : L2.St → Hp → Prop, ∀ σ H', R σ H' ↔ ∃ p1, σ = [some (.str z), some (.ref p), some (.ref p1), none, none, none] ∧ Fp H' ∧ H' p1 = some (.lst ((cut (wds x)).map V.str)) := ⟨_, fun _ _ => Iff.rfl⟩
      obtain ⟨R3, hR3⟩ : ∃ R : L2.St → Hp → Prop, ∀ σ H', R σ H' ↔ ∃ p1, σ = [some (.str z), some (.ref p), some (.ref p1), none, none, none] ∧ Fp H' ∧ isPat x = true := ⟨_, fun _ _ => Iff.rfl⟩
      obtain ⟨R4, hR4⟩ : ∃ R : L2.St → Hp → Prop, ∀ σ H', R σ H' ↔ ∃ p1, σ = [some (.str z), some (.ref p), some (.ref p1), none, some (.str (rkOf c)), none] ∧ Fp H' ∧ isPat x = true := ⟨_, fun _ _ => Iff.rfl⟩
      obtain ⟨R5, hR5⟩ : ∃ R : L2.St → Hp → Prop, ∀ σ H', R σ H' ↔ ∃ p1, σ = [some (.str z), some (.ref p), some (.ref p1), none, some (.str (rkOf c)), none] ∧ Fp H' ∧ rowOf (x :: y :: c :: rest) = (rowTail us).map fun g => (⟨x, y, (rankOf c).getD 0, decide (rest.take 1 = [("once" : Str)]), g⟩ : Row) := ⟨_, fun _ _ => Iff.rfl⟩
      obtain ⟨R6, hR6⟩ : ∃ R : L2.St → Hp → Prop, ∀ σ H', R σ H' ↔ ∃ p1 p2, σ = [some (.str z), some (.ref p), some (.ref p1), none, some (.str (rkOf c)), some (.ref p2)] ∧ Fp H' ∧ H' p2 = some (.lst (us.map V.str)) ∧ (rowOf (x :: y :: c :: rest)).isSome = (rowTail us).isSome := ⟨_, fun _ _ => Iff.rfl⟩
      have F1 : Fp H1 := (hFp _).mpr ⟨s1, f1⟩
      refine ⟨R1, ⟨_, .of f1, .str x, atI_nat (j := 0) rfl, ⟨_, rfl⟩, x, rfl, small (by omega), fun p1 hp1 => (hR1 _ _).mpr ⟨p1, rfl, (hFp _).mpr ⟨same_new s1 hp1, by rw [upd_ne (ne_of_none f1 hp1)]; exact f1⟩, upd_same⟩⟩, fun σ1 H2 h1 => ?_⟩
      obtain ⟨p1, rfl, F2, g1⟩ := (hR1 _ _).mp h1
      obtain ⟨s2, f2⟩ := (hFp _).mp F2
      obtain ⟨xl, hx1, hx2⟩ := last_str (wds_ne x)
      refine ⟨R2, ⟨_, rfl, ?_⟩, fun σ2 H3 h2 => ?_⟩
      · simp only [tCutE, tIfE, false_and, exists_false, false_or, or_false, tRet, tRetN, tAndV, tOrV, tNotV, tChain, rI, rI0, rU, tC, tCB, tCons, tNil, tVar, tOp, tUn, tTest, tB, tAnd, tOr, tNot, tIf, tIfS, tSeq, tAsg, tDrop, tNext, tDIn, tDNotIn, tDPop1, gName, gTup_ref, gCons_cons, gNil_nil, and_assoc, tYes, wipe, rEq, rNe, scal_ss, scal_ii, scal_bb, scal_ns, scal_sn, scal_nn, scal_in, scal_ni, tLc_eq, tFor_eq, iList, iTup, iStr, iRng1, iRng2, iZip, iEnum, gSub, tSl, rSetL_ref, rCat_ref, rRep_ref, rJoin_ref, rSlL_ref, rSlS_ref, rMulS_ref, rIxL_ref, rIxT_ref, rLenK_ref, rAll_ref, rIn_ref, tLst, tTup, tPar, tPar3, tAug, tPart, tNoPart, tCall, List.getElem?_cons_zero, List.getElem?_cons_succ, List.set_cons_zero, List.set_cons_succ, List.map_cons, List.map_nil, List.append_nil, List.nil_append, List.cons_append, Option.some.injEq, exists_eq_left', exists_eq_left, exists_eq_right, exists_eq_right', exists_eq', V.int.injEq, V.str.injEq, V.bl.injEq, V.ref.injEq, List.cons.injEq, tM0, tM1, rNewStrs, sgn_eq, split_dot, split_sp, split_nl, dot_len, sp_len, nl_len, cxOf_K, L2.start, List.length_cons, List.length_nil, List.replicate_succ, List.replicate_zero, Nat.reduceSub, Nat.zero_add, and_true, true_and, and_self, exists_and_left, exists_const, Bool.false_eq_true, if_false, if_true, ite_true, ite_false, reduceIte, decide_eq_true_eq, reduceCtorEq, Nat.reduceAdd, Nat.reduceLT, L2H.iEnumN, cxH_K, cxH_prog, cxH_w, cxH_mg, cxH_base, tCallVSH, tVeI, tOst, tWhy, tXf, tCallS, tCallX, tLam1, tListZip, tCallX, tCallXU, tCallV, tCallVS, tLam1, tLamD, tCallS, tCls, tClsD, cx_cells, cx_scope, cx_N, cx_prog, cx_w, cx_base, cx_mg, cx_qual]
        refine ⟨_, .of g1, .str xl, (atI_neg1 (by simpa using wds_ne x)).trans hx1, rfl, ?_⟩
        by_cases e : xl = ("#" : Str)
        · refine ifP (by rw [e]) ⟨_, .of g1, fun p2 hp2 => (hR2 _ _).mpr ⟨p2, rfl, (hFp _).mpr ⟨same_new s2 hp2, by rw [upd_ne (ne_of_none f2 hp2)]; exact f2⟩, ?_⟩⟩
          rw [upd_same, cut_last, ← List.map_dropLast]
          unfold cut
          rw [if_pos (by rw [hx2, e])]
        · refine ifN (fun z => e (by cases z; rfl)) ((hR2 _ _).mpr ⟨p1, rfl, F2, ?_⟩)
          unfold cut
          rw [if_neg (fun z => e (by rw [hx2] at z; exact Option.some.inj z))]
          exact g1
      obtain ⟨p2, rfl, F3, g2⟩ := (hR2 _ _).mp h2
      obtain ⟨s3, f3⟩ := (hFp _).mp F3
      refine ⟨R3, ⟨_, rfl, ?_⟩, fun σ3 H4 h3 => ?_⟩
      · simp only [tCutE, tIfE, false_and, exists_false, false_or, or_false, tRet, tRetN, tAndV, tOrV, tNotV, tChain, rI, rI0, rU, tC, tCB, tCons, tNil, tVar, tOp, tUn, tTest, tB, tAnd, tOr, tNot, tIf, tIfS, tSeq, tAsg, tDrop, tNext, tDIn, tDNotIn, tDPop1, gName, gTup_ref, gCons_cons, gNil_nil, and_assoc, tYes, wipe, rEq, rNe, scal_ss, scal_ii, scal_bb, scal_ns, scal_sn, scal_nn, scal_in, scal_ni, tLc_eq, tFor_eq, iList, iTup, iStr, iRng1, iRng2, iZip, iEnum, gSub, tSl, rSetL_ref, rCat_ref, rRep_ref, rJoin_ref, rSlL_ref, rSlS_ref, rMulS_ref, rIxL_ref, rIxT_ref, rLenK_ref, rAll_ref, rIn_ref, tLst, tTup, tPar, tPar3, tAug, tPart, tNoPart, tCall, List.getElem?_cons_zero, List.getElem?_cons_succ, List.set_cons_zero, List.set_cons_succ, List.map_cons, List.map_nil, List.append_nil, List.nil_append, List.cons_append, Option.some.injEq, exists_eq_left', exists_eq_left, exists_eq_right, exists_eq_right', exists_eq', V.int.injEq, V.str.injEq, V.bl.injEq, V.ref.injEq, List.cons.injEq, tM0, tM1, rNewStrs, sgn_eq, split_dot, split_sp, split_nl, dot_len, sp_len, nl_len, cxOf_K, L2.start, List.length_cons, List.length_nil, List.replicate_succ, List.replicate_zero, Nat.reduceSub, Nat.zero_add, and_true, true_and, and_self, exists_and_left, exists_const, Bool.false_eq_true, if_false, if_true, ite_true, ite_false, reduceIte, decide_eq_true_eq, reduceCtorEq, Nat.reduceAdd, Nat.reduceLT, L2H.iEnumN, cxH_K, cxH_prog, cxH_w, cxH_mg, cxH_base, tCallVSH, tVeI, tOst, tWhy, tXf, tCallS, tCallX, tLam1, tListZip, tCallX, tCallXU, tCallV, tCallVS, tLam1, tLamD, tCallS, tCls, tClsD, cx_cells, cx_scope, cx_N, cx_prog, cx_w, cx_base, cx_mg, cx_qual]
        refine ⟨_, .inl (.of g2), ?_⟩
        rw [List.length_map]
        have hcm : ∀ w ∈ cut (wds x), w ∈ wds x := by
          unfold cut; split
          · exact fun w hw => List.dropLast_subset _ hw
          · exact fun w hw => hw
        by_cases h6 : (6 : Int) < ((cut (wds x)).length : Int)
        · refine ifP h6 (no s3 (rowOf_bad fun z => ?_))
          have := z.1
          unfold isPat at this
          rw [decide_eq_false (by omega : ¬ (cut (wds x)).length ≤ 6)] at this
          simp at this
        · refine ifN h6 ⟨⟨_, .of g2⟩, lc_fil (cut (wds x)) (fun w => if starOr w = true then none else some (V.str w)) (walk_listm _ V.str) (by omega) (fun H2 s2 => s2.seq (.of g2)) (fun i a v H4 H5 R ha s4 hy r => ?_) (fun D H4 nD s4 hD => ?_)⟩
          · obtain ⟨rfl, y', hy, rfl⟩ := hy
            cases Option.some.inj (ha.symm.trans hy)
            simp only [tCutE, tIfE, false_and, exists_false, false_or, or_false, tRet, tRetN, tAndV, tOrV, tNotV, tChain, rI, rI0, rU, tC, tCB, tCons, tNil, tVar, tOp, tUn, tTest, tB, tAnd, tOr, tNot, tIf, tIfS, tSeq, tAsg, tDrop, tNext, tDIn, tDNotIn, tDPop1, gName, gTup_ref, gCons_cons, gNil_nil, and_assoc, tYes, wipe, rEq, rNe, scal_ss, scal_ii, scal_bb, scal_ns, scal_sn, scal_nn, scal_in, scal_ni, tLc_eq, tFor_eq, iList, iTup, iStr, iRng1, iRng2, iZip, iEnum, gSub, tSl, rSetL_ref, rCat_ref, rRep_ref, rJoin_ref, rSlL_ref, rSlS_ref, rMulS_ref, rIxL_ref, rIxT_ref, rLenK_ref, rAll_ref, rIn_ref, tLst, tTup, tPar, tPar3, tAug, tPart, tNoPart, tCall, List.getElem?_cons_zero, List.getElem?_cons_succ, List.set_cons_zero, List.set_cons_succ, List.map_cons, List.map_nil, List.append_nil, List.nil_append, List.cons_append, Option.some.injEq, exists_eq_left', exists_eq_left, exists_eq_right, exists_eq_right', exists_eq', V.int.injEq, V.str.injEq, V.bl.injEq, V.ref.injEq, List.cons.injEq, tM0, tM1, rNewStrs, sgn_eq, split_dot, split_sp, split_nl, dot_len, sp_len, nl_len, cxOf_K, L2.start, List.length_cons, List.length_nil, List.replicate_succ, List.replicate_zero, Nat.reduceSub, Nat.zero_add, and_true, true_and, and_self, exists_and_left, exists_const, Bool.false_eq_true, if_false, if_true, ite_true, ite_false, reduceIte, decide_eq_true_eq, reduceCtorEq, Nat.reduceAdd, Nat.reduceLT, L2H.iEnumN, cxH_K, cxH_prog, cxH_w, cxH_mg, cxH_base, tCallVSH, tVeI, tOst, tWhy, tXf, tCallS, tCallX, tLam1, tListZip, tCallX, tCallXU, tCallV, tCallVS, tLam1, tLamD, tCallS, tCls, tClsD, cx_cells, cx_scope, cx_N, cx_prog, cx_w, cx_base, cx_mg, cx_qual]
            have hm := hcm a (List.mem_of_getElem? ha)
            by_cases e : a = ("*" : Str)
            · have := r _ (Same.refl _)
              rw [if_pos (by rw [e]; decide +kernel)] at this
              exact ifN (by simp [e]) this
            · refine ifP (by simp [e]) ⟨Nat.le_trans (hpe a hm) (by omega), hpo a hm, fun H6 s6 => ?_⟩
              have := r _ s6
              have es : starOr a = isWord a := by unfold starOr; rw [decide_eq_false e, Bool.false_or]
              rw [es] at this
              by_cases e2 : isWord a = true
              · rw [if_pos e2] at this
                exact ifN (by simp [e2]) this
              · rw [if_neg e2] at this
                exact ifP (by simp [e2]) this
          · rw [filterMap_if] at hD
            refine ⟨by decide, fun t ht => rNe_strs (vs := []) (by rw [upd_ne (ne_of_none hD ht)]; exact hD) upd_same (fun w hw => hpo w (hcm w (List.mem_filter.mp hw).1)) (fun _ z => nomatch z) ⟨_, rfl, ?_⟩⟩
            have s5 : Same H (upd H4 t (.lst [])) := same_new (s3.trans s4) ht
            have e : decide (((cut (wds x)).filter fun a => !starOr a) = []) = isPat x := by
              unfold isPat
              rw [decide_eq_true (by omega : (cut (wds x)).length ≤ 6), Bool.true_and, ← filter_nil]
              cases (cut (wds x)).filter fun a => !starOr a <;> simp
            rw [e]
            by_cases e2 : isPat x = true
            · exact ifN (by simp [e2]) ((hR3 _ _).mpr ⟨p2, rfl, (hFp _).mpr ⟨s5, (same_new s4 ht) _ _ f3⟩, e2⟩)
            · exact ifP (by simp [e2]) (no s5 (rowOf_bad fun z => e2 z.1))
      obtain ⟨p3, rfl, F4, hpat⟩ := (hR3 _ _).mp h3
      obtain ⟨s4, f4⟩ := (hFp _).mp F4
      refine ⟨R4, ⟨_, rfl, ?_⟩, fun σ4 H5 h4 => ?_⟩
      · simp only [tCutE, tIfE, false_and, exists_false, false_or, or_false, tRet, tRetN, tAndV, tOrV, tNotV, tChain, rI, rI0, rU, tC, tCB, tCons, tNil, tVar, tOp, tUn, tTest, tB, tAnd, tOr, tNot, tIf, tIfS, tSeq, tAsg, tDrop, tNext, tDIn, tDNotIn, tDPop1, gName, gTup_ref, gCons_cons, gNil_nil, and_assoc, tYes, wipe, rEq, rNe, scal_ss, scal_ii, scal_bb, scal_ns, scal_sn, scal_nn, scal_in, scal_ni, tLc_eq, tFor_eq, iList, iTup, iStr, iRng1, iRng2, iZip, iEnum, gSub, tSl, rSetL_ref, rCat_ref, rRep_ref, rJoin_ref, rSlL_ref, rSlS_ref, rMulS_ref, rIxL_ref, rIxT_ref, rLenK_ref, rAll_ref, rIn_ref, tLst, tTup, tPar, tPar3, tAug, tPart, tNoPart, tCall, List.getElem?_cons_zero, List.getElem?_cons_succ, List.set_cons_zero, List.set_cons_succ, List.map_cons, List.map_nil, List.append_nil, List.nil_append, List.cons_append, Option.some.injEq, exists_eq_left', exists_eq_left, exists_eq_right, exists_eq_right', exists_eq', V.int.injEq, V.str.injEq, V.bl.injEq, V.ref.injEq, List.cons.injEq, tM0, tM1, rNewStrs, sgn_eq, split_dot, split_sp, split_nl, dot_len, sp_len, nl_len, cxOf_K, L2.start, List.length_cons, List.length_nil, List.replicate_succ, List.replicate_zero, Nat.reduceSub, Nat.zero_add, and_true, true_and, and_self, exists_and_left, exists_const, Bool.false_eq_true, if_false, if_true, ite_true, ite_false, reduceIte, decide_eq_true_eq, reduceCtorEq, Nat.reduceAdd, Nat.reduceLT, L2H.iEnumN, cxH_K, cxH_prog, cxH_w, cxH_mg, cxH_base, tCallVSH, tVeI, tOst, tWhy, tXf, tCallS, tCallX, tLam1, tListZip, tCallX, tCallXU, tCallV, tCallVS, tLam1, tLamD, tCallS, tCls, tClsD, cx_cells, cx_scope, cx_N, cx_prog, cx_w, cx_base, cx_mg, cx_qual]
        have get : ∀ {Rz : V → Prop}, Rz (.str c) → ∃ xs, SqL K H4 p xs ∧ ∃ x, atI xs 2 = some x ∧ Rz x := fun h => ⟨_, .of f4, .str c, atI_nat (j := 2) rfl, h⟩
        have fin : ∀ k : Str, k = rkOf c → R4 [some (V.str z), some (V.ref p), some (V.ref p3), none, some (V.str k), none] H4 := fun k e => (hR4 _ _).mpr ⟨p3, by rw [e], F4, hpat⟩
        refine get ?_
        simp only [tCutE, tIfE, false_and, exists_false, false_or, or_false, tRet, tRetN, tAndV, tOrV, tNotV, tChain, rI, rI0, rU, tC, tCB, tCons, tNil, tVar, tOp, tUn, tTest, tB, tAnd, tOr, tNot, tIf, tIfS, tSeq, tAsg, tDrop, tNext, tDIn, tDNotIn, tDPop1, gName, gTup_ref, gCons_cons, gNil_nil, and_assoc, tYes, wipe, rEq, rNe, scal_ss, scal_ii, scal_bb, scal_ns, scal_sn, scal_nn, scal_in, scal_ni, tLc_eq, tFor_eq, iList, iTup, iStr, iRng1, iRng2, iZip, iEnum, gSub, tSl, rSetL_ref, rCat_ref, rRep_ref, rJoin_ref, rSlL_ref, rSlS_ref, rMulS_ref, rIxL_ref, rIxT_ref, rLenK_ref, rAll_ref, rIn_ref, tLst, tTup, tPar, tPar3, tAug, tPart, tNoPart, tCall, List.getElem?_cons_zero, List.getElem?_cons_succ, List.set_cons_zero, List.set_cons_succ, List.map_cons, List.map_nil, List.append_nil, List.nil_append, List.cons_append, Option.some.injEq, exists_eq_left', exists_eq_left, exists_eq_right, exists_eq_right', exists_eq', V.int.injEq, V.str.injEq, V.bl.injEq, V.ref.injEq, List.cons.injEq, tM0, tM1, rNewStrs, sgn_eq, split_dot, split_sp, split_nl, dot_len, sp_len, nl_len, cxOf_K, L2.start, List.length_cons, List.length_nil, List.replicate_succ, List.replicate_zero, Nat.reduceSub, Nat.zero_add, and_true, true_and, and_self, exists_and_left, exists_const, Bool.false_eq_true, if_false, if_true, ite_true, ite_false, reduceIte, decide_eq_true_eq, reduceCtorEq, Nat.reduceAdd, Nat.reduceLT, L2H.iEnumN, cxH_K, cxH_prog, cxH_w, cxH_mg, cxH_base, tCallVSH, tVeI, tOst, tWhy, tXf, tCallS, tCallX, tLam1, tListZip, tCallX, tCallXU, tCallV, tCallVS, tLam1, tLamD, tCallS, tCls, tClsD, cx_cells, cx_scope, cx_N, cx_prog, cx_w, cx_base, cx_mg, cx_qual]
        refine ⟨small (by omega), ?_⟩
        by_cases e : cutS c none (some 1) = Str.ofString "-"
        · refine ifP (by rw [e]) (get ⟨rfl, ?_⟩)
          by_cases e2 : c = Str.ofString "-0"
          · refine ifN (by simp [e2]) (get (fin c ?_))
            unfold rkOf; rw [if_neg (fun z => z.2 e2)]
          · refine ifP (by simp [e2]) (get ?_)
            simp only [tCutE, tIfE, false_and, exists_false, false_or, or_false, tRet, tRetN, tAndV, tOrV, tNotV, tChain, rI, rI0, rU, tC, tCB, tCons, tNil, tVar, tOp, tUn, tTest, tB, tAnd, tOr, tNot, tIf, tIfS, tSeq, tAsg, tDrop, tNext, tDIn, tDNotIn, tDPop1, gName, gTup_ref, gCons_cons, gNil_nil, and_assoc, tYes, wipe, rEq, rNe, scal_ss, scal_ii, scal_bb, scal_ns, scal_sn, scal_nn, scal_in, scal_ni, tLc_eq, tFor_eq, iList, iTup, iStr, iRng1, iRng2, iZip, iEnum, gSub, tSl, rSetL_ref, rCat_ref, rRep_ref, rJoin_ref, rSlL_ref, rSlS_ref, rMulS_ref, rIxL_ref, rIxT_ref, rLenK_ref, rAll_ref, rIn_ref, tLst, tTup, tPar, tPar3, tAug, tPart, tNoPart, tCall, List.getElem?_cons_zero, List.getElem?_cons_succ, List.set_cons_zero, List.set_cons_succ, List.map_cons, List.map_nil, List.append_nil, List.nil_append, List.cons_append, Option.some.injEq, exists_eq_left', exists_eq_left, exists_eq_right, exists_eq_right', exists_eq', V.int.injEq, V.str.injEq, V.bl.injEq, V.ref.injEq, List.cons.injEq, tM0, tM1, rNewStrs, sgn_eq, split_dot, split_sp, split_nl, dot_len, sp_len, nl_len, cxOf_K, L2.start, List.length_cons, List.length_nil, List.replicate_succ, List.replicate_zero, Nat.reduceSub, Nat.zero_add, and_true, true_and, and_self, exists_and_left, exists_const, Bool.false_eq_true, if_false, if_true, ite_true, ite_false, reduceIte, decide_eq_true_eq, reduceCtorEq, Nat.reduceAdd, Nat.reduceLT, L2H.iEnumN, cxH_K, cxH_prog, cxH_w, cxH_mg, cxH_base, tCallVSH, tVeI, tOst, tWhy, tXf, tCallS, tCallX, tLam1, tListZip, tCallX, tCallXU, tCallV, tCallVS, tLam1, tLamD, tCallS, tCls, tClsD, cx_cells, cx_scope, cx_N, cx_prog, cx_w, cx_base, cx_mg, cx_qual]
            refine ⟨small (by omega), fin _ ?_⟩
            unfold rkOf; rw [if_pos ⟨e, e2⟩]
        · refine ifN e (get (fin c ?_))
          unfold rkOf; rw [if_neg (fun z => e z.1)]
      obtain ⟨p4, rfl, F5, hpat⟩ := (hR4 _ _).mp h4
      obtain ⟨s5, f5⟩ := (hFp _).mp F5
      refine ⟨R5, ⟨_, rfl, ?_⟩, fun σ5 H6 h5 => ?_⟩
      · simp only [tCutE, tIfE, false_and, exists_false, false_or, or_false, tRet, tRetN, tAndV, tOrV, tNotV, tChain, rI, rI0, rU, tC, tCB, tCons, tNil, tVar, tOp, tUn, tTest, tB, tAnd, tOr, tNot, tIf, tIfS, tSeq, tAsg, tDrop, tNext, tDIn, tDNotIn, tDPop1, gName, gTup_ref, gCons_cons, gNil_nil, and_assoc, tYes, wipe, rEq, rNe, scal_ss, scal_ii, scal_bb, scal_ns, scal_sn, scal_nn, scal_in, scal_ni, tLc_eq, tFor_eq, iList, iTup, iStr, iRng1, iRng2, iZip, iEnum, gSub, tSl, rSetL_ref, rCat_ref, rRep_ref, rJoin_ref, rSlL_ref, rSlS_ref, rMulS_ref, rIxL_ref, rIxT_ref, rLenK_ref, rAll_ref, rIn_ref, tLst, tTup, tPar, tPar3, tAug, tPart, tNoPart, tCall, List.getElem?_cons_zero, List.getElem?_cons_succ, List.set_cons_zero, List.set_cons_succ, List.map_cons, List.map_nil, List.append_nil, List.nil_append, List.cons_append, Option.some.injEq, exists_eq_left', exists_eq_left, exists_eq_right, exists_eq_right', exists_eq', V.int.injEq, V.str.injEq, V.bl.injEq, V.ref.injEq, List.cons.injEq, tM0, tM1, rNewStrs, sgn_eq, split_dot, split_sp, split_nl, dot_len, sp_len, nl_len, cxOf_K, L2.start, List.length_cons, List.length_nil, List.replicate_succ, List.replicate_zero, Nat.reduceSub, Nat.zero_add, and_true, true_and, and_self, exists_and_left, exists_const, Bool.false_eq_true, if_false, if_true, ite_true, ite_false, reduceIte, decide_eq_true_eq, reduceCtorEq, Nat.reduceAdd, Nat.reduceLT, L2H.iEnumN, cxH_K, cxH_prog, cxH_w, cxH_mg, cxH_base, tCallVSH, tVeI, tOst, tWhy, tXf, tCallS, tCallX, tLam1, tListZip, tCallX, tCallXU, tCallV, tCallVS, tLam1, tLamD, tCallS, tCls, tClsD, cx_cells, cx_scope, cx_N, cx_prog, cx_w, cx_base, cx_mg, cx_qual]
        refine ⟨_, .of f5, .str y, atI_nat (j := 1) rfl, y, rfl, by omega, hyo, fun H6 s6 => ⟨_, rfl, ?_⟩⟩
        have s6' := s5.trans s6
        have lrk : (rkOf c).length ≤ c.length := by
          unfold rkOf; split
          · rw [len_tl, tl_cut1, len_tl c, List.length_drop]; omega
          · exact Nat.le_refl _
        by_cases hn : isWord y = true
        · refine ifN (by simp [hn]) ⟨small (by omega), ?_⟩
          have rl := rank_look c
          have bad : ¬ (rankOf c).isSome = true → Q (V.bl false) H6 := fun hb => no s6' (rowOf_norank (by
            cases hc : rankOf c with
            | none => rfl
            | some r => rw [hc] at hb; exact absurd rfl hb))
          by_cases l1 : (rkOf c).length = 1
          · obtain ⟨d, hd, _⟩ := one_of l1
            refine ifN (by simp [l1]) ⟨d, hd, ?_⟩
            by_cases hdg : 48 ≤ d ∧ d ≤ 57
            · refine ifN (by simp [dig_mem.mpr hdg]) ((hR5 _ _).mpr ⟨p4, rfl, (hFp _).mpr ⟨s6', s6 _ _ f5⟩, ?_⟩)
              obtain ⟨r, hr⟩ := Option.isSome_iff_exists.mp (rl.mpr ⟨d, hd, hdg⟩)
              rw [rowOf_rank hpat hn hr, hr, hus]
              by_cases eo : rest.take 1 = [("once" : Str)]
              · rw [if_pos (decide_eq_true eo), if_pos eo]; rfl
              · rw [if_neg (by simp [eo]), if_neg eo]; rfl
            · refine ifP (by rw [decide_eq_false (fun z => hdg (dig_mem.mp z))]; rfl) (bad fun z => ?_)
              obtain ⟨d', hd', h'⟩ := rl.mp z
              rw [hd] at hd'
              cases hd'
              exact hdg h'
          · refine ifP (by rw [decide_eq_false (by omega)]; rfl) (bad fun z => ?_)
            obtain ⟨d', hd', h'⟩ := rl.mp z
            exact l1 (by rw [hd']; rfl)
        · exact ifP (by simp [hn]) (no s6' (rowOf_bad fun z => hn z.2))
      obtain ⟨p5, rfl, F6, hrow⟩ := (hR5 _ _).mp h5
      obtain ⟨s6, f6⟩ := (hFp _).mp F6
      refine ⟨R6, ⟨_, rfl, ?_⟩, fun σ6 H7 h6 => ?_⟩
      · simp only [tCutE, tIfE, false_and, exists_false, false_or, or_false, tRet, tRetN, tAndV, tOrV, tNotV, tChain, rI, rI0, rU, tC, tCB, tCons, tNil, tVar, tOp, tUn, tTest, tB, tAnd, tOr, tNot, tIf, tIfS, tSeq, tAsg, tDrop, tNext, tDIn, tDNotIn, tDPop1, gName, gTup_ref, gCons_cons, gNil_nil, and_assoc, tYes, wipe, rEq, rNe, scal_ss, scal_ii, scal_bb, scal_ns, scal_sn, scal_nn, scal_in, scal_ni, tLc_eq, tFor_eq, iList, iTup, iStr, iRng1, iRng2, iZip, iEnum, gSub, tSl, rSetL_ref, rCat_ref, rRep_ref, rJoin_ref, rSlL_ref, rSlS_ref, rMulS_ref, rIxL_ref, rIxT_ref, rLenK_ref, rAll_ref, rIn_ref, tLst, tTup, tPar, tPar3, tAug, tPart, tNoPart, tCall, List.getElem?_cons_zero, List.getElem?_cons_succ, List.set_cons_zero, List.set_cons_succ, List.map_cons, List.map_nil, List.append_nil, List.nil_append, List.cons_append, Option.some.injEq, exists_eq_left', exists_eq_left, exists_eq_right, exists_eq_right', exists_eq', V.int.injEq, V.str.injEq, V.bl.injEq, V.ref.injEq, List.cons.injEq, tM0, tM1, rNewStrs, sgn_eq, split_dot, split_sp, split_nl, dot_len, sp_len, nl_len, cxOf_K, L2.start, List.length_cons, List.length_nil, List.replicate_succ, List.replicate_zero, Nat.reduceSub, Nat.zero_add, and_true, true_and, and_self, exists_and_left, exists_const, Bool.false_eq_true, if_false, if_true, ite_true, ite_false, reduceIte, decide_eq_true_eq, reduceCtorEq, Nat.reduceAdd, Nat.reduceLT, L2H.iEnumN, cxH_K, cxH_prog, cxH_w, cxH_mg, cxH_base, tCallVSH, tVeI, tOst, tWhy, tXf, tCallS, tCallX, tLam1, tListZip, tCallX, tCallXU, tCallV, tCallVS, tLam1, tLamD, tCallS, tCls, tClsD, cx_cells, cx_scope, cx_N, cx_prog, cx_w, cx_base, cx_mg, cx_qual]
        refine ⟨_, .of f6, fun q1 hq1 => ⟨by decide, fun q2 hq2 => ?_⟩⟩
        rw [cut34] at hq2 ⊢
        generalize hH8 : upd H6 q1 _ = H8 at hq2 ⊢
        obtain ⟨s8, f8⟩ := newF hH8 hq1
        refine rEq_strs (us := rest.take 1) (vs := [("once" : Str)]) (by rw [upd_ne (ne_of_none f8 hq2)]; exact f8) upd_same (fun w hw => (hro w (List.mem_of_mem_take hw)).2) (fun w hw => by rw [List.mem_singleton.mp hw]; decide +kernel) ⟨_, rfl, ?_⟩
        have s9 : Same H6 (upd H8 q2 (HO.lst [V.str (Str.ofString "once")])) := same_new s8 hq2
        have f9 := s9 _ _ f6
        have fin : ∀ (q3 : Addr) (xs : List V), upd H8 q2 (HO.lst [V.str (Str.ofString "once")]) q3 = none → xs = us.map V.str → R6 [some (V.str z), some (V.ref p), some (V.ref p5), none, some (V.str (rkOf c)), some (V.ref q3)] (upd (upd H8 q2 (HO.lst [V.str (Str.ofString "once")])) q3 (HO.lst xs)) := fun q3 xs hq3 e => (hR6 _ _).mpr ⟨p5, q3, rfl, (hFp _).mpr ⟨same_new (s6.trans s9) hq3, by rw [upd_ne (ne_of_none f9 hq3)]; exact f9⟩, by rw [upd_same, e], by rw [hrow, Option.isSome_map]⟩
        by_cases eo : rest.take 1 = [("once" : Str)]
        · refine ifP (decide_eq_true eo) ⟨_, .of f9, fun q3 hq3 => fin q3 _ hq3 ?_⟩
          rw [hus, if_pos eo]
          exact (cutV_from _ 4).trans (by simp)
        · refine ifN (by simp [eo]) ⟨_, .of f9, fun q3 hq3 => fin q3 _ hq3 ?_⟩
          rw [hus, if_neg eo]
          exact (cutV_from _ 3).trans (by simp)
      obtain ⟨p6, p7, rfl, F7, f8, hrow⟩ := (hR6 _ _).mp h6
      obtain ⟨s7, f7⟩ := (hFp _).mp F7
      refine ⟨_, rfl, ?_⟩
      simp only [tCutE, tIfE, false_and, exists_false, false_or, or_false, tRet, tRetN, tAndV, tOrV, tNotV, tChain, rI, rI0, rU, tC, tCB, tCons, tNil, tVar, tOp, tUn, tTest, tB, tAnd, tOr, tNot, tIf, tIfS, tSeq, tAsg, tDrop, tNext, tDIn, tDNotIn, tDPop1, gName, gTup_ref, gCons_cons, gNil_nil, and_assoc, tYes, wipe, rEq, rNe, scal_ss, scal_ii, scal_bb, scal_ns, scal_sn, scal_nn, scal_in, scal_ni, tLc_eq, tFor_eq, iList, iTup, iStr, iRng1, iRng2, iZip, iEnum, gSub, tSl, rSetL_ref, rCat_ref, rRep_ref, rJoin_ref, rSlL_ref, rSlS_ref, rMulS_ref, rIxL_ref, rIxT_ref, rLenK_ref, rAll_ref, rIn_ref, tLst, tTup, tPar, tPar3, tAug, tPart, tNoPart, tCall, List.getElem?_cons_zero, List.getElem?_cons_succ, List.set_cons_zero, List.set_cons_succ, List.map_cons, List.map_nil, List.append_nil, List.nil_append, List.cons_append, Option.some.injEq, exists_eq_left', exists_eq_left, exists_eq_right, exists_eq_right', exists_eq', V.int.injEq, V.str.injEq, V.bl.injEq, V.ref.injEq, List.cons.injEq, tM0, tM1, rNewStrs, sgn_eq, split_dot, split_sp, split_nl, dot_len, sp_len, nl_len, cxOf_K, L2.start, List.length_cons, List.length_nil, List.replicate_succ, List.replicate_zero, Nat.reduceSub, Nat.zero_add, and_true, true_and, and_self, exists_and_left, exists_const, Bool.false_eq_true, if_false, if_true, ite_true, ite_false, reduceIte, decide_eq_true_eq, reduceCtorEq, Nat.reduceAdd, Nat.reduceLT, L2H.iEnumN, cxH_K, cxH_prog, cxH_w, cxH_mg, cxH_base, tCallVSH, tVeI, tOst, tWhy, tXf, tCallS, tCallX, tLam1, tListZip, tCallX, tCallXU, tCallV, tCallVS, tLam1, tLamD, tCallS, tCls, tClsD, cx_cells, cx_scope, cx_N, cx_prog, cx_w, cx_base, cx_mg, cx_qual]
      have huo : ∀ w ∈ us, w.length ≤ 9000 ∧ PyData.strOk w = true := fun w hw => hro w (by
        rw [hus] at hw
        split at hw
        · exact List.mem_of_mem_drop hw
        · exact hw)
      rw [hrow] at q
      have rs := rowTail_some us
      refine ⟨by decide, fun q1 hq1 => rEq_strs (vs := []) (by rw [upd_ne (ne_of_none f8 hq1)]; exact f8) upd_same (fun w hw => (huo w hw).2) (fun _ z => nomatch z) ⟨_, rfl, ?_⟩⟩
      have s8 : Same H (upd H7 q1 (.lst [])) := same_new s7 hq1
      have f9 : upd H7 q1 (.lst []) p7 = some (.lst (us.map V.str)) := by rw [upd_ne (ne_of_none f8 hq1)]; exact f8
      have q8 := q _ s8
      by_cases e0 : us = []
      · rw [rs.mpr (.inl e0)] at q8
        exact ifP (decide_eq_true e0) q8
      · refine ifN (by simp [e0]) ⟨_, .inl (.of f9), ?_⟩
        rw [List.length_map]
        by_cases e2 : us.length = 2
        · obtain ⟨a, b, rfl⟩ : ∃ a b, us = [a, b] := by
            match us, e2 with
            | [a, b], _ => exact ⟨a, b, rfl⟩
          refine ifP (by omega) ⟨_, .of f9, .str a, rfl, rfl, ?_⟩
          by_cases ei : a = ("in" : Str)
          · refine ifP (by rw [ei]) ⟨_, .of f9, .str b, rfl, b, rfl, Nat.le_trans (huo b (by simp)).1 (by omega), (huo b (by simp)).2, fun H8 s9 => ?_⟩
            have := q _ (s8.trans s9)
            rw [rowTail_two] at this
            by_cases ew : isWord b = true
            · rw [if_pos ⟨ei, ew⟩] at this; rw [ew]; exact this
            · rw [if_neg (fun z => ew z.2)] at this; rw [Bool.eq_false_iff.mpr ew]; exact this
          · rw [rowTail_two, if_neg (fun z => ei z.1)] at q8
            exact ifN (fun z => ei (by cases z; rfl)) q8
        · rw [rowTail_len e0 e2] at q8
          exact ifN (by omega) q8
end
end Hk

set_option Elab.async false
set_option linter.all false
set_option maxRecDepth 100000
set_option maxHeartbeats 4000000
namespace Hk
open PySem PySem.Spec PyProof.Rows L2
open LamX NdefX
open TL
section
variable {P : Program} {w : World} {K : PySem.W.Frag} {mg : Str → Option Value} {base : Heap}
/-! ### the odd texts -/
def okV : V → Bool | .str z => decide (z.length ≤ 30) && PyData.strOk z | _ => false
def OddAt (n : Nat) (H1 H' : Hp) (O : Addr) : Prop := Same H1 H' ∧ H1 O = none ∧ ∃ vs, H' O = some (.lst vs) ∧ 1 ≤ vs.length ∧ vs.length ≤ n ∧ vs.all okV = true
theorem odd_new {H1 : Hp} {vs : List V} (h1 : 1 ≤ vs.length) (h2 : vs.length ≤ 13) (ho : vs.all okV = true) {C : Addr → Hp → Prop} (q : ∀ p H', OddAt 13 H1 H' p → C p H') : ∀ p, H1 p = none → C p (upd H1 p (.lst vs)) :=
  fun p hp => q p _ ⟨same_put (Same.refl _) hp, hp, vs, upd_same, h1, h2, ho⟩
theorem odd_cat {n : Nat} {H1 H : Hp} {O : Addr} {vs : List V} (h : OddAt n H1 H O) (hn : n ≤ 1000) (h2 : vs.length ≤ 13) (ho : vs.all okV = true) {C : Addr → Hp → Prop} (q : ∀ p H', OddAt (n + 13) H1 H' p → C p H') :
    ∀ p, H p = none → ∃ xs, upd H p (.lst vs) O = some (.lst xs) ∧ ∃ ys, upd H p (.lst vs) p = some (.lst ys) ∧ xs.length + ys.length ≤ sizeLine ∧ ∀ p2, upd H p (.lst vs) p2 = none → C p2 (upd (upd H p (.lst vs)) p2 (.lst (xs ++ ys))) := by
  obtain ⟨s, hO, us, e, h3, h4, h5⟩ := h
  intro p hp
  refine ⟨us, by rw [upd_ne (ne_of_none e hp)]; exact e, vs, upd_same, small (by omega), fun p2 hp2 => q p2 _ ⟨same_new (same_new s hp) hp2, (same_new s hp).free hp2, _, upd_same, by rw [List.length_append]; omega, by rw [List.length_append]; omega, by rw [List.all_append, h5, ho]; rfl⟩⟩
def RO (a h : Addr) (n : Nat) (H1 : Hp) (r : L2.St) : L2.St → Hp → Prop := fun σ H' => ∃ O, σ = some (.ref a) :: some (.ref h) :: some (.ref O) :: r ∧ OddAt n H1 H' O
theorem drawT {H H' : Hp} {h l : Addr} (S : SrcOk H h l) (x : Ext (DrS h l) H H') (t : Tab K H) : Tab K H' := by
  obtain ⟨m, p, cs, e1, e2, _⟩ := id S
  have nS : ∀ {b o}, H b = some o → (∀ xs, o ≠ .lst xs) → ¬ DrS h l b := fun {b o} hb n z => by
    rcases z with z | z
    · rw [z, e1] at hb; exact n _ (Option.some.inj hb).symm
    · rw [z, e2] at hb; exact n _ (Option.some.inj hb).symm
  exact t.ext2 (fun b ps hb => x _ _ (nS hb (fun _ z => by cases z)) hb) (fun c q hc => x _ _ (nS hc (fun xs e => by have := imm_code (f := c) (q := q); rw [e] at this; exact this)) hc)
/-- where the law stands -/
structure StK (K : PySem.W.Frag) (h l O : Addr) (vs : List V) (H : Hp) : Prop where
  src : SrcOk H h l
  tab : Tab K H
  odd : H O = some (.lst vs)
  nO : ¬ DrS h l O
theorem StK.draw {h l O : Addr} {vs : List V} {H H' : Hp} (s : StK K h l O vs H) (x : Ext (DrS h l) H H') (S' : SrcOk H' h l) : StK K h l O vs H' := ⟨S', drawT s.src x s.tab, x _ _ s.nO s.odd, s.nO⟩
theorem StK.same {h l O : Addr} {vs : List V} {H H' : Hp} (s : StK K h l O vs H) (x : Same H H') : StK K h l O vs H' := ⟨s.src.same x, s.tab.ext x, x _ _ s.odd, s.nO⟩
theorem StK.new {h l O p : Addr} {o : HO} {vs : List V} {H : Hp} (s : StK K h l O vs H) (n : H p = none) : StK K h l O vs (upd H p o) := s.same (same_put (Same.refl _) n)
theorem StK.fw {h l O : Addr} {vs : List V} {H H' : Hp} (s : StK K h l O vs H) (x : Fwd K No H H') : StK K h l O vs H' := by
  obtain ⟨m, p, cs, e1, e2, r⟩ := s.src
  exact ⟨⟨m, p, cs, x.lst s.tab e1 (fun z => z), x.lst s.tab e2 (fun z => z), r⟩, x.tab, x.lst s.tab s.odd (fun z => z), s.nO⟩
def okW (t : Str) : Prop := t.length ≤ 700 ∧ PyData.strOk t = true
theorem okW_row {r : Row} (g : Good r) : okW (rowText r) := ⟨rowText_len g, strOk_iff.mpr fun c hc => by have := rowText_signs g c hc; omega⟩
theorem cut_mem {z : Str} {lo hi : Option Int} {c : Nat} (h : c ∈ tl (cutS z lo hi)) : c ∈ tl z := by
  unfold cutS at h
  have h : c ∈ ((z.cps.toList.drop _).take _) := h
  exact List.mem_of_mem_drop (List.mem_of_mem_take h)
theorem cut_le (z : Str) (lo hi : Option Int) : (cutS z lo hi).length ≤ z.length := by
  rw [len_tl, len_tl z]
  unfold cutS
  show ((z.cps.toList.drop _).take _).length ≤ z.cps.toList.length
  rw [List.length_take, List.length_drop]
  omega
theorem app_len (a b : Str) : (a ++ b).length = a.length + b.length := by rw [len_tl, tl_append, List.length_append, ← len_tl, ← len_tl]
theorem app_ok {a b : Str} (h1 : PyData.strOk a = true) (h2 : PyData.strOk b = true) : PyData.strOk (a ++ b) = true := strOk_iff.mpr fun c hc => by
  rw [tl_append] at hc
  rcases List.mem_append.mp hc with hc | hc
  · exact strOk_iff.mp h1 c hc
  · exact strOk_iff.mp h2 c hc
theorem cut_ok {z : Str} {lo hi : Option Int} (h : PyData.strOk z = true) : PyData.strOk (cutS z lo hi) = true := strOk_iff.mpr fun c hc => strOk_iff.mp h c (cut_mem hc)
/-! ### the first row that tells none -/
def goodL (ls : List Str) (k : Nat) : Bool := match ls[k]? with
  | some w => (lineRow w).isSome
  | none => true
def badsOf (ls : List Str) : List Nat := (List.range ls.length).filter fun k => !goodL ls k
theorem bads_first (z : Str) : (badsOf (linesOf z) = [] ∧ ∀ w ∈ linesOf z, lineRow w ≠ none) ∨ ∃ i r, badsOf (linesOf z) = i :: r ∧ badAt z i := by
  generalize hb : badsOf (linesOf z) = bs
  unfold badAt
  generalize linesOf z = ls at hb
  unfold badsOf at hb
  cases bs with
  | nil =>
    refine .inl ⟨rfl, fun w hw e => ?_⟩
    obtain ⟨k, hk, hk2⟩ := List.getElem_of_mem hw
    have h1 := List.filter_eq_nil_iff.mp hb k (List.mem_range.mpr hk)
    have h2 : goodL ls k = false := by unfold goodL; rw [List.getElem?_eq_getElem hk, hk2]; simp only; rw [e]; rfl
    rw [h2] at h1
    exact h1 rfl
  | cons i r =>
    obtain ⟨l1, l2, e, h1, h2, _⟩ := List.filter_eq_cons_iff.mp hb
    have hl : l1.length < ls.length := by
      have := congrArg List.length e
      rw [List.length_range, List.length_append, List.length_cons] at this
      omega
    have at_ : ∀ j, j < ls.length → (l1 ++ i :: l2)[j]? = some j := fun j hj => by rw [← e, List.getElem?_range hj]
    have hi : l1.length = i := by
      have := at_ _ hl
      rw [List.getElem?_append_right (Nat.le_refl _), Nat.sub_self] at this
      exact (Option.some.inj this).symm
    have hgi : goodL ls i = false := by simpa using h2
    refine .inr ⟨i, r, rfl, ?_, fun j hj w hw e2 => ?_⟩
    · unfold goodL at hgi
      rw [List.getElem?_eq_getElem (by omega : i < ls.length)] at hgi ⊢
      refine ⟨_, rfl, ?_⟩
      simp only at hgi
      cases hr : lineRow ls[i] with
      | none => rfl
      | some r => rw [hr] at hgi; cases hgi
    · have hm : j ∈ l1 := by
        have := at_ j (by omega)
        rw [List.getElem?_append_left (by omega)] at this
        exact List.mem_of_getElem? this
      have h3 := h1 j hm
      have h4 : goodL ls j = false := by unfold goodL; rw [hw]; simp only; rw [e2]; rfl
      rw [h4] at h3
      exact h3 rfl
def sp_law (K : PySem.W.Frag) : Sp := fun vs H Q _ => ∃ (a : Addr) (ns : List Int), vs = [.ref a] ∧ SqL K H a (ns.map V.int) ∧ ns.length ≤ 63 ∧ Tab K H ∧ ∀ H', Q (.bl true) H'
theorem F_law_ok (T : Tx K mg) (B : Tb K mg base) {f : Addr} {fd : FuncData} (F : F_law K f fd) : FnOk P w K mg base CX0 48 f fd p_law (sp_law K) := by
  refine F.ok sc_law (fun vs H Q E h => ?_) (fun cdv A outer s H vs Q E hr h => ?_)
  · obtain ⟨a, ns, rfl, _⟩ := h; rfl
  · obtain ⟨a, ns, rfl, hS, hn, hT, q⟩ := h
    refine ⟨_, PSs.nox (pss_cons (ps_set (i := 1) sc_law.nd rfl (Or.inr rfl) (pe_callG (G_law_mix T) (hr.mono (by first | decide | omega)) (by rfl) pass0 (pa_cons (pv 0) (pa_cons pe_int pa_nil))))
      (pss_cutE (ps_set (i := 2) sc_law.nd rfl (Or.inl rfl) (pe_lst (pa_cons pe_str (pa_cons pe_str (pa_cons pe_str (pa_cons pe_str (pa_cons pe_str (pa_cons pe_str (pa_cons pe_str (pa_cons pe_str (pa_cons pe_str (pa_cons pe_str (pa_cons pe_str (pa_cons pe_str (pa_cons pe_str pa_nil)))))))))))))))
      (pss_cutE (ps_set (i := 2) sc_law.nd rfl (Or.inl rfl) (pe_op op_cat (pv 2) (pe_lst (pa_cons pe_str (pa_cons pe_str (pa_cons pe_str (pa_cons pe_str (pa_cons pe_str (pa_cons pe_str (pa_cons pe_str (pa_cons pe_str pa_nil)))))))))))
      (pss_cutE (ps_set (i := 2) sc_law.nd rfl (Or.inl rfl) (pe_op op_cat (pv 2) (pe_lst (pa_cons pe_str (pa_cons pe_str (pa_cons pe_str (pa_cons pe_str (pa_cons pe_str (pa_cons pe_str pa_nil)))))))))
      (pss_cutE (ps_set (i := 2) sc_law.nd rfl (Or.inl rfl) (pe_op op_cat (pv 2) (pe_lst (pa_cons pe_str (pa_cons pe_str pa_nil)))))
      (pss_cutE (ps_set (i := 2) sc_law.nd rfl (Or.inl rfl) (pe_op op_cat (pv 2) (pe_lst (pa_cons pe_str (pa_cons pe_str (pa_cons pe_str (pa_cons pe_str (pa_cons pe_str (pa_cons pe_str (pa_cons pe_str pa_nil))))))))))
      (pss_cons (ps_for PassesOwn.never rfl (pi_range1 (by rfl) T.b_range (pa_cons pe_int pa_nil)) (pg_name (i := 3) sc_law.nd rfl (Or.inl rfl))
      (pss_cutE (ps_setLc (i := 4) (own := [("_law_k", 5)]) (g := (gName 5)) (tt := tYes) rfl sc_law.nd rfl rfl (sw_true rfl rfl rfl (by kernel_rfl)) (pi_range1 (by rfl) T.b_range (pa_cons (pe_callG (G_law_next T) (hr.mono (by first | decide | omega)) (by rfl) pass0 (pa_cons (pv 1) (pa_cons pe_int pa_nil))) pa_nil)) (blkOk_by (by kernel_rfl)) (fun _ _ _ _ _ => (pg_name (i := 5) sc_law.nd rfl (Or.inl rfl))) (fun _ _ _ _ _ => pts_nil) (fun _ _ _ _ _ => (pe_callG (G_law_text T) (hr.mono (by first | decide | omega)) (by rfl) pass0 (pa_cons (pe_callG (G_law_row T) (hr.mono (by first | decide | omega)) (by rfl) pass0 (pa_cons (pv 1) pa_nil)) pa_nil))))
      (pss_cons (ps_set (i := 6) sc_law.nd rfl (Or.inl rfl) (pe_callG (G_law_next T) (hr.mono (by first | decide | omega)) (by rfl) pass0 (pa_cons (pv 1) (pa_cons (pe_op op_add (pe_callB (call_len_seqK (K := K) rfl) (by rfl) T.b_len (by decide +kernel) (pa_cons (pv 4) pa_nil)) pe_int) pa_nil))))
      (pss_cutE (ps_set (i := 7) sc_law.nd rfl (Or.inl rfl) (pe_op op_cat (pe_op op_cat (pe_slice (sl_listK (K := K) rfl) (pv 4) po_none (po_some (pv 6))) (pe_lst (pa_cons (pe_ix (ix_listK (K := K) rfl) (pv 2) (pe_callG (G_law_next T) (hr.mono (by first | decide | omega)) (by rfl) pass0 (pa_cons (pv 1) (pa_cons (pe_callB (call_len_seqK (K := K) rfl) (by rfl) T.b_len (by decide +kernel) (pa_cons (pv 2) pa_nil)) pa_nil))) (fun _ _ => rfl)) pa_nil))) (pe_slice (sl_listK (K := K) rfl) (pv 4) (po_some (pv 6)) po_none)))
      (pss_cutE (ps_set (i := 8) sc_law.nd rfl (Or.inl rfl) (pe_joinK (K := K) rfl pe_str (pv 7)))
      (pss_cons (ps_set (i := 9) sc_law.nd rfl (Or.inl rfl) (pe_callG (G_law_next T) (hr.mono (by first | decide | omega)) (by rfl) pass0 (pa_cons (pv 1) (pa_cons (pe_op op_add (pe_callB call_len_str (by rfl) T.b_len (by decide +kernel) (pa_cons (pv 8) pa_nil)) pe_int) pa_nil))))
      (pss_cutE (ps_set (i := 10) sc_law.nd rfl (Or.inl rfl) (pe_op op_add_str (pe_op op_add_str (pe_slice sl_str (pv 8) po_none (po_some (pv 9))) (pe_item_str pe_str (pe_callG (G_law_next T) (hr.mono (by first | decide | omega)) (by rfl) pass0 (pa_cons (pv 1) (pa_cons pe_int pa_nil))) (fun _ _ => rfl))) (pe_slice sl_str (pv 8) (po_some (pe_op op_add (pv 9) (pe_callG (G_law_next T) (hr.mono (by first | decide | omega)) (by rfl) pass0 (pa_cons (pv 1) (pa_cons pe_int pa_nil))))) po_none)))
      (pss_cutE (ps_set (i := 11) sc_law.nd rfl (Or.inl rfl) (pe_lst (pa_cons (pv 8) (pa_cons (pe_op op_add_str (pv 8) pe_str) (pa_cons (pe_op op_add_str pe_str (pv 8)) (pa_cons (pv 10) pa_nil))))))
      (pss_one (ps_for PassesOwn.never rfl (pi_listK (K := K) rfl (pv 11)) (pg_name (i := 12) sc_law.nd rfl (Or.inl rfl))
      (pss_cutE (ps_set (i := 13) sc_law.nd rfl (Or.inr rfl) (pe_ifExp (pt_cmpR op_ne (pv 12) pe_str (nomark _)) (pe_split (pv 12) pe_str) (pe_lst pa_nil)))
      (pss_cutE (ps_setLc (i := 14) (own := [("_law_k", 5)]) (g := (gName 5)) rfl sc_law.nd rfl rfl (sw_true rfl rfl rfl (by kernel_rfl)) (pi_range1 (by rfl) T.b_range (pa_cons (pe_callB (call_len_seqK (K := K) rfl) (by rfl) T.b_len (by decide +kernel) (pa_cons (pv 13) pa_nil)) pa_nil)) (blkOk_by (by kernel_rfl)) (fun _ _ _ _ _ => (pg_name (i := 5) sc_law.nd rfl (Or.inl rfl))) (fun _ _ _ _ _ => (pts_one (pt_not (pt_val (pe_callG (G_law_is_row T) (hr.mono (by first | decide | omega)) (by rfl) pass0 (pa_cons (pe_ix (ix_listK (K := K) rfl) (pv 13) (pv 5) (fun _ _ => rfl)) pa_nil)))))) (fun _ _ _ _ _ => (pv 5)))
      (pss_one (ps_if (pt_not (pt_val (pe_callG (G_law_alike T 1) (hr.mono (by first | decide | omega)) (by rfl) pass0 (pa_cons (pe_callG (G_law_refused T B) (hr.mono (by first | decide | omega)) (by rfl) pass0 (pa_cons (pv 12) pa_nil)) (pa_cons (pe_ix (ix_listK (K := K) rfl) (pe_op op_cat (pv 14) (pe_lst (pa_cons (pe_un un_neg pe_int) pa_nil))) pe_int (fun _ _ => rfl)) pa_nil)))))
      (pss_one (ps_ret pe_bl))
      pss_nil))))))))))))))
      (pss_one (ps_ret pe_bl))))))))), ?_⟩
    simp only [tCutE, tIfE, false_and, exists_false, false_or, or_false, tRet, tRetN, tAndV, tOrV, tNotV, tChain, rI, rI0, rU, tC, tCB, tCons, tNil, tVar, tOp, tUn, tTest, tB, tAnd, tOr, tNot, tIf, tIfS, tSeq, tAsg, tDrop, tNext, tDIn, tDNotIn, tDPop1, gName, gTup_ref, gCons_cons, gNil_nil, and_assoc, tYes, wipe, rEq, rNe, scal_ss, scal_ii, scal_bb, scal_ns, scal_sn, scal_nn, scal_in, scal_ni, tLc_eq, tFor_eq, iList, iTup, iStr, iRng1, iRng2, iZip, iEnum, gSub, tSl, rSetL_ref, rCat_ref, rRep_ref, rJoin_ref, rSlL_ref, rSlS_ref, rMulS_ref, rIxL_ref, rIxT_ref, rLenK_ref, rAll_ref, rIn_ref, tLst, tTup, tPar, tPar3, tAug, tPart, tNoPart, tCall, List.getElem?_cons_zero, List.getElem?_cons_succ, List.set_cons_zero, List.set_cons_succ, List.map_cons, List.map_nil, List.append_nil, List.nil_append, List.cons_append, Option.some.injEq, exists_eq_left', exists_eq_left, exists_eq_right, exists_eq_right', exists_eq', V.int.injEq, V.str.injEq, V.bl.injEq, V.ref.injEq, List.cons.injEq, tM0, tM1, rNewStrs, sgn_eq, split_dot, split_sp, split_nl, dot_len, sp_len, nl_len, cxOf_K, L2.start, List.length_cons, List.length_nil, List.replicate_succ, List.replicate_zero, Nat.reduceSub, Nat.zero_add, and_true, true_and, and_self, exists_and_left, exists_const, Bool.false_eq_true, if_false, if_true, ite_true, ite_false, reduceIte, decide_eq_true_eq, reduceCtorEq, Nat.reduceAdd, Nat.reduceLT, L2H.iEnumN, cxH_K, cxH_prog, cxH_w, cxH_mg, cxH_base, tCallVSH, tVeI, tOst, tWhy, tXf, tCallS, tCallX, tLam1, tListZip, tCallX, tCallXU, tCallV, tCallVS, tLam1, tLamD, tCallS, tCls, tClsD, cx_cells, cx_scope, cx_N, cx_prog, cx_w, cx_base, cx_mg, cx_qual]
    refine ⟨a, ns, 73, rfl, hS, hn, by decide, by decide, fun H1 h l s1 hh hl S1 => ?_⟩
    simp only [tCutE, tIfE, false_and, exists_false, false_or, or_false, tRet, tRetN, tAndV, tOrV, tNotV, tChain, rI, rI0, rU, tC, tCB, tCons, tNil, tVar, tOp, tUn, tTest, tB, tAnd, tOr, tNot, tIf, tIfS, tSeq, tAsg, tDrop, tNext, tDIn, tDNotIn, tDPop1, gName, gTup_ref, gCons_cons, gNil_nil, and_assoc, tYes, wipe, rEq, rNe, scal_ss, scal_ii, scal_bb, scal_ns, scal_sn, scal_nn, scal_in, scal_ni, tLc_eq, tFor_eq, iList, iTup, iStr, iRng1, iRng2, iZip, iEnum, gSub, tSl, rSetL_ref, rCat_ref, rRep_ref, rJoin_ref, rSlL_ref, rSlS_ref, rMulS_ref, rIxL_ref, rIxT_ref, rLenK_ref, rAll_ref, rIn_ref, tLst, tTup, tPar, tPar3, tAug, tPart, tNoPart, tCall, List.getElem?_cons_zero, List.getElem?_cons_succ, List.set_cons_zero, List.set_cons_succ, List.map_cons, List.map_nil, List.append_nil, List.nil_append, List.cons_append, Option.some.injEq, exists_eq_left', exists_eq_left, exists_eq_right, exists_eq_right', exists_eq', V.int.injEq, V.str.injEq, V.bl.injEq, V.ref.injEq, List.cons.injEq, tM0, tM1, rNewStrs, sgn_eq, split_dot, split_sp, split_nl, dot_len, sp_len, nl_len, cxOf_K, L2.start, List.length_cons, List.length_nil, List.replicate_succ, List.replicate_zero, Nat.reduceSub, Nat.zero_add, and_true, true_and, and_self, exists_and_left, exists_const, Bool.false_eq_true, if_false, if_true, ite_true, ite_false, reduceIte, decide_eq_true_eq, reduceCtorEq, Nat.reduceAdd, Nat.reduceLT, L2H.iEnumN, cxH_K, cxH_prog, cxH_w, cxH_mg, cxH_base, tCallVSH, tVeI, tOst, tWhy, tXf, tCallS, tCallX, tLam1, tListZip, tCallX, tCallXU, tCallV, tCallVS, tLam1, tLamD, tCallS, tCls, tClsD, cx_cells, cx_scope, cx_N, cx_prog, cx_w, cx_base, cx_mg, cx_qual]
    have T1 := hT.ext s1
    refine ⟨by decide, RO a h 13 H1 [none, none, none, none, none, none, none, none, none, none, none, none], odd_new (by decide) (by decide) (by decide +kernel) fun p H' hO => ⟨p, rfl, hO⟩, fun σ H2 h2 => ?_⟩
    obtain ⟨O, rfl, hO⟩ := h2
    refine ⟨RO a h 26 H1 [none, none, none, none, none, none, none, none, none, none, none, none], ⟨_, rfl, ?_⟩, fun σ H3 h3 => ?_⟩
    · simp only [tCutE, tIfE, false_and, exists_false, false_or, or_false, tRet, tRetN, tAndV, tOrV, tNotV, tChain, rI, rI0, rU, tC, tCB, tCons, tNil, tVar, tOp, tUn, tTest, tB, tAnd, tOr, tNot, tIf, tIfS, tSeq, tAsg, tDrop, tNext, tDIn, tDNotIn, tDPop1, gName, gTup_ref, gCons_cons, gNil_nil, and_assoc, tYes, wipe, rEq, rNe, scal_ss, scal_ii, scal_bb, scal_ns, scal_sn, scal_nn, scal_in, scal_ni, tLc_eq, tFor_eq, iList, iTup, iStr, iRng1, iRng2, iZip, iEnum, gSub, tSl, rSetL_ref, rCat_ref, rRep_ref, rJoin_ref, rSlL_ref, rSlS_ref, rMulS_ref, rIxL_ref, rIxT_ref, rLenK_ref, rAll_ref, rIn_ref, tLst, tTup, tPar, tPar3, tAug, tPart, tNoPart, tCall, List.getElem?_cons_zero, List.getElem?_cons_succ, List.set_cons_zero, List.set_cons_succ, List.map_cons, List.map_nil, List.append_nil, List.nil_append, List.cons_append, Option.some.injEq, exists_eq_left', exists_eq_left, exists_eq_right, exists_eq_right', exists_eq', V.int.injEq, V.str.injEq, V.bl.injEq, V.ref.injEq, List.cons.injEq, tM0, tM1, rNewStrs, sgn_eq, split_dot, split_sp, split_nl, dot_len, sp_len, nl_len, cxOf_K, L2.start, List.length_cons, List.length_nil, List.replicate_succ, List.replicate_zero, Nat.reduceSub, Nat.zero_add, and_true, true_and, and_self, exists_and_left, exists_const, Bool.false_eq_true, if_false, if_true, ite_true, ite_false, reduceIte, decide_eq_true_eq, reduceCtorEq, Nat.reduceAdd, Nat.reduceLT, L2H.iEnumN, cxH_K, cxH_prog, cxH_w, cxH_mg, cxH_base, tCallVSH, tVeI, tOst, tWhy, tXf, tCallS, tCallX, tLam1, tListZip, tCallX, tCallXU, tCallV, tCallVS, tLam1, tLamD, tCallS, tCls, tClsD, cx_cells, cx_scope, cx_N, cx_prog, cx_w, cx_base, cx_mg, cx_qual]
      exact ⟨by decide, odd_cat hO (by decide) (by decide) (by decide +kernel) fun p H' hO => ⟨p, rfl, hO⟩⟩
    clear hO
    obtain ⟨O, rfl, hO⟩ := h3
    refine ⟨RO a h 39 H1 [none, none, none, none, none, none, none, none, none, none, none, none], ⟨_, rfl, ?_⟩, fun σ H4 h4 => ?_⟩
    · simp only [tCutE, tIfE, false_and, exists_false, false_or, or_false, tRet, tRetN, tAndV, tOrV, tNotV, tChain, rI, rI0, rU, tC, tCB, tCons, tNil, tVar, tOp, tUn, tTest, tB, tAnd, tOr, tNot, tIf, tIfS, tSeq, tAsg, tDrop, tNext, tDIn, tDNotIn, tDPop1, gName, gTup_ref, gCons_cons, gNil_nil, and_assoc, tYes, wipe, rEq, rNe, scal_ss, scal_ii, scal_bb, scal_ns, scal_sn, scal_nn, scal_in, scal_ni, tLc_eq, tFor_eq, iList, iTup, iStr, iRng1, iRng2, iZip, iEnum, gSub, tSl, rSetL_ref, rCat_ref, rRep_ref, rJoin_ref, rSlL_ref, rSlS_ref, rMulS_ref, rIxL_ref, rIxT_ref, rLenK_ref, rAll_ref, rIn_ref, tLst, tTup, tPar, tPar3, tAug, tPart, tNoPart, tCall, List.getElem?_cons_zero, List.getElem?_cons_succ, List.set_cons_zero, List.set_cons_succ, List.map_cons, List.map_nil, List.append_nil, List.nil_append, List.cons_append, Option.some.injEq, exists_eq_left', exists_eq_left, exists_eq_right, exists_eq_right', exists_eq', V.int.injEq, V.str.injEq, V.bl.injEq, V.ref.injEq, List.cons.injEq, tM0, tM1, rNewStrs, sgn_eq, split_dot, split_sp, split_nl, dot_len, sp_len, nl_len, cxOf_K, L2.start, List.length_cons, List.length_nil, List.replicate_succ, List.replicate_zero, Nat.reduceSub, Nat.zero_add, and_true, true_and, and_self, exists_and_left, exists_const, Bool.false_eq_true, if_false, if_true, ite_true, ite_false, reduceIte, decide_eq_true_eq, reduceCtorEq, Nat.reduceAdd, Nat.reduceLT, L2H.iEnumN, cxH_K, cxH_prog, cxH_w, cxH_mg, cxH_base, tCallVSH, tVeI, tOst, tWhy, tXf, tCallS, tCallX, tLam1, tListZip, tCallX, tCallXU, tCallV, tCallVS, tLam1, tLamD, tCallS, tCls, tClsD, cx_cells, cx_scope, cx_N, cx_prog, cx_w, cx_base, cx_mg, cx_qual]
      exact ⟨by decide, odd_cat hO (by decide) (by decide) (by decide +kernel) fun p H' hO => ⟨p, rfl, hO⟩⟩
    clear hO
    obtain ⟨O, rfl, hO⟩ := h4
    refine ⟨RO a h 52 H1 [none, none, none, none, none, none, none, none, none, none, none, none], ⟨_, rfl, ?_⟩, fun σ H5 h5 => ?_⟩
    · simp only [tCutE, tIfE, false_and, exists_false, false_or, or_false, tRet, tRetN, tAndV, tOrV, tNotV, tChain, rI, rI0, rU, tC, tCB, tCons, tNil, tVar, tOp, tUn, tTest, tB, tAnd, tOr, tNot, tIf, tIfS, tSeq, tAsg, tDrop, tNext, tDIn, tDNotIn, tDPop1, gName, gTup_ref, gCons_cons, gNil_nil, and_assoc, tYes, wipe, rEq, rNe, scal_ss, scal_ii, scal_bb, scal_ns, scal_sn, scal_nn, scal_in, scal_ni, tLc_eq, tFor_eq, iList, iTup, iStr, iRng1, iRng2, iZip, iEnum, gSub, tSl, rSetL_ref, rCat_ref, rRep_ref, rJoin_ref, rSlL_ref, rSlS_ref, rMulS_ref, rIxL_ref, rIxT_ref, rLenK_ref, rAll_ref, rIn_ref, tLst, tTup, tPar, tPar3, tAug, tPart, tNoPart, tCall, List.getElem?_cons_zero, List.getElem?_cons_succ, List.set_cons_zero, List.set_cons_succ, List.map_cons, List.map_nil, List.append_nil, List.nil_append, List.cons_append, Option.some.injEq, exists_eq_left', exists_eq_left, exists_eq_right, exists_eq_right', exists_eq', V.int.injEq, V.str.injEq, V.bl.injEq, V.ref.injEq, List.cons.injEq, tM0, tM1, rNewStrs, sgn_eq, split_dot, split_sp, split_nl, dot_len, sp_len, nl_len, cxOf_K, L2.start, List.length_cons, List.length_nil, List.replicate_succ, List.replicate_zero, Nat.reduceSub, Nat.zero_add, and_true, true_and, and_self, exists_and_left, exists_const, Bool.false_eq_true, if_false, if_true, ite_true, ite_false, reduceIte, decide_eq_true_eq, reduceCtorEq, Nat.reduceAdd, Nat.reduceLT, L2H.iEnumN, cxH_K, cxH_prog, cxH_w, cxH_mg, cxH_base, tCallVSH, tVeI, tOst, tWhy, tXf, tCallS, tCallX, tLam1, tListZip, tCallX, tCallXU, tCallV, tCallVS, tLam1, tLamD, tCallS, tCls, tClsD, cx_cells, cx_scope, cx_N, cx_prog, cx_w, cx_base, cx_mg, cx_qual]
      exact ⟨by decide, odd_cat hO (by decide) (by decide) (by decide +kernel) fun p H' hO => ⟨p, rfl, hO⟩⟩
    clear hO
    obtain ⟨O, rfl, hO⟩ := h5
    refine ⟨RO a h 65 H1 [none, none, none, none, none, none, none, none, none, none, none, none], ⟨_, rfl, ?_⟩, fun σ H6 h6 => ?_⟩
    · simp only [tCutE, tIfE, false_and, exists_false, false_or, or_false, tRet, tRetN, tAndV, tOrV, tNotV, tChain, rI, rI0, rU, tC, tCB, tCons, tNil, tVar, tOp, tUn, tTest, tB, tAnd, tOr, tNot, tIf, tIfS, tSeq, tAsg, tDrop, tNext, tDIn, tDNotIn, tDPop1, gName, gTup_ref, gCons_cons, gNil_nil, and_assoc, tYes, wipe, rEq, rNe, scal_ss, scal_ii, scal_bb, scal_ns, scal_sn, scal_nn, scal_in, scal_ni, tLc_eq, tFor_eq, iList, iTup, iStr, iRng1, iRng2, iZip, iEnum, gSub, tSl, rSetL_ref, rCat_ref, rRep_ref, rJoin_ref, rSlL_ref, rSlS_ref, rMulS_ref, rIxL_ref, rIxT_ref, rLenK_ref, rAll_ref, rIn_ref, tLst, tTup, tPar, tPar3, tAug, tPart, tNoPart, tCall, List.getElem?_cons_zero, List.getElem?_cons_succ, List.set_cons_zero, List.set_cons_succ, List.map_cons, List.map_nil, List.append_nil, List.nil_append, List.cons_append, Option.some.injEq, exists_eq_left', exists_eq_left, exists_eq_right, exists_eq_right', exists_eq', V.int.injEq, V.str.injEq, V.bl.injEq, V.ref.injEq, List.cons.injEq, tM0, tM1, rNewStrs, sgn_eq, split_dot, split_sp, split_nl, dot_len, sp_len, nl_len, cxOf_K, L2.start, List.length_cons, List.length_nil, List.replicate_succ, List.replicate_zero, Nat.reduceSub, Nat.zero_add, and_true, true_and, and_self, exists_and_left, exists_const, Bool.false_eq_true, if_false, if_true, ite_true, ite_false, reduceIte, decide_eq_true_eq, reduceCtorEq, Nat.reduceAdd, Nat.reduceLT, L2H.iEnumN, cxH_K, cxH_prog, cxH_w, cxH_mg, cxH_base, tCallVSH, tVeI, tOst, tWhy, tXf, tCallS, tCallX, tLam1, tListZip, tCallX, tCallXU, tCallV, tCallVS, tLam1, tLamD, tCallS, tCls, tClsD, cx_cells, cx_scope, cx_N, cx_prog, cx_w, cx_base, cx_mg, cx_qual]
      exact ⟨by decide, odd_cat hO (by decide) (by decide) (by decide +kernel) fun p H' hO => ⟨p, rfl, hO⟩⟩
    clear hO
    obtain ⟨O, rfl, hO⟩ := h6
    obtain ⟨s2, nO1, vs, hvs, hv1, hv2, hv3⟩ := hO
    have nO : ¬ DrS h l O := S1.nD nO1
    obtain ⟨Pv, hPv⟩ : ∃ Pv : Nat → L2.St → Hp → Prop, ∀ i σ H', Pv i σ H' ↔ ∃ c3 c4 c5 c6 c7 c8 c9 d0 d1 d2 d3 d4, σ = [some (.ref a), some (.ref h), some (.ref O), c3, c4, c5, c6, c7, c8, c9, d0, d1, d2, d3, d4] ∧ StK K h l O vs H' := ⟨_, fun _ _ _ => Iff.rfl⟩
    refine ⟨by decide, by decide, forG walk_range Pv ((hPv _ _ _).mpr ⟨_, _, _, _, _, _, _, _, _, _, _, _, rfl, S1.same s2, T1.ext s2, hvs, nO⟩) (fun _ _ _ _ _ => trivial) (fun i x σ Ha Hb hi hP hy => ?_) (fun σ Ha hP => ?_)⟩
    rotate_left
    · obtain ⟨c3, c4, c5, c6, c7, c8, c9, d0, d1, d2, d3, d4, rfl, _⟩ := (hPv _ _ _).mp hP
      simp only [tCutE, tIfE, false_and, exists_false, false_or, or_false, tRet, tRetN, tAndV, tOrV, tNotV, tChain, rI, rI0, rU, tC, tCB, tCons, tNil, tVar, tOp, tUn, tTest, tB, tAnd, tOr, tNot, tIf, tIfS, tSeq, tAsg, tDrop, tNext, tDIn, tDNotIn, tDPop1, gName, gTup_ref, gCons_cons, gNil_nil, and_assoc, tYes, wipe, rEq, rNe, scal_ss, scal_ii, scal_bb, scal_ns, scal_sn, scal_nn, scal_in, scal_ni, tLc_eq, tFor_eq, iList, iTup, iStr, iRng1, iRng2, iZip, iEnum, gSub, tSl, rSetL_ref, rCat_ref, rRep_ref, rJoin_ref, rSlL_ref, rSlS_ref, rMulS_ref, rIxL_ref, rIxT_ref, rLenK_ref, rAll_ref, rIn_ref, tLst, tTup, tPar, tPar3, tAug, tPart, tNoPart, tCall, List.getElem?_cons_zero, List.getElem?_cons_succ, List.set_cons_zero, List.set_cons_succ, List.map_cons, List.map_nil, List.append_nil, List.nil_append, List.cons_append, Option.some.injEq, exists_eq_left', exists_eq_left, exists_eq_right, exists_eq_right', exists_eq', V.int.injEq, V.str.injEq, V.bl.injEq, V.ref.injEq, List.cons.injEq, tM0, tM1, rNewStrs, sgn_eq, split_dot, split_sp, split_nl, dot_len, sp_len, nl_len, cxOf_K, L2.start, List.length_cons, List.length_nil, List.replicate_succ, List.replicate_zero, Nat.reduceSub, Nat.zero_add, and_true, true_and, and_self, exists_and_left, exists_const, Bool.false_eq_true, if_false, if_true, ite_true, ite_false, reduceIte, decide_eq_true_eq, reduceCtorEq, Nat.reduceAdd, Nat.reduceLT, L2H.iEnumN, cxH_K, cxH_prog, cxH_w, cxH_mg, cxH_base, tCallVSH, tVeI, tOst, tWhy, tXf, tCallS, tCallX, tLam1, tListZip, tCallX, tCallXU, tCallV, tCallVS, tLam1, tLamD, tCallS, tCls, tClsD, cx_cells, cx_scope, cx_N, cx_prog, cx_w, cx_base, cx_mg, cx_qual]
      exact q _
    obtain ⟨rfl, rfl⟩ := hy
    obtain ⟨c3, c4, c5, c6, c7, c8, c9, d0, d1, d2, d3, d4, rfl, Z⟩ := (hPv _ _ _).mp hP
    clear hP S1 T1 s1 hh hl hT hS
    simp only [tCutE, tIfE, false_and, exists_false, false_or, or_false, tRet, tRetN, tAndV, tOrV, tNotV, tChain, rI, rI0, rU, tC, tCB, tCons, tNil, tVar, tOp, tUn, tTest, tB, tAnd, tOr, tNot, tIf, tIfS, tSeq, tAsg, tDrop, tNext, tDIn, tDNotIn, tDPop1, gName, gTup_ref, gCons_cons, gNil_nil, and_assoc, tYes, wipe, rEq, rNe, scal_ss, scal_ii, scal_bb, scal_ns, scal_sn, scal_nn, scal_in, scal_ni, tLc_eq, tFor_eq, iList, iTup, iStr, iRng1, iRng2, iZip, iEnum, gSub, tSl, rSetL_ref, rCat_ref, rRep_ref, rJoin_ref, rSlL_ref, rSlS_ref, rMulS_ref, rIxL_ref, rIxT_ref, rLenK_ref, rAll_ref, rIn_ref, tLst, tTup, tPar, tPar3, tAug, tPart, tNoPart, tCall, List.getElem?_cons_zero, List.getElem?_cons_succ, List.set_cons_zero, List.set_cons_succ, List.map_cons, List.map_nil, List.append_nil, List.nil_append, List.cons_append, Option.some.injEq, exists_eq_left', exists_eq_left, exists_eq_right, exists_eq_right', exists_eq', V.int.injEq, V.str.injEq, V.bl.injEq, V.ref.injEq, List.cons.injEq, tM0, tM1, rNewStrs, sgn_eq, split_dot, split_sp, split_nl, dot_len, sp_len, nl_len, cxOf_K, L2.start, List.length_cons, List.length_nil, List.replicate_succ, List.replicate_zero, Nat.reduceSub, Nat.zero_add, and_true, true_and, and_self, exists_and_left, exists_const, Bool.false_eq_true, if_false, if_true, ite_true, ite_false, reduceIte, decide_eq_true_eq, reduceCtorEq, Nat.reduceAdd, Nat.reduceLT, L2H.iEnumN, cxH_K, cxH_prog, cxH_w, cxH_mg, cxH_base, tCallVSH, tVeI, tOst, tWhy, tXf, tCallS, tCallX, tLam1, tListZip, tCallX, tCallXU, tCallV, tCallVS, tLam1, tLamD, tCallS, tCls, tClsD, cx_cells, cx_scope, cx_N, cx_prog, cx_w, cx_base, cx_mg, cx_qual]
    obtain ⟨R1, hR1⟩ : ∃ R : L2.St → Hp → Prop, ∀ σ H', R σ H' ↔ ∃ (D : Addr) (ts : List Str) (c5 : Option V), σ = [some (.ref a), some (.ref h), some (.ref O), some (.int (0 + (i : Int))), some (.ref D), c5, c6, c7, c8, c9, d0, d1, d2, d3, d4] ∧ StK K h l O vs H' ∧ ¬ DrS h l D ∧ H' D = some (.lst (ts.map V.str)) ∧ ts.length ≤ 5 ∧ ∀ t ∈ ts, okW t := ⟨_, fun _ _ => Iff.rfl⟩
    obtain ⟨R2, hR2⟩ : ∃ R : L2.St → Hp → Prop, ∀ σ H', R σ H' ↔ ∃ (D : Addr) (ts : List Str) (c4 c5 c6 : Option V), σ = [some (.ref a), some (.ref h), some (.ref O), some (.int (0 + (i : Int))), c4, c5, c6, some (.ref D), c8, c9, d0, d1, d2, d3, d4] ∧ StK K h l O vs H' ∧ H' D = some (.lst (ts.map V.str)) ∧ ts.length ≤ 6 ∧ ∀ t ∈ ts, okW t := ⟨_, fun _ _ => Iff.rfl⟩
    obtain ⟨R3, hR3⟩ : ∃ R : L2.St → Hp → Prop, ∀ σ H', R σ H' ↔ ∃ (z : Str) (c4 c5 c6 c7 : Option V), σ = [some (.ref a), some (.ref h), some (.ref O), some (.int (0 + (i : Int))), c4, c5, c6, c7, some (.str z), c9, d0, d1, d2, d3, d4] ∧ StK K h l O vs H' ∧ z.length ≤ 4300 ∧ PyData.strOk z = true := ⟨_, fun _ _ => Iff.rfl⟩
    obtain ⟨R4, hR4⟩ : ∃ R : L2.St → Hp → Prop, ∀ σ H', R σ H' ↔ ∃ (z b : Str) (c4 c5 c6 c7 c9 : Option V), σ = [some (.ref a), some (.ref h), some (.ref O), some (.int (0 + (i : Int))), c4, c5, c6, c7, some (.str z), c9, some (.str b), d1, d2, d3, d4] ∧ StK K h l O vs H' ∧ (z.length ≤ 4300 ∧ PyData.strOk z = true) ∧ b.length ≤ 8601 ∧ PyData.strOk b = true := ⟨_, fun _ _ => Iff.rfl⟩
    obtain ⟨R5, hR5⟩ : ∃ R : L2.St → Hp → Prop, ∀ σ H', R σ H' ↔ ∃ (D : Addr) (ts : List Str) (c4 c5 c6 c7 c8 c9 d0 : Option V), σ = [some (.ref a), some (.ref h), some (.ref O), some (.int (0 + (i : Int))), c4, c5, c6, c7, c8, c9, d0, some (.ref D), d2, d3, d4] ∧ StK K h l O vs H' ∧ H' D = some (.lst (ts.map V.str)) ∧ ts.length = 4 ∧ ∀ t ∈ ts, t.length ≤ 8601 ∧ PyData.strOk t = true := ⟨_, fun _ _ => Iff.rfl⟩
    refine ⟨R1, ?_, fun σ1 H7 h7 => ?_⟩
    · refine ⟨h, l, 6, rfl, Z.src, by decide, by decide, fun H7 r7 x7 S7 h70 h71 => ⟨_, rfl, by omega, by omega, ?_⟩⟩
      refine lc_acc walk_range (DrS h l) (fun H => SrcOk H h l) (fun i acc => ∃ ts : List Str, acc = ts.map V.str ∧ ts.length = i ∧ ∀ t ∈ ts, okW t) (smallLt (by omega)) (fun D nD => S7.nD nD) ⟨[], rfl, rfl, fun _ h => nomatch h⟩ S7 (fun D H o nD s => s.put (S7.neD nD).1 (S7.neD nD).2) (fun _ _ _ => trivial) (fun j y Hc Hd acc R hj xc Sc pc hy q0 q1 => ?_) (fun D acc Hc nD pc lc xc Sc hD => ?_)
      · obtain ⟨rfl, rfl⟩ := hy
        obtain ⟨ts, rfl, htl, hts⟩ := pc
        simp only [tCutE, tIfE, false_and, exists_false, false_or, or_false, tRet, tRetN, tAndV, tOrV, tNotV, tChain, rI, rI0, rU, tC, tCB, tCons, tNil, tVar, tOp, tUn, tTest, tB, tAnd, tOr, tNot, tIf, tIfS, tSeq, tAsg, tDrop, tNext, tDIn, tDNotIn, tDPop1, gName, gTup_ref, gCons_cons, gNil_nil, and_assoc, tYes, wipe, rEq, rNe, scal_ss, scal_ii, scal_bb, scal_ns, scal_sn, scal_nn, scal_in, scal_ni, tLc_eq, tFor_eq, iList, iTup, iStr, iRng1, iRng2, iZip, iEnum, gSub, tSl, rSetL_ref, rCat_ref, rRep_ref, rJoin_ref, rSlL_ref, rSlS_ref, rMulS_ref, rIxL_ref, rIxT_ref, rLenK_ref, rAll_ref, rIn_ref, tLst, tTup, tPar, tPar3, tAug, tPart, tNoPart, tCall, List.getElem?_cons_zero, List.getElem?_cons_succ, List.set_cons_zero, List.set_cons_succ, List.map_cons, List.map_nil, List.append_nil, List.nil_append, List.cons_append, Option.some.injEq, exists_eq_left', exists_eq_left, exists_eq_right, exists_eq_right', exists_eq', V.int.injEq, V.str.injEq, V.bl.injEq, V.ref.injEq, List.cons.injEq, tM0, tM1, rNewStrs, sgn_eq, split_dot, split_sp, split_nl, dot_len, sp_len, nl_len, cxOf_K, L2.start, List.length_cons, List.length_nil, List.replicate_succ, List.replicate_zero, Nat.reduceSub, Nat.zero_add, and_true, true_and, and_self, exists_and_left, exists_const, Bool.false_eq_true, if_false, if_true, ite_true, ite_false, reduceIte, decide_eq_true_eq, reduceCtorEq, Nat.reduceAdd, Nat.reduceLT, L2H.iEnumN, cxH_K, cxH_prog, cxH_w, cxH_mg, cxH_base, tCallVSH, tVeI, tOst, tWhy, tXf, tCallS, tCallX, tLam1, tListZip, tCallX, tCallXU, tCallV, tCallVS, tLam1, tLamD, tCallS, tCls, tClsD, cx_cells, cx_scope, cx_N, cx_prog, cx_w, cx_base, cx_mg, cx_qual]
        refine ⟨h, l, rfl, Sc, fun H8 t r x8 S8 gr ht0 ht8 => ⟨t, r, rfl, ht8, gr, fun H9 s9 => q1 _ _ (x8.trans (.of_same s9)) (S8.same s9) ⟨ts ++ [rowText r], by rw [List.map_append]; rfl, by rw [List.length_append, htl]; rfl, fun t ht => ?_⟩⟩⟩
        rcases List.mem_append.mp ht with ht | ht
        · exact hts t ht
        · rw [List.mem_singleton.mp ht]; exact okW_row gr
      · obtain ⟨ts, rfl, htl, hts⟩ := pc
        exact (hR1 _ _).mpr ⟨D, ts, _, rfl, Z.draw (x7.trans xc) Sc, S7.nD nD, hD, by omega, hts⟩
    obtain ⟨D, ts, c5', rfl, Z7, nD, hD, htl, hts⟩ := (hR1 _ _).mp h7
    clear h7
    simp only [tCutE, tIfE, false_and, exists_false, false_or, or_false, tRet, tRetN, tAndV, tOrV, tNotV, tChain, rI, rI0, rU, tC, tCB, tCons, tNil, tVar, tOp, tUn, tTest, tB, tAnd, tOr, tNot, tIf, tIfS, tSeq, tAsg, tDrop, tNext, tDIn, tDNotIn, tDPop1, gName, gTup_ref, gCons_cons, gNil_nil, and_assoc, tYes, wipe, rEq, rNe, scal_ss, scal_ii, scal_bb, scal_ns, scal_sn, scal_nn, scal_in, scal_ni, tLc_eq, tFor_eq, iList, iTup, iStr, iRng1, iRng2, iZip, iEnum, gSub, tSl, rSetL_ref, rCat_ref, rRep_ref, rJoin_ref, rSlL_ref, rSlS_ref, rMulS_ref, rIxL_ref, rIxT_ref, rLenK_ref, rAll_ref, rIn_ref, tLst, tTup, tPar, tPar3, tAug, tPart, tNoPart, tCall, List.getElem?_cons_zero, List.getElem?_cons_succ, List.set_cons_zero, List.set_cons_succ, List.map_cons, List.map_nil, List.append_nil, List.nil_append, List.cons_append, Option.some.injEq, exists_eq_left', exists_eq_left, exists_eq_right, exists_eq_right', exists_eq', V.int.injEq, V.str.injEq, V.bl.injEq, V.ref.injEq, List.cons.injEq, tM0, tM1, rNewStrs, sgn_eq, split_dot, split_sp, split_nl, dot_len, sp_len, nl_len, cxOf_K, L2.start, List.length_cons, List.length_nil, List.replicate_succ, List.replicate_zero, Nat.reduceSub, Nat.zero_add, and_true, true_and, and_self, exists_and_left, exists_const, Bool.false_eq_true, if_false, if_true, ite_true, ite_false, reduceIte, decide_eq_true_eq, reduceCtorEq, Nat.reduceAdd, Nat.reduceLT, L2H.iEnumN, cxH_K, cxH_prog, cxH_w, cxH_mg, cxH_base, tCallVSH, tVeI, tOst, tWhy, tXf, tCallS, tCallX, tLam1, tListZip, tCallX, tCallXU, tCallV, tCallVS, tLam1, tLamD, tCallS, tCls, tClsD, cx_cells, cx_scope, cx_N, cx_prog, cx_w, cx_base, cx_mg, cx_qual]
    refine ⟨_, .inl (.of hD), ?_⟩
    rw [List.length_map]
    refine ⟨h, l, _, rfl, Z7.src, by omega, by omega, fun H8 r8 x8 S8 h80 h81 => ?_⟩
    have Z8 := Z7.draw x8 S8
    have hD8 := x8 _ _ nD hD
    obtain ⟨k, rfl⟩ := Int.eq_ofNat_of_zero_le h80
    refine ⟨R2, ⟨_, rfl, _, .of hD8, fun p hp => ?_⟩, fun σ2 H9 h9 => ?_⟩
    · rw [cutV_to, ← List.map_take]
      generalize hA : upd H8 p _ = HA
      obtain ⟨sA, fA⟩ := newF hA hp
      have ZA := Z8.same sA
      refine ⟨_, .inl (.of ZA.odd), h, l, _, rfl, ZA.src, by omega, by omega, fun HB rB xB SB hB0 hB1 => ?_⟩
      have ZB := ZA.draw xB SB
      obtain ⟨j, rfl⟩ := Int.eq_ofNat_of_zero_le hB0
      have hj : j < vs.length := by omega
      have nDp : ¬ DrS h l p := Z8.src.nD hp
      have fB := xB _ _ nDp fA
      obtain ⟨w1, hw, hwl⟩ : ∃ w1 : Str, vs[j]? = some (.str w1) ∧ okW w1 := by
        have h1 := List.all_eq_true.mp hv3 vs[j] (List.getElem_mem hj)
        have h2 := List.getElem?_eq_getElem hj
        cases hv : vs[j] with
        | str w1 =>
          rw [hv] at h1 h2
          have h1 : (decide (w1.length ≤ 30) && PyData.strOk w1) = true := h1
          simp only [Bool.and_eq_true, decide_eq_true_eq] at h1
          exact ⟨w1, h2, by omega, h1.2⟩
        | _ => rw [hv] at h1; cases h1
      have hDB := xB _ _ nD (sA _ _ hD8)
      refine ⟨O, vs, _, .str w1, rfl, rfl, .of ZB.odd, atI_nat hw, by decide, fun p1 hp1 => ?_⟩
      generalize hC : upd HB p1 _ = HC
      obtain ⟨sC, fC⟩ := newF hC hp1
      refine ⟨_, sC _ _ fB, _, fC, small (by simp; omega), fun p2 hp2 => ⟨_, rfl, _, .of (same_new sC hp2 _ _ hDB), fun p3 hp3 => ?_⟩⟩
      generalize hE : upd HC p2 _ = HE at hp3 ⊢
      obtain ⟨sE, fE⟩ := newF hE hp2
      rw [cutV_from, ← List.map_drop]
      generalize hG : upd HE p3 _ = HG
      obtain ⟨sG, fG⟩ := newF hG hp3
      refine ⟨_, sG _ _ fE, _, fG, small (by simp; omega), fun p4 hp4 => (hR2 _ _).mpr ⟨p4, ts.take k ++ [w1] ++ ts.drop k, _, _, _, rfl, (ZB.same (sC.trans (sE.trans sG))).new hp4, by rw [upd_same, List.map_append, List.map_append]; rfl, by simp; omega, fun t ht => ?_⟩⟩
      rcases List.mem_append.mp ht with ht | ht
      · rcases List.mem_append.mp ht with ht | ht
        · exact hts t (List.mem_of_mem_take ht)
        · rw [List.mem_singleton.mp ht]; exact hwl
      · exact hts t (List.mem_of_mem_drop ht)
    clear hD8 Z8 S8 x8 hD Z7 hts htl
    obtain ⟨D, ts, c4', c5', c6', rfl, Z9, hD, htl, hts⟩ := (hR2 _ _).mp h9
    clear h9
    simp only [tCutE, tIfE, false_and, exists_false, false_or, or_false, tRet, tRetN, tAndV, tOrV, tNotV, tChain, rI, rI0, rU, tC, tCB, tCons, tNil, tVar, tOp, tUn, tTest, tB, tAnd, tOr, tNot, tIf, tIfS, tSeq, tAsg, tDrop, tNext, tDIn, tDNotIn, tDPop1, gName, gTup_ref, gCons_cons, gNil_nil, and_assoc, tYes, wipe, rEq, rNe, scal_ss, scal_ii, scal_bb, scal_ns, scal_sn, scal_nn, scal_in, scal_ni, tLc_eq, tFor_eq, iList, iTup, iStr, iRng1, iRng2, iZip, iEnum, gSub, tSl, rSetL_ref, rCat_ref, rRep_ref, rJoin_ref, rSlL_ref, rSlS_ref, rMulS_ref, rIxL_ref, rIxT_ref, rLenK_ref, rAll_ref, rIn_ref, tLst, tTup, tPar, tPar3, tAug, tPart, tNoPart, tCall, List.getElem?_cons_zero, List.getElem?_cons_succ, List.set_cons_zero, List.set_cons_succ, List.map_cons, List.map_nil, List.append_nil, List.nil_append, List.cons_append, Option.some.injEq, exists_eq_left', exists_eq_left, exists_eq_right, exists_eq_right', exists_eq', V.int.injEq, V.str.injEq, V.bl.injEq, V.ref.injEq, List.cons.injEq, tM0, tM1, rNewStrs, sgn_eq, split_dot, split_sp, split_nl, dot_len, sp_len, nl_len, cxOf_K, L2.start, List.length_cons, List.length_nil, List.replicate_succ, List.replicate_zero, Nat.reduceSub, Nat.zero_add, and_true, true_and, and_self, exists_and_left, exists_const, Bool.false_eq_true, if_false, if_true, ite_true, ite_false, reduceIte, decide_eq_true_eq, reduceCtorEq, Nat.reduceAdd, Nat.reduceLT, L2H.iEnumN, cxH_K, cxH_prog, cxH_w, cxH_mg, cxH_base, tCallVSH, tVeI, tOst, tWhy, tXf, tCallS, tCallX, tLam1, tListZip, tCallX, tCallXU, tCallV, tCallVS, tLam1, tLamD, tCallS, tCls, tClsD, cx_cells, cx_scope, cx_N, cx_prog, cx_w, cx_base, cx_mg, cx_qual]
    have en : (Str.ofString "\n").length = 1 := by decide +kernel
    have hs := sum_le fun w hw => (hts w hw).1
    have hjl := join_len (Str.ofString "\n") ts
    rw [en] at hjl
    have hjo : PyData.strOk (Txt.join (Str.ofString "\n") ts) = true := strOk_iff.mpr fun c hc => by
      rcases mem_join hc with hc | ⟨w, hw, hc⟩
      · rw [show tl (Str.ofString "\n") = [10] by decide +kernel] at hc
        rw [List.mem_singleton.mp hc]; decide
      · exact strOk_iff.mp (hts w hw).2 c hc
    refine ⟨R3, ⟨ts, .inl (.of hD), by rw [en]; omega, (hR3 _ _).mpr ⟨_, _, _, _, _, rfl, Z9, by omega, hjo⟩⟩, fun σ3 H10 h10 => ?_⟩
    clear hjo hjl hs
    obtain ⟨z, c4', c5', c6', c7', rfl, Z10, hz, hzo⟩ := (hR3 _ _).mp h10
    clear h10
    simp only [tCutE, tIfE, false_and, exists_false, false_or, or_false, tRet, tRetN, tAndV, tOrV, tNotV, tChain, rI, rI0, rU, tC, tCB, tCons, tNil, tVar, tOp, tUn, tTest, tB, tAnd, tOr, tNot, tIf, tIfS, tSeq, tAsg, tDrop, tNext, tDIn, tDNotIn, tDPop1, gName, gTup_ref, gCons_cons, gNil_nil, and_assoc, tYes, wipe, rEq, rNe, scal_ss, scal_ii, scal_bb, scal_ns, scal_sn, scal_nn, scal_in, scal_ni, tLc_eq, tFor_eq, iList, iTup, iStr, iRng1, iRng2, iZip, iEnum, gSub, tSl, rSetL_ref, rCat_ref, rRep_ref, rJoin_ref, rSlL_ref, rSlS_ref, rMulS_ref, rIxL_ref, rIxT_ref, rLenK_ref, rAll_ref, rIn_ref, tLst, tTup, tPar, tPar3, tAug, tPart, tNoPart, tCall, List.getElem?_cons_zero, List.getElem?_cons_succ, List.set_cons_zero, List.set_cons_succ, List.map_cons, List.map_nil, List.append_nil, List.nil_append, List.cons_append, Option.some.injEq, exists_eq_left', exists_eq_left, exists_eq_right, exists_eq_right', exists_eq', V.int.injEq, V.str.injEq, V.bl.injEq, V.ref.injEq, List.cons.injEq, tM0, tM1, rNewStrs, sgn_eq, split_dot, split_sp, split_nl, dot_len, sp_len, nl_len, cxOf_K, L2.start, List.length_cons, List.length_nil, List.replicate_succ, List.replicate_zero, Nat.reduceSub, Nat.zero_add, and_true, true_and, and_self, exists_and_left, exists_const, Bool.false_eq_true, if_false, if_true, ite_true, ite_false, reduceIte, decide_eq_true_eq, reduceCtorEq, Nat.reduceAdd, Nat.reduceLT, L2H.iEnumN, cxH_K, cxH_prog, cxH_w, cxH_mg, cxH_base, tCallVSH, tVeI, tOst, tWhy, tXf, tCallS, tCallX, tLam1, tListZip, tCallX, tCallXU, tCallV, tCallVS, tLam1, tLamD, tCallS, tCls, tClsD, cx_cells, cx_scope, cx_N, cx_prog, cx_w, cx_base, cx_mg, cx_qual]
    refine ⟨small (by omega), h, l, _, rfl, Z10.src, by omega, by omega, fun H11 r11 x11 S11 h110 h111 => ?_⟩
    have Z11 := Z10.draw x11 S11
    refine ⟨R4, ?_, fun σ4 H12 h12 => ?_⟩
    · simp only [tCutE, tIfE, false_and, exists_false, false_or, or_false, tRet, tRetN, tAndV, tOrV, tNotV, tChain, rI, rI0, rU, tC, tCB, tCons, tNil, tVar, tOp, tUn, tTest, tB, tAnd, tOr, tNot, tIf, tIfS, tSeq, tAsg, tDrop, tNext, tDIn, tDNotIn, tDPop1, gName, gTup_ref, gCons_cons, gNil_nil, and_assoc, tYes, wipe, rEq, rNe, scal_ss, scal_ii, scal_bb, scal_ns, scal_sn, scal_nn, scal_in, scal_ni, tLc_eq, tFor_eq, iList, iTup, iStr, iRng1, iRng2, iZip, iEnum, gSub, tSl, rSetL_ref, rCat_ref, rRep_ref, rJoin_ref, rSlL_ref, rSlS_ref, rMulS_ref, rIxL_ref, rIxT_ref, rLenK_ref, rAll_ref, rIn_ref, tLst, tTup, tPar, tPar3, tAug, tPart, tNoPart, tCall, List.getElem?_cons_zero, List.getElem?_cons_succ, List.set_cons_zero, List.set_cons_succ, List.map_cons, List.map_nil, List.append_nil, List.nil_append, List.cons_append, Option.some.injEq, exists_eq_left', exists_eq_left, exists_eq_right, exists_eq_right', exists_eq', V.int.injEq, V.str.injEq, V.bl.injEq, V.ref.injEq, List.cons.injEq, tM0, tM1, rNewStrs, sgn_eq, split_dot, split_sp, split_nl, dot_len, sp_len, nl_len, cxOf_K, L2.start, List.length_cons, List.length_nil, List.replicate_succ, List.replicate_zero, Nat.reduceSub, Nat.zero_add, and_true, true_and, and_self, exists_and_left, exists_const, Bool.false_eq_true, if_false, if_true, ite_true, ite_false, reduceIte, decide_eq_true_eq, reduceCtorEq, Nat.reduceAdd, Nat.reduceLT, L2H.iEnumN, cxH_K, cxH_prog, cxH_w, cxH_mg, cxH_base, tCallVSH, tVeI, tOst, tWhy, tXf, tCallS, tCallX, tLam1, tListZip, tCallX, tCallXU, tCallV, tCallVS, tLam1, tLamD, tCallS, tCls, tClsD, cx_cells, cx_scope, cx_N, cx_prog, cx_w, cx_base, cx_mg, cx_qual]
      have e8 : (Str.ofString "a1 -.#*\n").length = 8 := by decide +kernel
      have e8o : (tl (Str.ofString "a1 -.#*\n")).all (fun c => decide (c < 1114112)) = true := by decide +kernel
      refine ⟨small (by omega), h, l, 8, rfl, Z11.src, by decide, by decide, fun HB rB xB SB hB0 hB1 => ⟨_, rfl, hB0, by omega, by rw [e8]; omega, ?_⟩⟩
      have ZB := Z11.draw xB SB
      have hlt : rB.toNat < (tl (Str.ofString "a1 -.#*\n")).length := by rw [← len_tl, e8]; omega
      have hg : (Str.ofString "a1 -.#*\n").cps[rB.toNat]? = some (tl (Str.ofString "a1 -.#*\n"))[rB.toNat] := by
        rw [← Array.getElem?_toList]
        exact List.getElem?_eq_getElem hlt
      have hcm : (tl (Str.ofString "a1 -.#*\n"))[rB.toNat] ∈ tl (Str.ofString "a1 -.#*\n") := List.getElem_mem hlt
      generalize (tl (Str.ofString "a1 -.#*\n"))[rB.toNat] = cc at hg hcm
      have hco : PyData.strOk ⟨#[cc]⟩ = true := strOk_iff.mpr fun d hd => by
        have : d = cc := by simpa [tl] using hd
        rw [this]
        exact of_decide_eq_true (List.all_eq_true.mp e8o cc hcm)
      have l1 := cut_le z none (some r11)
      have lc : Str.length ⟨#[cc]⟩ = 1 := rfl
      refine ⟨cc, hg, small (by omega), h, l, 2, rfl, ZB.src, by decide, by decide, fun HC rC xC SC hC0 hC1 => ⟨_, rfl, small (by omega), ?_, ?_⟩⟩
      · have l2 := cut_le z (some (r11 + rC)) none
        rw [app_len]
        exact small (by omega)
      · have l2 := cut_le z (some (r11 + rC)) none
        exact (hR4 _ _).mpr ⟨z, _, _, _, _, _, _, rfl, ZB.draw xC SC, ⟨hz, hzo⟩, by rw [app_len, app_len]; omega, app_ok (app_ok (cut_ok hzo) hco) (cut_ok hzo)⟩
    clear Z11 x11 S11 Z10 hz hzo
    obtain ⟨z, b, c4', c5', c6', c7', c9', rfl, Z12, ⟨hz, hzo⟩, hb, hbo⟩ := (hR4 _ _).mp h12
    clear h12
    simp only [tCutE, tIfE, false_and, exists_false, false_or, or_false, tRet, tRetN, tAndV, tOrV, tNotV, tChain, rI, rI0, rU, tC, tCB, tCons, tNil, tVar, tOp, tUn, tTest, tB, tAnd, tOr, tNot, tIf, tIfS, tSeq, tAsg, tDrop, tNext, tDIn, tDNotIn, tDPop1, gName, gTup_ref, gCons_cons, gNil_nil, and_assoc, tYes, wipe, rEq, rNe, scal_ss, scal_ii, scal_bb, scal_ns, scal_sn, scal_nn, scal_in, scal_ni, tLc_eq, tFor_eq, iList, iTup, iStr, iRng1, iRng2, iZip, iEnum, gSub, tSl, rSetL_ref, rCat_ref, rRep_ref, rJoin_ref, rSlL_ref, rSlS_ref, rMulS_ref, rIxL_ref, rIxT_ref, rLenK_ref, rAll_ref, rIn_ref, tLst, tTup, tPar, tPar3, tAug, tPart, tNoPart, tCall, List.getElem?_cons_zero, List.getElem?_cons_succ, List.set_cons_zero, List.set_cons_succ, List.map_cons, List.map_nil, List.append_nil, List.nil_append, List.cons_append, Option.some.injEq, exists_eq_left', exists_eq_left, exists_eq_right, exists_eq_right', exists_eq', V.int.injEq, V.str.injEq, V.bl.injEq, V.ref.injEq, List.cons.injEq, tM0, tM1, rNewStrs, sgn_eq, split_dot, split_sp, split_nl, dot_len, sp_len, nl_len, cxOf_K, L2.start, List.length_cons, List.length_nil, List.replicate_succ, List.replicate_zero, Nat.reduceSub, Nat.zero_add, and_true, true_and, and_self, exists_and_left, exists_const, Bool.false_eq_true, if_false, if_true, ite_true, ite_false, reduceIte, decide_eq_true_eq, reduceCtorEq, Nat.reduceAdd, Nat.reduceLT, L2H.iEnumN, cxH_K, cxH_prog, cxH_w, cxH_mg, cxH_base, tCallVSH, tVeI, tOst, tWhy, tXf, tCallS, tCallX, tLam1, tListZip, tCallX, tCallXU, tCallV, tCallVS, tLam1, tLamD, tCallS, tCls, tClsD, cx_cells, cx_scope, cx_N, cx_prog, cx_w, cx_base, cx_mg, cx_qual]
    have hno : PyData.strOk (Str.ofString "\n") = true := by decide +kernel
    refine ⟨small (by omega), small (by omega), by decide, R5, fun p hp => (hR5 _ _).mpr ⟨p, [z, z ++ Str.ofString "\n", Str.ofString "\n" ++ z, b], _, _, _, _, _, _, _, rfl, Z12.new hp, upd_same, rfl, fun t ht => ?_⟩, fun σ5 H13 h13 => ?_⟩
    · simp only [List.mem_cons, List.not_mem_nil, or_false] at ht
      rcases ht with rfl | rfl | rfl | rfl
      · exact ⟨by omega, hzo⟩
      · exact ⟨by rw [app_len]; omega, app_ok hzo hno⟩
      · exact ⟨by rw [app_len]; omega, app_ok hno hzo⟩
      · exact ⟨hb, hbo⟩
    clear Z12 hz hzo hb hbo
    obtain ⟨D, ts, c4', c5', c6', c7', c8', c9', d0', rfl, Z13, hD, htl, hts⟩ := (hR5 _ _).mp h13
    clear h13
    simp only [tCutE, tIfE, false_and, exists_false, false_or, or_false, tRet, tRetN, tAndV, tOrV, tNotV, tChain, rI, rI0, rU, tC, tCB, tCons, tNil, tVar, tOp, tUn, tTest, tB, tAnd, tOr, tNot, tIf, tIfS, tSeq, tAsg, tDrop, tNext, tDIn, tDNotIn, tDPop1, gName, gTup_ref, gCons_cons, gNil_nil, and_assoc, tYes, wipe, rEq, rNe, scal_ss, scal_ii, scal_bb, scal_ns, scal_sn, scal_nn, scal_in, scal_ni, tLc_eq, tFor_eq, iList, iTup, iStr, iRng1, iRng2, iZip, iEnum, gSub, tSl, rSetL_ref, rCat_ref, rRep_ref, rJoin_ref, rSlL_ref, rSlS_ref, rMulS_ref, rIxL_ref, rIxT_ref, rLenK_ref, rAll_ref, rIn_ref, tLst, tTup, tPar, tPar3, tAug, tPart, tNoPart, tCall, List.getElem?_cons_zero, List.getElem?_cons_succ, List.set_cons_zero, List.set_cons_succ, List.map_cons, List.map_nil, List.append_nil, List.nil_append, List.cons_append, Option.some.injEq, exists_eq_left', exists_eq_left, exists_eq_right, exists_eq_right', exists_eq', V.int.injEq, V.str.injEq, V.bl.injEq, V.ref.injEq, List.cons.injEq, tM0, tM1, rNewStrs, sgn_eq, split_dot, split_sp, split_nl, dot_len, sp_len, nl_len, cxOf_K, L2.start, List.length_cons, List.length_nil, List.replicate_succ, List.replicate_zero, Nat.reduceSub, Nat.zero_add, and_true, true_and, and_self, exists_and_left, exists_const, Bool.false_eq_true, if_false, if_true, ite_true, ite_false, reduceIte, decide_eq_true_eq, reduceCtorEq, Nat.reduceAdd, Nat.reduceLT, L2H.iEnumN, cxH_K, cxH_prog, cxH_w, cxH_mg, cxH_base, tCallVSH, tVeI, tOst, tWhy, tXf, tCallS, tCallX, tLam1, tListZip, tCallX, tCallXU, tCallV, tCallVS, tLam1, tLamD, tCallS, tCls, tClsD, cx_cells, cx_scope, cx_N, cx_prog, cx_w, cx_base, cx_mg, cx_qual]
    obtain ⟨Pt, hPt⟩ : ∃ Pt : Nat → L2.St → Hp → Prop, ∀ j σ H', Pt j σ H' ↔ ∃ c5 d2 d3 d4 : Option V, σ = [some (.ref a), some (.ref h), some (.ref O), some (.int (0 + (i : Int))), c4', c5, c6', c7', c8', c9', d0', some (.ref D), d2, d3, d4] ∧ StK K h l O vs H' ∧ H' D = some (.lst (ts.map V.str)) := ⟨_, fun _ _ _ => Iff.rfl⟩
    refine ⟨⟨_, .of hD⟩, forG (walk_listm ts V.str) Pt ((hPt _ _ _).mpr ⟨_, _, _, _, rfl, Z13, hD⟩) (fun j σ H' _ z => by obtain ⟨_, _, _, _, _, _, e⟩ := (hPt _ _ _).mp z; exact .of e) (fun j x σ Hc Hd hj hP hy => ?_) (fun σ Hc hP => ?_)⟩
    rotate_left
    · obtain ⟨c5', d2', d3', d4', rfl, Zc, _⟩ := (hPt _ _ _).mp hP
      exact (hPv _ _ _).mpr ⟨_, _, _, _, _, _, _, _, _, _, _, _, rfl, Zc⟩
    obtain ⟨rfl, t, ht, rfl⟩ := hy
    obtain ⟨c5', d2', d3', d4', rfl, Zc, hDc⟩ := (hPt _ _ _).mp hP
    obtain ⟨hlt, hto⟩ := hts t (List.mem_of_getElem? ht)
    clear hP
    simp only [tCutE, tIfE, false_and, exists_false, false_or, or_false, tRet, tRetN, tAndV, tOrV, tNotV, tChain, rI, rI0, rU, tC, tCB, tCons, tNil, tVar, tOp, tUn, tTest, tB, tAnd, tOr, tNot, tIf, tIfS, tSeq, tAsg, tDrop, tNext, tDIn, tDNotIn, tDPop1, gName, gTup_ref, gCons_cons, gNil_nil, and_assoc, tYes, wipe, rEq, rNe, scal_ss, scal_ii, scal_bb, scal_ns, scal_sn, scal_nn, scal_in, scal_ni, tLc_eq, tFor_eq, iList, iTup, iStr, iRng1, iRng2, iZip, iEnum, gSub, tSl, rSetL_ref, rCat_ref, rRep_ref, rJoin_ref, rSlL_ref, rSlS_ref, rMulS_ref, rIxL_ref, rIxT_ref, rLenK_ref, rAll_ref, rIn_ref, tLst, tTup, tPar, tPar3, tAug, tPart, tNoPart, tCall, List.getElem?_cons_zero, List.getElem?_cons_succ, List.set_cons_zero, List.set_cons_succ, List.map_cons, List.map_nil, List.append_nil, List.nil_append, List.cons_append, Option.some.injEq, exists_eq_left', exists_eq_left, exists_eq_right, exists_eq_right', exists_eq', V.int.injEq, V.str.injEq, V.bl.injEq, V.ref.injEq, List.cons.injEq, tM0, tM1, rNewStrs, sgn_eq, split_dot, split_sp, split_nl, dot_len, sp_len, nl_len, cxOf_K, L2.start, List.length_cons, List.length_nil, List.replicate_succ, List.replicate_zero, Nat.reduceSub, Nat.zero_add, and_true, true_and, and_self, exists_and_left, exists_const, Bool.false_eq_true, if_false, if_true, ite_true, ite_false, reduceIte, decide_eq_true_eq, reduceCtorEq, Nat.reduceAdd, Nat.reduceLT, L2H.iEnumN, cxH_K, cxH_prog, cxH_w, cxH_mg, cxH_base, tCallVSH, tVeI, tOst, tWhy, tXf, tCallS, tCallX, tLam1, tListZip, tCallX, tCallXU, tCallV, tCallVS, tLam1, tLamD, tCallS, tCls, tClsD, cx_cells, cx_scope, cx_N, cx_prog, cx_w, cx_base, cx_mg, cx_qual]
    have hll : (linesOf t).length ≤ t.length + 1 := by
      unfold linesOf
      split
      · exact Nat.zero_le _
      · exact split_len_le t "\n" (by decide +kernel) (kind_ok (by decide +kernel))
    have hle : ∀ w ∈ linesOf t, w.length ≤ t.length := fun w hw => by
      unfold linesOf at hw
      split at hw
      · cases hw
      · exact split_each_le t "\n" (by decide +kernel) (kind_ok (by decide +kernel)) w hw
    have hlo : ∀ w ∈ linesOf t, PyData.strOk w = true := fun w hw => by
      unfold linesOf at hw
      split at hw
      · cases hw
      · exact split_ok (z := t) (y := "\n") (by decide +kernel) (kind_ok (by decide +kernel)) hto w hw
    obtain ⟨R6, hR6⟩ : ∃ R : L2.St → Hp → Prop, ∀ σ H', R σ H' ↔ ∃ L : Addr, σ = [some (.ref a), some (.ref h), some (.ref O), some (.int (0 + (i : Int))), c4', c5', c6', c7', c8', c9', d0', some (.ref D), some (.str t), some (.ref L), d4'] ∧ Same Hd H' ∧ H' L = some (.lst ((linesOf t).map V.str)) := ⟨_, fun _ _ => Iff.rfl⟩
    obtain ⟨R7, hR7⟩ : ∃ R : L2.St → Hp → Prop, ∀ σ H', R σ H' ↔ ∃ L E : Addr, σ = [some (.ref a), some (.ref h), some (.ref O), some (.int (0 + (i : Int))), c4', c5', c6', c7', c8', c9', d0', some (.ref D), some (.str t), some (.ref L), some (.ref E)] ∧ Same Hd H' ∧ H' E = some (.lst ((badsOf (linesOf t)).map fun k : Nat => V.int (k : Int))) := ⟨_, fun _ _ => Iff.rfl⟩
    refine ⟨R6, ?_, fun σ6 H14 h14 => ?_⟩
    · by_cases e : t = Str.ofString ""
      · refine ifN (by simp [e]) ⟨by decide, fun p hp => (hR6 _ _).mpr ⟨p, rfl, same_put (Same.refl _) hp, ?_⟩⟩
        rw [upd_same]; unfold linesOf; rw [if_pos e]; rfl
      · refine ifP (by simp [e]) ⟨small (by omega), fun p hp => (hR6 _ _).mpr ⟨p, rfl, same_put (Same.refl _) hp, ?_⟩⟩
        rw [upd_same]; unfold linesOf; rw [if_neg e]
    obtain ⟨L, rfl, s14, hL⟩ := (hR6 _ _).mp h14
    clear h14
    refine ⟨R7, ⟨_, rfl, ?_⟩, fun σ7 H15 h15 => ?_⟩
    · simp only [tCutE, tIfE, false_and, exists_false, false_or, or_false, tRet, tRetN, tAndV, tOrV, tNotV, tChain, rI, rI0, rU, tC, tCB, tCons, tNil, tVar, tOp, tUn, tTest, tB, tAnd, tOr, tNot, tIf, tIfS, tSeq, tAsg, tDrop, tNext, tDIn, tDNotIn, tDPop1, gName, gTup_ref, gCons_cons, gNil_nil, and_assoc, tYes, wipe, rEq, rNe, scal_ss, scal_ii, scal_bb, scal_ns, scal_sn, scal_nn, scal_in, scal_ni, tLc_eq, tFor_eq, iList, iTup, iStr, iRng1, iRng2, iZip, iEnum, gSub, tSl, rSetL_ref, rCat_ref, rRep_ref, rJoin_ref, rSlL_ref, rSlS_ref, rMulS_ref, rIxL_ref, rIxT_ref, rLenK_ref, rAll_ref, rIn_ref, tLst, tTup, tPar, tPar3, tAug, tPart, tNoPart, tCall, List.getElem?_cons_zero, List.getElem?_cons_succ, List.set_cons_zero, List.set_cons_succ, List.map_cons, List.map_nil, List.append_nil, List.nil_append, List.cons_append, Option.some.injEq, exists_eq_left', exists_eq_left, exists_eq_right, exists_eq_right', exists_eq', V.int.injEq, V.str.injEq, V.bl.injEq, V.ref.injEq, List.cons.injEq, tM0, tM1, rNewStrs, sgn_eq, split_dot, split_sp, split_nl, dot_len, sp_len, nl_len, cxOf_K, L2.start, List.length_cons, List.length_nil, List.replicate_succ, List.replicate_zero, Nat.reduceSub, Nat.zero_add, and_true, true_and, and_self, exists_and_left, exists_const, Bool.false_eq_true, if_false, if_true, ite_true, ite_false, reduceIte, decide_eq_true_eq, reduceCtorEq, Nat.reduceAdd, Nat.reduceLT, L2H.iEnumN, cxH_K, cxH_prog, cxH_w, cxH_mg, cxH_base, tCallVSH, tVeI, tOst, tWhy, tXf, tCallS, tCallX, tLam1, tListZip, tCallX, tCallXU, tCallV, tCallVS, tLam1, tLamD, tCallS, tCls, tClsD, cx_cells, cx_scope, cx_N, cx_prog, cx_w, cx_base, cx_mg, cx_qual]
      refine ⟨_, .inl (.of hL), ?_⟩
      rw [List.length_map]
      refine ⟨by omega, by omega, ?_⟩
      rw [Int.toNat_natCast]
      have wr : Walk (Itr 0 (linesOf t).length) (List.range (linesOf t).length).length (fun _ => True) (fun i H v H' => H' = H ∧ v = .int (0 + (i : Int))) := by rw [List.length_range]; exact walk_range
      refine lc_fil (List.range (linesOf t).length) (fun k => if goodL (linesOf t) k = true then none else some (V.int k)) wr (by rw [List.length_range]; omega) (fun _ _ => trivial) (fun m k v H16 H17 R hm s16 hy r => ?_) (fun E H16 nE s16 hE => ?_)
      · obtain ⟨rfl, rfl⟩ := hy
        obtain ⟨hml, rfl⟩ : m < (linesOf t).length ∧ k = m := by
          have h1 := List.getElem?_eq_some_iff.mp hm
          obtain ⟨h1, h2⟩ := h1
          rw [List.length_range] at h1
          rw [List.getElem_range] at h2
          exact ⟨h1, h2.symm⟩
        simp only [tCutE, tIfE, false_and, exists_false, false_or, or_false, tRet, tRetN, tAndV, tOrV, tNotV, tChain, rI, rI0, rU, tC, tCB, tCons, tNil, tVar, tOp, tUn, tTest, tB, tAnd, tOr, tNot, tIf, tIfS, tSeq, tAsg, tDrop, tNext, tDIn, tDNotIn, tDPop1, gName, gTup_ref, gCons_cons, gNil_nil, and_assoc, tYes, wipe, rEq, rNe, scal_ss, scal_ii, scal_bb, scal_ns, scal_sn, scal_nn, scal_in, scal_ni, tLc_eq, tFor_eq, iList, iTup, iStr, iRng1, iRng2, iZip, iEnum, gSub, tSl, rSetL_ref, rCat_ref, rRep_ref, rJoin_ref, rSlL_ref, rSlS_ref, rMulS_ref, rIxL_ref, rIxT_ref, rLenK_ref, rAll_ref, rIn_ref, tLst, tTup, tPar, tPar3, tAug, tPart, tNoPart, tCall, List.getElem?_cons_zero, List.getElem?_cons_succ, List.set_cons_zero, List.set_cons_succ, List.map_cons, List.map_nil, List.append_nil, List.nil_append, List.cons_append, Option.some.injEq, exists_eq_left', exists_eq_left, exists_eq_right, exists_eq_right', exists_eq', V.int.injEq, V.str.injEq, V.bl.injEq, V.ref.injEq, List.cons.injEq, tM0, tM1, rNewStrs, sgn_eq, split_dot, split_sp, split_nl, dot_len, sp_len, nl_len, cxOf_K, L2.start, List.length_cons, List.length_nil, List.replicate_succ, List.replicate_zero, Nat.reduceSub, Nat.zero_add, and_true, true_and, and_self, exists_and_left, exists_const, Bool.false_eq_true, if_false, if_true, ite_true, ite_false, reduceIte, decide_eq_true_eq, reduceCtorEq, Nat.reduceAdd, Nat.reduceLT, L2H.iEnumN, cxH_K, cxH_prog, cxH_w, cxH_mg, cxH_base, tCallVSH, tVeI, tOst, tWhy, tXf, tCallS, tCallX, tLam1, tListZip, tCallX, tCallXU, tCallV, tCallVS, tLam1, tLamD, tCallS, tCls, tClsD, cx_cells, cx_scope, cx_N, cx_prog, cx_w, cx_base, cx_mg, cx_qual]
        have hw := List.getElem_mem hml
        have hat : (linesOf t)[k]? = some (linesOf t)[k] := List.getElem?_eq_getElem hml
        have r' := r
        rw [Int.zero_add]
        have hat2 : atI ((linesOf t).map V.str) (k : Int) = some (.str (linesOf t)[k]) := atI_nat (by rw [List.getElem?_map, hat]; rfl)
        have eg : goodL (linesOf t) k = (lineRow (linesOf t)[k]).isSome := by unfold goodL; rw [hat]
        refine ⟨_, .of (s16 _ _ hL), _, hat2, _, rfl, Nat.le_trans (hle _ hw) (by omega), hlo _ hw, fun H18 s18 => ?_⟩
        have := r' _ s18
        rw [eg] at this
        by_cases e : (lineRow (linesOf t)[k]).isSome = true
        · rw [if_pos e] at this
          exact ifN (by simp [e]) this
        · rw [if_neg e] at this
          exact ifP (by simp [e]) this
      · rw [filterMap_if] at hE
        exact (hR7 _ _).mpr ⟨L, E, rfl, s14.trans s16, hE⟩
    obtain ⟨L', B1, rfl, s15, hB⟩ := (hR7 _ _).mp h15
    clear h15
    refine ⟨_, rfl, ?_⟩
    simp only [tCutE, tIfE, false_and, exists_false, false_or, or_false, tRet, tRetN, tAndV, tOrV, tNotV, tChain, rI, rI0, rU, tC, tCB, tCons, tNil, tVar, tOp, tUn, tTest, tB, tAnd, tOr, tNot, tIf, tIfS, tSeq, tAsg, tDrop, tNext, tDIn, tDNotIn, tDPop1, gName, gTup_ref, gCons_cons, gNil_nil, and_assoc, tYes, wipe, rEq, rNe, scal_ss, scal_ii, scal_bb, scal_ns, scal_sn, scal_nn, scal_in, scal_ni, tLc_eq, tFor_eq, iList, iTup, iStr, iRng1, iRng2, iZip, iEnum, gSub, tSl, rSetL_ref, rCat_ref, rRep_ref, rJoin_ref, rSlL_ref, rSlS_ref, rMulS_ref, rIxL_ref, rIxT_ref, rLenK_ref, rAll_ref, rIn_ref, tLst, tTup, tPar, tPar3, tAug, tPart, tNoPart, tCall, List.getElem?_cons_zero, List.getElem?_cons_succ, List.set_cons_zero, List.set_cons_succ, List.map_cons, List.map_nil, List.append_nil, List.nil_append, List.cons_append, Option.some.injEq, exists_eq_left', exists_eq_left, exists_eq_right, exists_eq_right', exists_eq', V.int.injEq, V.str.injEq, V.bl.injEq, V.ref.injEq, List.cons.injEq, tM0, tM1, rNewStrs, sgn_eq, split_dot, split_sp, split_nl, dot_len, sp_len, nl_len, cxOf_K, L2.start, List.length_cons, List.length_nil, List.replicate_succ, List.replicate_zero, Nat.reduceSub, Nat.zero_add, and_true, true_and, and_self, exists_and_left, exists_const, Bool.false_eq_true, if_false, if_true, ite_true, ite_false, reduceIte, decide_eq_true_eq, reduceCtorEq, Nat.reduceAdd, Nat.reduceLT, L2H.iEnumN, cxH_K, cxH_prog, cxH_w, cxH_mg, cxH_base, tCallVSH, tVeI, tOst, tWhy, tXf, tCallS, tCallX, tLam1, tListZip, tCallX, tCallXU, tCallV, tCallVS, tLam1, tLamD, tCallS, tCls, tClsD, cx_cells, cx_scope, cx_N, cx_prog, cx_w, cx_base, cx_mg, cx_qual]
    have Z15 := Zc.same s15
    have hD15 := s15 _ _ hDc
    obtain ⟨v0, hv0, hfin⟩ : ∃ v0 : Int, ((∃ r, (badsOf (linesOf t)).map (fun k : Nat => V.int (k : Int)) ++ [V.int (-1)] = V.int v0 :: r) ∧ ∀ {Q' : VK}, (∀ H', Fwd K No H15 H' → Q' (.int v0) H') → sp_law_refused P w K mg base [V.str t] H15 Q' E0) := by
      rcases bads_first t with ⟨h1, h2⟩ | ⟨i0, r, h1, h2⟩
      · refine ⟨-1, ⟨[], by rw [h1]; rfl⟩, fun hq => ⟨t, rfl, by omega, hto, Z15.tab, fun _ => hq, fun i' hi' => ?_⟩⟩
        obtain ⟨⟨w', hw1, hw2⟩, _⟩ := hi'
        exact absurd hw2 (h2 w' (List.mem_of_getElem? hw1))
      · refine ⟨i0, ⟨_, by rw [h1]; rfl⟩, fun hq => ⟨t, rfl, by omega, hto, Z15.tab, fun hg => ?_, fun i' hi' => ?_⟩⟩
        · obtain ⟨⟨w', hw1, hw2⟩, _⟩ := h2
          exact absurd hw2 (hg w' (List.mem_of_getElem? hw1))
        · have : i' = i0 := by
            obtain ⟨⟨w1, a1, a2⟩, a3⟩ := hi'
            obtain ⟨⟨w2, b1, b2⟩, b3⟩ := h2
            rcases Nat.lt_trichotomy i' i0 with z | z | z
            · exact absurd a2 (b3 i' z w1 a1)
            · exact z
            · exact absurd b2 (a3 i0 z w2 b1)
          rw [this]; exact hq
    obtain ⟨rr, hrr⟩ := hv0
    refine hfin fun H16 f16 => ?_
    have Z16 := Z15.fw f16
    have hB16 := f16.lst Z15.tab hB (fun z => z)
    have hD16 := f16.lst Z15.tab hD15 (fun z => z)
    refine ⟨by decide, fun p hp => ?_⟩
    generalize hG : upd H16 p _ = HG
    obtain ⟨sG, fG⟩ := newF hG hp
    have hbl : (badsOf (linesOf t)).length ≤ (linesOf t).length := by
      have := List.length_filter_le (fun k => !goodL (linesOf t) k) (List.range (linesOf t).length)
      rw [List.length_range] at this
      exact this
    refine ⟨_, sG _ _ hB16, _, fG, small (by simp; omega), fun p2 hp2 => ?_⟩
    rw [hrr]
    generalize hI : upd HG p2 _ = HI
    obtain ⟨sI, fI⟩ := newF hI hp2
    refine ⟨_, .of fI, _, atI_nat (j := 0) rfl, _, _, .int v0, rfl, .int _, .int _, by show 0 < 1; decide, rfl, fun H17 s17 => ⟨_, rfl, ?_⟩⟩
    have sE := sG.trans (sI.trans s17)
    exact ifN (by decide) ((hPt _ _ _).mpr ⟨_, _, _, _, rfl, Z16.same sE, sE _ _ hD16⟩)
end
end Hk

set_option Elab.async false
set_option linter.all false
set_option maxRecDepth 100000
set_option maxHeartbeats 4000000
namespace Hk
open PySem PySem.Spec PyProof.Rows L2
open LamX NdefX
end Hk
open PySem PySem.W PySem.Calls PyProof.Rows
theorem PySem.Challenge.cw_hearken_k19_texts_that_tell_no_rows_holds : PySem.Challenge.rw_hearken_k19_texts_that_tell_no_rows.Holds := by
  w_on; o_law
  refine HandSHeadRun.head_any (r := OpenLaw.row PySem.Challenge.rw_hearken_k19_texts_that_tell_no_rows) (q := view (OpenLaw.row PySem.Challenge.rw_hearken_k19_texts_that_tell_no_rows).prog [37]) (H := Hk.hk) (ob := Hk.ob) (M := 8000) (loose := Hk.loose) (d := HandSHeadRun.topDef (OpenLaw.row PySem.Challenge.rw_hearken_k19_texts_that_tell_no_rows).prog 37) (kwd := []) Hk.ob_eq
    (by kernel_rfl) (fun s => by kernel_rfl) Hk.run (by kernel_rfl) (by kernel_rfl) (by kernel_rfl) (by rfl) (by first | assumption | decide +kernel) (by decide +kernel) ⟨rfl, rfl, rfl, rfl, rfl, by decide +kernel⟩ ?hw ?hc
  case hw => w_witness2
  case hc =>
    refine LamX.walk_ofTsE (l := PySem.Challenge.rw_hearken_k19_texts_that_tell_no_rows) (n := 63) (k := 48) (x := "_law_script") (CX := fun _ => L2.CX0) rfl (by decide) (by kernel_rfl) ⟨rfl, by decide, by decide⟩ ?F (fun _ _ _ _ _ z => z)
    intro w mg fa h Y G hmg0
    obtain ⟨K, KX, c⟩ := Y
    have hmg : mg ("law" : PySem.Str) = some (.ref fa) := by
      have e : (HandSHeadRun.topDef (OpenLaw.row PySem.Challenge.rw_hearken_k19_texts_that_tell_no_rows).prog 37).name = ("law" : PySem.Str) := by kernel_rfl
      rw [← e]
      exact hmg0
    have T : Hk.Tx K mg := ⟨h, KX, G, c.t.d, c.more⟩
    obtain ⟨fd, F⟩ := T.f_law
    have ef := hmg.symm.trans T.g_law
    cases ef
    have b := L2.FunD.bindsA (ps := ["_law_script"]) F fun _ _ _ _ _ _ us hl => match us, hl with | [_], _ => rfl
    refine ⟨K, KX, fd, Hk.tf.map (He.cT K), Hk.sp_law K, fun p hp => ?_, fun p hp => ?_, fun p hp => ?_, fun s v => b s [v] rfl, fun H a ns hl _ ht hS => ⟨a, ns, rfl, hS, hl, fun P hP => ?_, fun _ => rfl⟩, fun base _ _ hB => Hk.F_law_ok T (fun p hp => hB _ (List.mem_map_of_mem hp)) F⟩
    · obtain ⟨q, hq, rfl⟩ := List.mem_map.mp hp
      exact c.empty q hq
    · obtain ⟨q, hq, rfl⟩ := List.mem_map.mp hp
      exact c.out q hq
    · obtain ⟨q, hq, rfl⟩ := List.mem_map.mp hp
      exact PySem.W.codeHd_of_K KX (c.hd q hq)
    · obtain ⟨q, hq, rfl⟩ := List.mem_map.mp hP
      exact NdefX.TabN.nil (ht _ (List.mem_map_of_mem hq))

