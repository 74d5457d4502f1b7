import PyProof.Rows.All
import Wide.All
import OpenK.AllK
import Wide.FinOn
import HandS.ForMost
import HandS.Style
import HandS.Walk
import HandS.Defaults
import HandS.Exc
import HandS.Flow
import HandS.TryOnly
import HandS.ExcOwn
import HandS.WordsExc
import HandS.TupAny
import HandS.SetFor
import HandS.IsInst
import PyProof.StrBlock2
import HandS.Nested
import HandS.ExcIs
import HandS.HeadHook4
import HandS.HeadWalk
import KE.KDictZip
import HandS.OwnIter
import KE.SortKeyed
import HandS.SortKw
import HandS.Iter
import HandS.More
import HandS.HeadHook2
import HandS.Conv
import HandS.SuiteRaise
import HandS.Finally
import HandS.TryElse
import KE.KExcRaise
import HandS.ExcInit
import HandS.ExcField
import KE.KExcIs
import HandS.MakeKw
import HandS.Deep
import KE.SortData
import HandS.Dict
import HandS.RevRange
import HandS.HeadEnd
import HandS.Head2
import PySem.Challenge.RW_hearken_k17_works_of_works
set_option Elab.async false
set_option linter.all false
set_option maxRecDepth 100000
set_option maxHeartbeats 4000000
/-! Common words for all the laws of hearken. -/
namespace Hk
open PySem PySem.Spec PyProof.Rows L2
/-! ### heaps that grow -/
/-- all that was tracked, but where S is, is as it was -/
def Ext (S : Addr → Prop) (H H' : Hp) : Prop := ∀ b o, ¬ S b → H b = some o → H' b = some o
abbrev No : Addr → Prop := fun _ => False
theorem Ext.refl (S : Addr → Prop) (H : Hp) : Ext S H H := fun _ _ _ h => h
theorem Ext.trans {S : Addr → Prop} {H H1 H2 : Hp} (a : Ext S H H1) (b : Ext S H1 H2) : Ext S H H2 := fun c o n h => b c o n (a c o n h)
theorem Ext.of_same {S : Addr → Prop} {H H' : Hp} (s : Same H H') : Ext S H H' := fun b o _ h => s b o h
theorem Ext.same {H H' : Hp} (e : Ext No H H') : Same H H' := fun b o h => e b o (fun z => z) h
theorem Ext.mono {S S' : Addr → Prop} {H H' : Hp} (e : Ext S H H') (h : ∀ b, S b → S' b) : Ext S' H H' := fun b o n q => e b o (fun z => n (h b z)) q
theorem Ext.free {S : Addr → Prop} {H H' : Hp} (e : Ext S H H') {l : Addr} (n : ¬ S l) (h : H' l = none) : H l = none := by
  cases q : H l with
  | none => rfl
  | some o =>
    rw [e l o n q] at h
    cases h
theorem Ext.put {S : Addr → Prop} {H H1 : Hp} {p : Addr} {o : HO} (s : Ext S H H1) (n : H p = none ∨ S p) : Ext S H (upd H1 p o) := fun b u nb h => by
  by_cases e : b = p
  · subst e
    rcases n with n | n
    · rw [h] at n; cases n
    · exact absurd n nb
  · rw [upd_ne e]
    exact s b u nb h
theorem same_put {H H1 : Hp} {p : Addr} {o : HO} (s : Same H H1) (n : H p = none) : Same H (upd H1 p o) := fun b u h => by
  by_cases e : b = p
  · subst e
    rw [h] at n; cases n
  · rw [upd_ne e]
    exact s b u h
theorem same_new {H H1 : Hp} {p : Addr} {o : HO} (s : Same H H1) (n : H1 p = none) : Same H (upd H1 p o) := same_put s (s.free n)
theorem same_tup {K : PySem.W.Frag} {H H' : Hp} {a : Addr} {xs : List V} (e : Same H H') (h : SqT K H a xs) : SqT K H' a xs := by
  rcases h with (h | ⟨o, h⟩) | h
  · exact .inl (.inl (e _ _ h))
  · exact .inl (.inr ⟨o, e _ _ h⟩)
  · exact .inr h
theorem small {n : Nat} (h : n ≤ 100000) : n ≤ sizeLine := Nat.le_trans h (by decide)
theorem smallLt {n : Nat} (h : n ≤ 100000) : n < sizeLine := Nat.lt_of_le_of_lt h (by decide)
theorem sgn_eq {c d : Nat} : ((⟨#[c]⟩ : Str) = ⟨#[d]⟩) = (c = d) := propext ⟨fun e => by
  have e2 : (#[c] : Array Nat) = #[d] := congrArg Str.cps e
  have e3 : [c] = [d] := congrArg Array.toList e2
  exact (List.cons.inj e3).1, fun e => by rw [e]⟩
theorem beq_dec {a b : Str} : (a == b) = decide (b = a) := by
  by_cases h : b = a
  · subst h; simp
  · rw [decide_eq_false h]; exact beq_eq_false_iff_ne.mpr (Ne.symm h)
/-- a text's words -/
def wds (z : Str) : List Str := Txt.split z "."
theorem split_dot {z : Str} : Txt.split z (Str.ofString ".") = wds z := rfl
def sps (z : Str) : List Str := Txt.split z " "
def nls (z : Str) : List Str := Txt.split z "\n"
theorem split_sp {z : Str} : Txt.split z (Str.ofString " ") = sps z := rfl
theorem split_nl {z : Str} : Txt.split z (Str.ofString "\n") = nls z := rfl
theorem dot_len : ((Str.ofString ".").length == 0) = false := by decide +kernel
theorem sp_len : ((Str.ofString " ").length == 0) = false := by decide +kernel
theorem nl_len : ((Str.ofString "\n").length == 0) = false := by decide +kernel
section
variable {CX : CXT} {P : Program} {w : World} {K : PySem.W.Frag} {mg : Str → Option Value} {base : Heap} {N : List Str} {qual : Str} {scope : Scope} {f : Addr} {cd : Value} {A : Around} {outer : List Env} {s : Shared} {H : Hp} {E : XK}
theorem cxOf_K : (cxOf CX P w K mg base N qual scope f cd A outer s H E).K = K := rfl
end
theorem ifP {c A B : Prop} [Decidable c] (h : c) (a : A) : if c then A else B := by rw [if_pos h]; exact a
theorem ifN {c A B : Prop} [Decidable c] (h : ¬ c) (b : B) : if c then A else B := by rw [if_neg h]; exact b
/-! ### a global def with its promise -/
structure Glob (P : Program) (w : World) (K : PySem.W.Frag) (mg : Str → Option Value) (base : Heap) (CX : CXT) (k : Nat) (x : Str) (ps : List Str) (dvs : List V) (sp : Sp) : Prop where
  ex : ∃ f fd ds, FnOk P w K mg base CX k f fd ps sp ∧ mg x = some (.ref f) ∧ PySem.W.keepIn K (.ref f) = true ∧ Vals dvs ds ∧ Binds K fd ps ds
theorem Glob.mono {P : Program} {w : World} {K : PySem.W.Frag} {mg : Str → Option Value} {base : Heap} {CX : CXT} {j k : Nat} {x : Str} {ps : List Str} {dvs : List V} {sp : Sp} (G : Glob P w K mg base CX j x ps dvs sp) (h : j ≤ k) : Glob P w K mg base CX k x ps dvs sp := by
  obtain ⟨f, fd, ds, F, r⟩ := G.ex
  exact ⟨f, fd, ds, F.mono h, r⟩
section
variable {X : Cx} {CX : CXT} {k : Nat} {x : Str} {ps : List Str} {dvs : List V} {sp : Sp} {E : XK} {p pos : Pos} {e : Expr} {es : List Expr} {t : TA}
theorem pe_callG (G : Glob X.prog X.w X.K X.mg X.base CX k x ps dvs sp) (hr : Room k X.A) (hg : Gl X x) (hx : Passes CX X E) (ha : PA X (e :: es) t)
    (hdb : (x == ("__debug__" : Str)) = false := by decide) (he : starEach (e :: es) X.env = (false, eval e X.env) :: starEach es X.env := by rfl) (hpl : (backTo pos (starEach es X.env)).any (·.1) = false := by rfl) :
    PE X (.Call (.Name x p) (e :: es) [] pos) (tCall sp dvs E t) := by
  refine ⟨fun pins s σ H Q I h => ?_⟩
  obtain ⟨f, fd, ds, F, hm, kp, vd, hb⟩ := G.ex
  exact (pe_call F hr hg hm kp hb vd hx ha hdb he hpl).run pins s σ H Q I h
theorem pe_callG0 (G : Glob X.prog X.w X.K X.mg X.base CX k x ps dvs sp) (hr : Room k X.A) (hg : Gl X x) (hx : Passes CX X E) (hdb : (x == ("__debug__" : Str)) = false := by decide) :
    PE X (.Call (.Name x p) [] [] pos) (tCall sp dvs E tNil) := by
  refine ⟨fun pins s σ H Q I h => ?_⟩
  obtain ⟨f, fd, ds, F, hm, kp, vd, hb⟩ := G.ex
  exact (pe_call0 F hr hg hm kp hb vd hx hdb).run pins s σ H Q I h
/-- a def that may raise, called where it does not -/
theorem passN : Passes (L2.CX X.prog X.w) X E0 := fun _ _ _ _ _ _ _ h => by
  obtain ⟨_, _, _, _, _, _, _, _, _, _, _, _, z⟩ := h
  exact z.elim
/-- a module's constant -/
theorem pe_gi {i : Int} (h : ∃ t, X.mg x = some (.int i t)) (hg : Gl X x) (hd : (x == ("__debug__" : Str)) = false := by decide) : PE X (.Name x pos) (tC (.int i)) := by
  obtain ⟨t, h⟩ := h
  exact pe_glob hg h ⟨t, rfl⟩ hd
theorem pe_gs {z : Str} (h : ∃ t, X.mg x = some (.str z t)) (hg : Gl X x) (hd : (x == ("__debug__" : Str)) = false := by decide) : PE X (.Name x pos) (tC (.str z)) := by
  obtain ⟨t, h⟩ := h
  exact pe_glob hg h ⟨t, rfl⟩ hd
end
/-! ### comprehensions: the new list by what has been gathered -/
/-- a comprehension's turns, behind its source -/
def LcG (J : It) (g : TG) (tt : TT) (te : TE) (vs : List Nat) (σ : L2.St) (H1 : Hp) (Q : VK) : Prop := ∀ D, H1 D = none → ∃ W : Nat → Nat → Hp → Prop, (∃ m, W 0 m (upd H1 D (.lst []))) ∧ ∀ i m H, W i m H →
  (J.stop i H ∧ Q (.ref D) H) ∨ (J.go i H ∧ ∃ Nx : Hp → Prop, (∀ H', Nx H' → ∃ m', m' < m ∧ W (i + 1) m' H') ∧ ∀ x H', J.yld i H x H' → g x (wipe σ vs) H' fun σ2 H2 => wipe σ2 vs = wipe σ vs ∧ tt σ2 H2 fun b H3 =>
    if b = true then te σ2 H3 fun y H4 => ∃ acc, H4 D = some (.lst acc) ∧ acc.length < sizeLine ∧ Nx (upd H4 D (.lst (acc ++ [y]))) else Nx H3)
theorem tLc_eq {wi : TI} {g : TG} {tt : TT} {te : TE} {vs : List Nat} {σ : L2.St} {H : Hp} {Q : VK} : tLc wi g tt te vs σ H Q = wi σ H fun J H1 => LcG J g tt te vs σ H1 Q := rfl
/-- a for's turns, behind its source -/
def ForG (J : It) (g : TG) (tb : TS) (D : Ends) (σ : L2.St) (H : Hp) : Prop := ∃ W : Nat → Nat → L2.St → Hp → Prop, (∃ m, W 0 m σ H) ∧ ∀ i m σ H, W i m σ H →
  (J.stop i H ∧ D.nx σ H) ∨ (J.go i H ∧ ∃ N : L2.St → Hp → Prop, (∀ σ' H', N σ' H' → ∃ m', m' < m ∧ W (i + 1) m' σ' H') ∧ ∀ x H', J.yld i H x H' → g x σ H' fun σ2 H2 => tb { D with nx := N, ct := N, bk := D.nx } σ2 H2)
theorem tFor_eq {wi : TI} {g : TG} {tb : TS} {D : Ends} {σ : L2.St} {H : Hp} : tFor wi g tb D σ H = wi σ H fun J H1 => ForG J g tb D σ H1 := rfl
theorem forG {J : It} {n : Nat} {G : Hp → Prop} {Y : Nat → Hp → V → Hp → Prop} (w : Walk J n G Y) {g : TG} {tb : TS} {D : Ends} {σ : L2.St} {H : Hp} (Pv : Nat → L2.St → Hp → Prop) (h0 : Pv 0 σ H) (hG : ∀ i σ H, i ≤ n → Pv i σ H → G H)
    (hs : ∀ i x σ H H', i < n → Pv i σ H → Y i H x H' → g x σ H' fun σ2 H2 => tb { D with nx := Pv (i + 1), ct := Pv (i + 1), bk := D.nx } σ2 H2) (hd : ∀ σ H, Pv n σ H → D.nx σ H) : ForG J g tb D σ H := for_it w Pv h0 hG hs hd
theorem lc_acc {J : It} {n : Nat} {G : Hp → Prop} {Y : Nat → Hp → V → Hp → Prop} (w : Walk J n G Y) {g : TG} {tt : TT} {te : TE} {vs : List Nat} {σ : L2.St} {H1 : Hp} {Q : VK} (S : Addr → Prop) (Iv : Hp → Prop) (Pa : Nat → List V → Prop)
    (hn : n < sizeLine) (nD : ∀ D, H1 D = none → ¬ S D) (h0 : Pa 0 []) (i0 : Iv H1) (hI : ∀ D H o, H1 D = none → Iv H → Iv (upd H D o)) (hG : ∀ H, Ext S H1 H → Iv H → G H)
    (hs : ∀ i x H H' acc (R : Option V → Hp → Prop), i < n → Ext S H1 H → Iv H → Pa i acc → Y i H x H' →
      (∀ H2, Ext S H H2 → Iv H2 → Pa (i + 1) acc → R none H2) → (∀ y H2, Ext S H H2 → Iv H2 → Pa (i + 1) (acc ++ [y]) → R (some y) H2) →
      g x (wipe σ vs) H' fun σ2 H2 => wipe σ2 vs = wipe σ vs ∧ tt σ2 H2 fun b H3 => if b = true then te σ2 H3 (fun y H4 => R (some y) H4) else R none H3)
    (hd : ∀ D acc H, H1 D = none → Pa n acc → acc.length ≤ n → Ext S H1 H → Iv H → H D = some (.lst acc) → Q (.ref D) H) : LcG J g tt te vs σ H1 Q := by
  intro D fD
  have nD := nD D fD
  have hI := fun H o => hI D H o fD
  refine lc_it w (fun i H => ∃ acc, Pa i acc ∧ acc.length ≤ i ∧ Ext S H1 H ∧ Iv H ∧ H D = some (.lst acc)) ⟨[], h0, Nat.le_refl _, (Ext.refl S H1).put (.inl fD), hI _ _ i0, upd_same⟩ (fun i H _ ⟨acc, _, _, e, iv, _⟩ => hG H e iv) (fun i x H H' hi hP hy => ?_)
    (fun H ⟨acc, p, l, e, iv, hD⟩ => hd D acc H fD p l e iv hD)
  obtain ⟨acc, p, l, e, iv, hD⟩ := hP
  refine hs i x H H' acc (fun o H4 => match o with
    | some y => ∃ acc, H4 D = some (.lst acc) ∧ acc.length < sizeLine ∧ ∃ acc', Pa (i + 1) acc' ∧ acc'.length ≤ i + 1 ∧ Ext S H1 (upd H4 D (.lst (acc ++ [y]))) ∧ Iv (upd H4 D (.lst (acc ++ [y]))) ∧ (upd H4 D (.lst (acc ++ [y]))) D = some (.lst acc')
    | none => ∃ acc', Pa (i + 1) acc' ∧ acc'.length ≤ i + 1 ∧ Ext S H1 H4 ∧ Iv H4 ∧ H4 D = some (.lst acc')) hi e iv p hy (fun H2 e2 iv2 p2 => ?_) (fun y H2 e2 iv2 p2 => ?_)
  · exact ⟨acc, p2, Nat.le_succ_of_le l, e.trans e2, iv2, e2 D _ nD hD⟩
  · exact ⟨acc, e2 D _ nD hD, Nat.lt_of_le_of_lt (Nat.le_trans l (Nat.le_of_lt hi)) hn, acc ++ [y], p2, by rw [List.length_append]; exact Nat.succ_le_succ l, (e.trans e2).put (.inl fD), hI _ _ iv2, upd_same⟩
section
variable {K : PySem.W.Frag} {a b : Addr}
theorem walk_listm {α : Type} (xs : List α) (inj : α → V) : Walk (Itl K a) xs.length (fun H => SqL K H a (xs.map inj)) (fun i H x H' => H' = H ∧ ∃ y, xs[i]? = some y ∧ x = inj y) := by
  have w := walk_list (K := K) (a := a) (xs := xs.map inj)
  rw [List.length_map] at w
  refine w.mono (fun H h => h) (fun i H x H' hi _ y => ⟨y.1, ?_⟩)
  have h := y.2
  rw [List.getElem?_map] at h
  cases q : xs[i]? with
  | none => rw [q] at h; cases h
  | some z => rw [q] at h; exact ⟨z, rfl, (Option.some.inj h).symm⟩
theorem walk_tupm {α : Type} (xs : List α) (inj : α → V) : Walk (Itt K a) xs.length (fun H => SqT K H a (xs.map inj)) (fun i H x H' => H' = H ∧ ∃ y, xs[i]? = some y ∧ x = inj y) := by
  have w := walk_tup (K := K) (a := a) (xs := xs.map inj)
  rw [List.length_map] at w
  refine w.mono (fun H h => h) (fun i H x H' hi _ y => ⟨y.1, ?_⟩)
  have h := y.2
  rw [List.getElem?_map] at h
  cases q : xs[i]? with
  | none => rw [q] at h; cases h
  | some z => rw [q] at h; exact ⟨z, rfl, (Option.some.inj h).symm⟩
/-- zip of two lists: a new pair at each turn -/
theorem walk_zipm {α β : Type} (xs : List α) (ys : List β) (f : α → V) (g : β → V) : Walk (Itz K a b) (xs.zip ys).length (fun H => SqL K H a (xs.map f) ∧ SqL K H b (ys.map g))
    (fun i H v H' => ∃ (t : Addr) (q : α × β), v = .ref t ∧ H t = none ∧ H' = upd H t (.tup [f q.1, g q.2]) ∧ (xs.zip ys)[i]? = some q) := by
  have w := walk_zip (K := K) (a := a) (b := b) (xs := xs.map f) (ys := ys.map g) (n := (xs.zip ys).length) (by rw [List.length_zip, List.length_map, List.length_map])
  refine w.mono (fun H h => h) (fun i H x H' hi _ y => ?_)
  obtain ⟨t, x1, x2, e1, e2, e3, e4, e5⟩ := y
  have h1 : (xs.zip ys)[i]? = some (xs.zip ys)[i] := List.getElem?_eq_getElem hi
  have h2 := List.getElem?_zip_eq_some.mp h1
  have e6 : x1 = f (xs.zip ys)[i].1 := by
    have e4 : (xs.map f)[i]? = some x1 := e4
    rw [List.getElem?_map, h2.1] at e4
    exact (Option.some.inj e4).symm
  have e7 : x2 = g (xs.zip ys)[i].2 := by
    have e5 : (ys.map g)[i]? = some x2 := e5
    rw [List.getElem?_map, h2.2] at e5
    exact (Option.some.inj e5).symm
  exact ⟨t, _, e1, e2, by rw [e3, e6, e7], h1⟩
theorem ixN_in {n : Nat} {i : Int} (h0 : 0 ≤ i) (h1 : i < n) : ixN n i = some i.toNat := by
  unfold ixN
  rw [if_pos h0, if_pos h1]
theorem atI_neg1 {xs : List V} (h : xs ≠ []) : atI xs (-1) = xs.getLast? := by
  have e : xs = xs.dropLast ++ [xs.getLast h] := (List.dropLast_concat_getLast h).symm
  rw [e, atI_last]
  simp
end
/-- a comprehension that changes nothing that stood: the new list is F of the items, where it is some -/
theorem lc_fil {α : Type} (xs : List α) (F : α → Option V) {J : It} {G : Hp → Prop} {Y : Nat → Hp → V → Hp → Prop} (w : Walk J xs.length G Y) {g : TG} {tt : TT} {te : TE} {vs : List Nat} {σ : L2.St} {H1 : Hp} {Q : VK}
    (hn : xs.length ≤ 100000) (hG : ∀ H, Same H1 H → G H)
    (hs : ∀ i a x H H' (R : Option V → Hp → Prop), xs[i]? = some a → Same H1 H → Y i H x H' → (∀ H2, Same H H2 → R (F a) H2) →
      g x (wipe σ vs) H' fun σ2 H2 => wipe σ2 vs = wipe σ vs ∧ tt σ2 H2 fun b H3 => if b = true then te σ2 H3 (fun y H4 => R (some y) H4) else R none H3)
    (hd : ∀ D H, H1 D = none → Same H1 H → H D = some (.lst (xs.filterMap F)) → Q (.ref D) H) : LcG J g tt te vs σ H1 Q := by
  refine lc_acc w No (fun _ => True) (fun i acc => acc = (xs.take i).filterMap F) (smallLt hn) (fun _ _ z => z) rfl trivial (fun _ _ _ _ _ => trivial) (fun H e _ => hG H e.same) (fun i x H H' acc R hi e _ p hy r0 r1 => ?_) (fun D acc H fD p _ e _ hD => ?_)
  · have hx : xs[i]? = some xs[i] := List.getElem?_eq_getElem hi
    refine hs i xs[i] x H H' R hx e.same hy (fun H2 s2 => ?_)
    cases q : F xs[i] with
    | none =>
      refine r0 H2 (.of_same s2) trivial ?_
      rw [p, List.take_add_one, hx, List.filterMap_append]
      simp [q]
    | some y =>
      refine r1 y H2 (.of_same s2) trivial ?_
      rw [p, List.take_add_one, hx, List.filterMap_append]
      simp [q]
  · subst p
    refine hd D H fD e.same ?_
    rw [hD, List.take_length]
/-- .. the new list is f of the items -/
theorem lc_map {α : Type} (xs : List α) (f : α → V) {J : It} {G : Hp → Prop} {Y : Nat → Hp → V → Hp → Prop} (w : Walk J xs.length G Y) {g : TG} {te : TE} {vs : List Nat} {σ : L2.St} {H1 : Hp} {Q : VK}
    (hn : xs.length ≤ 100000) (hG : ∀ H, Same H1 H → G H)
    (hs : ∀ i a x H H' (R : VK), xs[i]? = some a → Same H1 H → Y i H x H' → (∀ H2, Same H H2 → R (f a) H2) →
      g x (wipe σ vs) H' fun σ2 H2 => wipe σ2 vs = wipe σ vs ∧ te σ2 H2 R)
    (hd : ∀ D H, H1 D = none → Same H1 H → H D = some (.lst (xs.map f)) → Q (.ref D) H) : LcG J g tYes te vs σ H1 Q := by
  refine lc_fil xs (fun a => some (f a)) w hn hG (fun i a x H H' R hx s1 hy r => ?_) (fun D H fD s1 hD => hd D H fD s1 ?_)
  · simp only [tYes, if_true]
    exact hs i a x H H' (fun v h => R (some v) h) hx s1 hy r
  · rw [hD]
    simp
end Hk

set_option Elab.async false
set_option linter.all false
set_option maxRecDepth 100000
set_option maxHeartbeats 4000000
/-! The rules that speak of X.K, with K told (a comprehension's block has an X of its own). -/
namespace Hk
open PySem PySem.Spec PyProof.Rows L2
section
variable {X : Cx} {K : PySem.W.Frag} (hK : X.K = K)
include hK
theorem ix_listK : IxR X (rIxL K) := by subst hK; exact ix_list
theorem ix_tupK : IxR X (rIxT K) := by subst hK; exact ix_tup
theorem sl_listK : SlR X (rSlL K) := by subst hK; exact sl_list
theorem sl_tupK : SlR X (rSlA K) := by subst hK; exact sl_tupA
theorem op_in_seqK : OpR X (compareOp .In) (rIn K false) := by subst hK; exact op_in_seq
theorem op_notIn_seqK : OpR X (compareOp .NotIn) (rIn K true) := by subst hK; exact op_notIn_seq
def rLenK (K : PySem.W.Frag) : List V → Hp → VK → Prop := fun xs H Q => ∃ p ys, xs = [.ref p] ∧ (SqL K H p ys ∨ SqT K H p ys) ∧ Q (.int ys.length) H
theorem call_len_seqK : CallR X (.builtin "len") (rLenK K) := by subst hK; exact call_len_seq
theorem cr_allK (hc : X.calm = true) : CallR X (.builtin "all") (rAll K) := by subst hK; exact cr_all hc
theorem cr_anyK (hc : X.calm = true) : CallR X (.builtin "any") (rAny K) := by subst hK; exact cr_any hc
def rListOf (K : PySem.W.Frag) : List V → Hp → VK → Prop := fun xs H Q => ∃ p ys, xs = [.ref p] ∧ (SqL K H p ys ∨ SqT K H p ys) ∧ ∀ l, H l = none → Q (.ref l) (upd H l (.lst ys))
theorem call_list_ofK : CallR X (.type "list") (rListOf K) := by subst hK; exact call_list_of
theorem op_eqDK (hu : X.A.units + 64 < cLine) : OpR X (compareOp .Eq) (rEqD K) := by subst hK; exact op_eqD hu
theorem op_neDK (hu : X.A.units + 64 < cLine) : OpR X (compareOp .NotEq) (rNeD K) := by subst hK; exact op_neD hu
theorem op_catAK : OpR X (binaryOp .Add) (rCatA K) := by subst hK; exact op_catA
theorem pi_listK {tg l : Expr} {tl : TE} (hl : PE X l tl) : PI X tg l (iList K tl) := by subst hK; exact pi_list hl
theorem pi_tupK {tg l : Expr} {tl : TE} (hl : PE X l tl) : PI X tg l (iTup K tl) := by subst hK; exact pi_tup hl
theorem pi_zipK {e e2 : Expr} {ta : TA} {p pos tpos : Pos} {elts : List Expr} {kk : Nat} (hg : Gl X "zip") (hm : X.mg "zip" = none) (ha : PA X [e, e2] ta)
    (hs : starEach [e, e2] X.env = (false, eval e X.env) :: starEach [e2] X.env := by rfl) (hpl : (backTo pos (starEach [e2] X.env)).any (·.1) = false := by rfl) :
    PI X (.Tuple elts kk tpos) (.Call (.Name "zip" p) [e, e2] [] pos) (iZip K ta) := by subst hK; exact pi_zip hg hm ha hs hpl
theorem pi_enumK {e : Expr} {ta : TA} {p pos tpos : Pos} {elts : List Expr} {kk : Nat} (hg : Gl X "enumerate") (hm : X.mg "enumerate" = none) (ha : PA X [e] ta) (hs : starEach [e] X.env = [(false, eval e X.env)] := by rfl) :
    PI X (.Tuple elts kk tpos) (.Call (.Name "enumerate" p) [e] [] pos) (iEnum K ta) := by subst hK; exact pi_enum hg hm ha hs
theorem pg_tupK {es : List Expr} {k : Nat} {t : TGs} {n : Nat} {pos : Pos} (hc : X.calm = true) (h : PGs X es t) (hn : (assignEach es X.env).length = n := by rfl) (hst : (assignEach es X.env).findIdx? (·.1) = none := by rfl) :
    PG X (.Tuple es k pos) (gTup K n t) := by subst hK; exact pg_tup hc h hn hst
theorem pe_bm0K {o : Expr} {to : TE} {name : Str} {apos cpos : Pos} {T id : String} {r : V → List V → Hp → VK → Prop} (pa : PlainAttrs T) (slot : Slot T name id) (hty : typeOf (.builtin id) = pure (.type "method_descriptor")) (hm : MtR X id r) (ho : PE X o to)
    (hbase : attributeBase o name X.env (eval o X.env) = eval o X.env := by rfl) (hline : (apos.endLine == cpos.line) = true := by rfl) : PE X (.Call (.Attribute o name apos) [] [] cpos) (tBM0 K T r to) := by
  subst hK; exact pe_bm0 pa slot hty hm ho hbase hline
theorem pe_bmK {o e : Expr} {es : List Expr} {to : TE} {t : TA} {name : Str} {apos cpos : Pos} {T id : String} {r : V → List V → Hp → VK → Prop} (pa : PlainAttrs T) (slot : Slot T name id) (hty : typeOf (.builtin id) = pure (.type "method_descriptor")) (hm : MtR X id r) (ho : PE X o to) (ha : PA X (e :: es) t)
    (hbase : attributeBase o name X.env (eval o X.env) = eval o X.env := by rfl)
    (hfew : ((backTo cpos (starEach (e :: es) X.env)).all (fun x => !x.1) && (backToKw cpos (keywordEach [] X.env)).all (fun x => x.1.isSome)
      && decide ((e :: es).length + ([] : List Keyword).length + (if ([] : List Keyword).isEmpty then 0 else 1) < 30)) = true := by rfl)
    (hline : (apos.endLine == cpos.line) = true := by rfl) (hs : starEach (e :: es) X.env = (false, eval e X.env) :: starEach es X.env := by rfl) (hplain : (backTo cpos (starEach es X.env)).any (·.1) = false := by rfl) :
    PE X (.Call (.Attribute o name apos) (e :: es) [] cpos) (tBM K T r to t) := by subst hK; exact pe_bm pa slot hty hm ho ha hbase hfew hline hs hplain
def rJoin (K : PySem.W.Frag) : V → List V → Hp → VK → Prop := fun x xs H Q => ∃ a p, ∃ ys : List Str, x = .str a ∧ xs = [.ref p] ∧ (SqL K H p (ys.map V.str) ∨ SqT K H p (ys.map V.str)) ∧
      (ys.map (·.length)).sum + ys.length * a.length ≤ 16777216 ∧ Q (.str (Txt.join a ys)) H
theorem pe_joinK {o e : Expr} {to te : TE} {apos pos : Pos} (ho : PE X o to) (he : PE X e te) (hs : starEach [e] X.env = [(false, eval e X.env)] := by rfl) (hbase : attributeBase o "join" X.env (eval o X.env) = eval o X.env := by rfl) (hline : (apos.endLine == pos.line) = true := by rfl) :
    PE X (.Call (.Attribute o "join" apos) [e] [] pos) (tM1 (rJoin K) to te) := by subst hK; exact pe_join ho he hs hbase hline
theorem pt_truthK {a : Expr} {ta : TE} (ha : PE X a ta) (he : ∀ whole, isTrue a X.env whole = (do let v ← whole; standAt a.pos; holding [v] (truthy v))) :
    PT X a (fun σ H Q => ta σ H fun x H' => ∃ k, TruV K x H' k ∧ Q k H') := by subst hK; exact pt_truth ha he
theorem pe_notTK {a : Expr} {ta : TE} {pos : Pos} (ha : PE X a ta) : PE X (.UnaryOp .Not a pos) (tNotT K ta) := by subst hK; exact pe_notT ha
theorem mt_indexK : MtR X "list.index" (rIndex K) := by subst hK; exact mt_index
theorem mt_lcountK : MtR X "list.count" (rCntI K) := by subst hK; exact mt_lcount
theorem pe_fldK {e : Expr} {f : Str} {ta : TE} {pos : Pos} (he : PE X e ta) (hb : attributeBase e f X.env (eval e X.env) = eval e X.env) : PE X (.Attribute e f pos) (tFld K ta f) := by subst hK; exact pe_fld he hb
end
/-! ### words for readings -/
theorem scal_ss {a b : Str} : scal (.str a) (.str b) = true := rfl
theorem scal_ii {a b : Int} : scal (.int a) (.int b) = true := rfl
theorem scal_bb {a b : Bool} : scal (.bl a) (.bl b) = true := rfl
theorem scal_ns {b : Str} : scal .non (.str b) = true := rfl
theorem scal_sn {b : Str} : scal (.str b) .non = true := rfl
theorem scal_nn : scal .non .non = true := rfl
theorem scal_in {a : Int} : scal (.int a) .non = true := rfl
theorem scal_ni {a : Int} : scal .non (.int a) = true := rfl
theorem gCons_cons {t : TG} {u : TGs} {x : V} {xs : List V} {σ : L2.St} {H : Hp} {Q : L2.St → Hp → Prop} : gCons t u (x :: xs) σ H Q = t x σ H fun σ' H' => u xs σ' H' Q := propext ⟨fun ⟨v, r, e, h⟩ => by cases e; exact h, fun h => ⟨x, xs, rfl, h⟩⟩
theorem gNil_nil {σ : L2.St} {H : Hp} {Q : L2.St → Hp → Prop} : gNil [] σ H Q = Q σ H := propext ⟨fun h => h.2, fun h => ⟨rfl, h⟩⟩
theorem gTup_ref {K : PySem.W.Frag} {n : Nat} {t : TGs} {a : Addr} {σ : L2.St} {H : Hp} {Q : L2.St → Hp → Prop} : gTup K n t (.ref a) σ H Q = ∃ xs, SqT K H a xs ∧ xs.length = n ∧ t xs σ H Q := propext ⟨fun ⟨_, xs, e, h⟩ => by cases e; exact ⟨xs, h⟩, fun ⟨xs, h⟩ => ⟨a, xs, rfl, h⟩⟩
theorem rSetL_ref {p : Addr} {k : Int} {v : V} {H : Hp} {Q : Hp → Prop} : rSetL (.ref p) (.int k) v H Q = ∃ xs j, H p = some (.lst xs) ∧ ixN xs.length k = some j ∧ Q (upd H p (.lst (xs.set j v))) := propext ⟨fun ⟨_, xs, _, j, e, e2, h⟩ => by cases e; cases e2; exact ⟨xs, j, h⟩, fun ⟨xs, j, h⟩ => ⟨p, xs, k, j, rfl, rfl, h⟩⟩
theorem rCat_ref {l b : Addr} {H : Hp} {Q : VK} : rCat (.ref l) (.ref b) H Q = ∃ xs zs, H l = some (.lst xs) ∧ H b = some (.lst zs) ∧ xs.length + zs.length ≤ sizeLine ∧ ∀ p, H p = none → Q (.ref p) (upd H p (.lst (xs ++ zs))) := propext ⟨fun ⟨_, _, xs, zs, e, e2, h⟩ => by cases e; cases e2; exact ⟨xs, zs, h⟩, fun ⟨xs, zs, h⟩ => ⟨l, b, xs, zs, rfl, rfl, h⟩⟩
theorem rRep_ref {l : Addr} {k : Int} {H : Hp} {Q : VK} : rRep (.ref l) (.int k) H Q = ∃ xs, H l = some (.lst xs) ∧ -(2 ^ 63) ≤ k ∧ k < 2 ^ 63 ∧ xs.length * k.toNat ≤ sizeLine ∧ ∀ p, H p = none → Q (.ref p) (upd H p (.lst (List.replicate k.toNat xs).flatten)) := propext ⟨fun ⟨_, _, xs, e, e2, h⟩ => by cases e; cases e2; exact ⟨xs, h⟩, fun ⟨xs, h⟩ => ⟨l, k, xs, rfl, rfl, h⟩⟩
theorem rJoin_ref {K : PySem.W.Frag} {a : Str} {p : Addr} {H : Hp} {Q : VK} : rJoin K (.str a) [.ref p] H Q = ∃ ys : List Str, (SqL K H p (ys.map V.str) ∨ SqT K H p (ys.map V.str)) ∧ (ys.map (·.length)).sum + ys.length * a.length ≤ 16777216 ∧ Q (.str (Txt.join a ys)) H := propext ⟨fun ⟨_, _, xs, e, e2, h⟩ => by cases e; cases e2; exact ⟨xs, h⟩, fun ⟨xs, h⟩ => ⟨a, p, xs, rfl, rfl, h⟩⟩
theorem rSlL_ref {K : PySem.W.Frag} {a : Addr} {lo hi : Option Int} {H : Hp} {Q : VK} : rSlL K (.ref a) lo hi H Q = ∃ xs, SqL K H a xs ∧ ∀ p, H p = none → Q (.ref p) (upd H p (.lst (cutV xs lo hi))) := propext ⟨fun ⟨_, xs, e, h⟩ => by cases e; exact ⟨xs, h⟩, fun ⟨xs, h⟩ => ⟨a, xs, rfl, h⟩⟩
theorem rSlS_ref {z : Str} {lo hi : Option Int} {H : Hp} {Q : VK} : rSlS (.str z) lo hi H Q = (z.length ≤ sizeLine ∧ Q (.str (cutS z lo hi)) H) := propext ⟨fun ⟨_, e, h⟩ => by cases e; exact h, fun h => ⟨z, rfl, h⟩⟩
theorem rIxL_ref {K : PySem.W.Frag} {p : Addr} {i : Int} {H : Hp} {Q : VK} : rIxL K (.ref p) (.int i) H Q = ∃ xs v, SqL K H p xs ∧ atI xs i = some v ∧ Q v H := propext ⟨fun ⟨_, xs, _, v, e, e2, h⟩ => by cases e; cases e2; exact ⟨xs, v, h⟩, fun ⟨xs, v, h⟩ => ⟨p, xs, i, v, rfl, rfl, h⟩⟩
theorem rIxT_ref {K : PySem.W.Frag} {p : Addr} {i : Int} {H : Hp} {Q : VK} : rIxT K (.ref p) (.int i) H Q = ∃ xs v, SqT K H p xs ∧ atI xs i = some v ∧ Q v H := propext ⟨fun ⟨_, xs, _, v, e, e2, h⟩ => by cases e; cases e2; exact ⟨xs, v, h⟩, fun ⟨xs, v, h⟩ => ⟨p, xs, i, v, rfl, rfl, h⟩⟩
theorem rLenK_ref {K : PySem.W.Frag} {p : Addr} {H : Hp} {Q : VK} : rLenK K [.ref p] H Q = ∃ ys, (SqL K H p ys ∨ SqT K H p ys) ∧ Q (.int ys.length) H := propext ⟨fun ⟨_, ys, e, h⟩ => by cases e; exact ⟨ys, h⟩, fun ⟨ys, h⟩ => ⟨p, ys, rfl, h⟩⟩
theorem rAll_ref {K : PySem.W.Frag} {p : Addr} {H : Hp} {Q : VK} : rAll K [.ref p] H Q = ∃ bs : List Bool, SqL K H p (bs.map V.bl) ∧ Q (.bl (bs.all id)) H := propext ⟨fun ⟨_, ys, e, h⟩ => by cases e; exact ⟨ys, h⟩, fun ⟨ys, h⟩ => ⟨p, ys, rfl, h⟩⟩
theorem rIn_ref {K : PySem.W.Frag} {b : Bool} {p : Addr} {x : V} {H : Hp} {Q : VK} : rIn K b x (.ref p) H Q = ∃ xs, (SqL K H p xs ∨ SqT K H p xs) ∧ flatV x = true ∧ xs.all flatV = true ∧ Q (.bl (if b then !inV x xs else inV x xs)) H := propext ⟨fun ⟨_, ys, e, h⟩ => by cases e; exact ⟨ys, h⟩, fun ⟨ys, h⟩ => ⟨p, ys, rfl, h⟩⟩
/-! ### a text once or not at all -/
def rMulS : R2 := fun x y H Q => ∃ z n, x = .str z ∧ y = .int n ∧ (n = 0 ∨ n = 1) ∧ Q (.str (if n = 1 then z else Str.empty)) H
theorem op_mulS {X : Cx} : OpR X (binaryOp .Mult) rMulS := by
  intro pins s σ H x y v u Q I rx ry h
  obtain ⟨z, n, rfl, rfl, hn, q⟩ := h
  obtain ⟨t, rfl⟩ := rx
  obtain ⟨t', rfl⟩ := ry
  refine SB.mul ?_ fun t2 k => ⟨.str (Txt.mul z n), H, I.tok _, ⟨_, rfl⟩, ?_⟩
  · rcases hn with rfl | rfl
    · exact ⟨by decide, fun h => absurd (by decide) h, fun h => absurd (by decide) h⟩
    · exact ⟨by decide, fun _ h => by simp at h, fun _ h => by simp at h⟩
  · have e : Txt.mul z n = if n = 1 then z else Str.empty := by
      rcases hn with rfl | rfl
      · rfl
      · rfl
    rw [e]; exact q
theorem rMulS_ref {z : Str} {n : Int} {H : Hp} {Q : VK} : rMulS (.str z) (.int n) H Q = ((n = 0 ∨ n = 1) ∧ Q (.str (if n = 1 then z else Str.empty)) H) := propext ⟨fun ⟨_, _, e, e2, h⟩ => by cases e; cases e2; exact h, fun h => ⟨z, n, rfl, rfl, h⟩⟩
/-! ### isinstance -/
section
variable {X : Cx} {K : PySem.W.Frag} (hK : X.K = K)
include hK
theorem call_isiK1 : CallR X (.builtin "isinstance") (rIsi K) := by subst hK; exact call_isi
theorem call_isiTK : CallR X (.builtin "isinstance") (rIsiT K) := by subst hK; exact call_isiT
theorem ix_seqK : IxR X (rIx K) := by subst hK; exact ix_seq
end
def tyName : PyData → String
  | .none => "NoneType"
  | .bool _ => "bool"
  | .int _ => "int"
  | .str _ => "str"
  | .list _ => "list"
  | .tuple _ => "tuple"
  | .dict _ => "dict"
theorem tyx_dp {K : PySem.W.Frag} {H : Hp} {x : V} {d : PyData} (h : Dp K H x d) : TyX K H x (.type (tyName d)) := by
  cases h with
  | non => exact .base .non
  | bl b => exact .base (.bl b)
  | int i => exact .base (.int i)
  | str x => exact .base (.str x)
  | lst h _ =>
    rcases h with (h | ⟨o, h⟩) | ⟨o, its, n, h, c, _⟩
    · exact .base (.lst h)
    · exact .base (.frz h)
    · exact .kList h c
  | tup h _ =>
    rcases h with (h | ⟨o, h⟩) | ⟨o, its, n, h, c, _⟩
    · exact .base (.tup h)
    · exact .fTuple h
    · exact .kTuple h c
theorem isi_dp {K : PySem.W.Frag} {H : Hp} {x : V} {d : PyData} {n : String} {b : Bool} {Q : VK} (h : Dp K H x d) (e : kitB (tyName d) n = some b) (q : Q (.bl b) H) : rIsi K [x, .ty n] H Q :=
  ⟨x, .ty n, _, _, b, rfl, .ty n, tyx_dp h, kit_ty e, q⟩
theorem isiT_dp {K : PySem.W.Frag} {H : Hp} {x : V} {d : PyData} {tp : Addr} {n m : String} {b c : Bool} {Q : VK} (h : Dp K H x d) (ht : H tp = some (.tup [.ty n, .ty m])) (e : kitB (tyName d) n = some b) (e2 : kitB (tyName d) m = some c) (q : Q (.bl (b || c)) H) : rIsiT K [x, .ref tp] H Q := by
  refine ⟨x, tp, _, _, [.type n, .type m], b || c, rfl, ht, .cons (.ty n) (.cons (.ty m) .nil), tyx_dp h, kitAny_cons (kit_ty e) (fun hb => ?_) (fun hb => by rw [hb]; rfl), q⟩
  subst hb
  exact kitAny_cons (r := c) (kit_ty e2) (fun hc => by rw [hc]; exact kitAny_nil) (fun hc => hc)
theorem kb_NoneType_tuple : kitB "NoneType" "tuple" = some false := by decide +kernel
theorem kb_NoneType_list : kitB "NoneType" "list" = some false := by decide +kernel
theorem kb_NoneType_str : kitB "NoneType" "str" = some false := by decide +kernel
theorem kb_NoneType_int : kitB "NoneType" "int" = some false := by decide +kernel
theorem kb_NoneType_bool : kitB "NoneType" "bool" = some false := by decide +kernel
theorem kb_bool_tuple : kitB "bool" "tuple" = some false := by decide +kernel
theorem kb_bool_list : kitB "bool" "list" = some false := by decide +kernel
theorem kb_bool_str : kitB "bool" "str" = some false := by decide +kernel
theorem kb_bool_int : kitB "bool" "int" = some true := by decide +kernel
theorem kb_bool_bool : kitB "bool" "bool" = some true := by decide +kernel
theorem kb_int_tuple : kitB "int" "tuple" = some false := by decide +kernel
theorem kb_int_list : kitB "int" "list" = some false := by decide +kernel
theorem kb_int_str : kitB "int" "str" = some false := by decide +kernel
theorem kb_int_int : kitB "int" "int" = some true := by decide +kernel
theorem kb_int_bool : kitB "int" "bool" = some false := by decide +kernel
theorem kb_str_tuple : kitB "str" "tuple" = some false := by decide +kernel
theorem kb_str_list : kitB "str" "list" = some false := by decide +kernel
theorem kb_str_str : kitB "str" "str" = some true := by decide +kernel
theorem kb_str_int : kitB "str" "int" = some false := by decide +kernel
theorem kb_str_bool : kitB "str" "bool" = some false := by decide +kernel
theorem kb_list_tuple : kitB "list" "tuple" = some false := by decide +kernel
theorem kb_list_list : kitB "list" "list" = some true := by decide +kernel
theorem kb_list_str : kitB "list" "str" = some false := by decide +kernel
theorem kb_list_int : kitB "list" "int" = some false := by decide +kernel
theorem kb_list_bool : kitB "list" "bool" = some false := by decide +kernel
theorem kb_tuple_tuple : kitB "tuple" "tuple" = some true := by decide +kernel
theorem kb_tuple_list : kitB "tuple" "list" = some false := by decide +kernel
theorem kb_tuple_str : kitB "tuple" "str" = some false := by decide +kernel
theorem kb_tuple_int : kitB "tuple" "int" = some false := by decide +kernel
theorem kb_tuple_bool : kitB "tuple" "bool" = some false := by decide +kernel
mutual
/-- every list and tuple within is of bounded length -/
def smallD : PyData → Bool
  | .list xs => decide (xs.length ≤ 100000) && smallAll xs
  | .tuple xs => decide (xs.length ≤ 100000) && smallAll xs
  | .none => true
  | .bool _ => true
  | .int _ => true
  | .str _ => true
  | .dict _ => true
def smallAll : List PyData → Bool
  | [] => true
  | x :: r => smallD x && smallAll r
end
theorem small_in : ∀ {ds : List PyData}, smallAll ds = true → ∀ d ∈ ds, smallD d = true
  | [], _, _, h => nomatch h
  | x :: r, h, d, hd => by
    simp only [smallAll, Bool.and_eq_true] at h
    rcases List.mem_cons.mp hd with e | e
    · rw [e]; exact h.1
    · exact small_in h.2 d e
theorem smallAll_of : ∀ {ds : List PyData}, (∀ d ∈ ds, smallD d = true) → smallAll ds = true
  | [], _ => by simp only [smallAll]
  | x :: r, h => by
    simp only [smallAll]
    rw [h x (List.mem_cons_self ..), smallAll_of fun d hd => h d (List.mem_cons_of_mem _ hd)]; rfl
theorem smallL_of {ds : List PyData} (hl : ds.length ≤ 100000) (h : ∀ d ∈ ds, smallD d = true) : smallD (.list ds) = true := by
  simp only [smallD]
  rw [decide_eq_true hl, smallAll_of h]; rfl
theorem smallT_of {ds : List PyData} (hl : ds.length ≤ 100000) (h : ∀ d ∈ ds, smallD d = true) : smallD (.tuple ds) = true := by
  simp only [smallD]
  rw [decide_eq_true hl, smallAll_of h]; rfl
/-! ### == of data -/
theorem dpAll_map {K : PySem.W.Frag} {H : Hp} {α : Type} {f : α → V} {g : α → PyData} : ∀ {xs : List α}, (∀ a ∈ xs, Dp K H (f a) (g a)) → DpAll K H (xs.map f) (xs.map g)
  | [], _ => .nil
  | a :: r, h => .cons (h a (List.mem_cons_self ..)) (dpAll_map fun b hb => h b (List.mem_cons_of_mem _ hb))
mutual
theorem dp_same {K : PySem.W.Frag} {H H' : Hp} (s : Same H H') : ∀ {v : V} {d : PyData}, Dp K H v d → Dp K H' v d
  | _, _, .non => .non
  | _, _, .bl b => .bl b
  | _, _, .int i => .int i
  | _, _, .str x => .str x
  | _, _, .lst h a => .lst (s.seq h) (dpAll_same s a)
  | _, _, .tup h a => .tup (same_tup s h) (dpAll_same s a)
theorem dpAll_same {K : PySem.W.Frag} {H H' : Hp} (s : Same H H') : ∀ {vs : List V} {ds : List PyData}, DpAll K H vs ds → DpAll K H' vs ds
  | _, _, .nil => .nil
  | _, _, .cons h a => .cons (dp_same s h) (dpAll_same s a)
end
theorem dpAll_len {K : PySem.W.Frag} {H : Hp} : ∀ {vs : List V} {ds : List PyData}, DpAll K H vs ds → vs.length = ds.length
  | _, _, .nil => rfl
  | _, _, .cons _ a => by rw [List.length_cons, List.length_cons, dpAll_len a]
theorem dpAll_get {K : PySem.W.Frag} {H : Hp} : ∀ {vs : List V} {ds : List PyData} {i : Nat} {d : PyData}, DpAll K H vs ds → ds[i]? = some d → ∃ v, vs[i]? = some v ∧ Dp K H v d
  | _, _, _, _, .nil, e => by simp at e
  | _, _, 0, _, .cons h _, e => by simp at e; subst e; exact ⟨_, rfl, h⟩
  | _, _, i + 1, _, .cons _ a, e => by
    obtain ⟨v, e1, e2⟩ := dpAll_get (i := i) a (by simpa using e)
    exact ⟨v, by simpa using e1, e2⟩
theorem depth_in : ∀ {ds : List PyData} {d : PyData}, d ∈ ds → d.depth ≤ PyData.depthAll ds
  | [], _, h => nomatch h
  | x :: r, d, h => by
    simp only [PyData.depthAll]
    rcases List.mem_cons.mp h with e | e
    · rw [e]; exact Nat.le_max_left _ _
    · exact Nat.le_trans (depth_in e) (Nat.le_max_right _ _)
theorem canAll_of : ∀ {ds : List PyData}, (∀ d ∈ ds, d.canLay0 = true) → PyData.canLayAll0 ds = true
  | [], _ => by simp only [PyData.canLayAll0]
  | d :: r, h => by
    simp only [PyData.canLayAll0]
    rw [h d (List.mem_cons_self ..), canAll_of fun b hb => h b (List.mem_cons_of_mem _ hb)]; rfl
theorem depthAll_of {k : Nat} : ∀ {ds : List PyData}, (∀ d ∈ ds, d.depth ≤ k) → PyData.depthAll ds ≤ k
  | [], _ => by simp only [PyData.depthAll]; omega
  | d :: r, h => by
    simp only [PyData.depthAll]
    exact Nat.max_le.mpr ⟨h d (List.mem_cons_self ..), depthAll_of fun b hb => h b (List.mem_cons_of_mem _ hb)⟩
theorem shaped_list {ds : List PyData} (k : Nat) (hk : k ≤ 63) (h : ∀ d ∈ ds, d.canLay0 = true ∧ d.depth ≤ k) : SeqAt.shaped (.list ds) = true := by
  unfold SeqAt.shaped
  refine Bool.and_eq_true_iff.mpr ⟨?_, decide_eq_true ?_⟩
  · simp only [PyData.canLay0]
    exact canAll_of fun d hd => (h d hd).1
  · have := depthAll_of fun d hd => (h d hd).2
    simp only [PyData.depth]
    omega
theorem shaped_tuple {ds : List PyData} (k : Nat) (hk : k ≤ 63) (h : ∀ d ∈ ds, d.canLay0 = true ∧ d.depth ≤ k) : SeqAt.shaped (.tuple ds) = true := by
  unfold SeqAt.shaped
  refine Bool.and_eq_true_iff.mpr ⟨?_, decide_eq_true ?_⟩
  · simp only [PyData.canLay0]
    exact canAll_of fun d hd => (h d hd).1
  · have := depthAll_of fun d hd => (h d hd).2
    simp only [PyData.depth]
    omega
theorem shaped_ints (ns : List Int) : SeqAt.shaped (.list (ns.map PyData.int)) = true := shaped_list 0 (by decide) fun d hd => by
  obtain ⟨n, _, rfl⟩ := List.mem_map.mp hd
  exact ⟨by simp only [PyData.canLay0], by simp only [PyData.depth]; omega⟩
theorem eqv_nil (ds : List PyData) : PyData.eqv (.list ds) (.list []) = ds.isEmpty := by
  cases ds with
  | nil => simp only [PyData.eqv, PyData.eqvAll]; rfl
  | cons d r => simp only [PyData.eqv, PyData.eqvAll]; rfl
theorem cut_last {xs : List V} : cutV xs none (some (-1)) = xs.dropLast := by
  unfold cutV
  rw [HT.sIx_none]
  have e : HT.sIx xs.length xs.length (some (-1)) = xs.length - 1 := by
    unfold HT.sIx
    simp only
    rw [if_pos (show (-1 : Int) < 0 by decide)]
    omega
  rw [e, List.drop_zero, Nat.sub_zero, List.dropLast_eq_take]
/-! ### texts of signs -/
theorem joinL_nil : ∀ ps : List (List Nat), TL.joinL [] ps = ps.flatten
  | [] => rfl
  | [p] => by simp [TL.joinL]
  | p :: q :: r => by
    show p ++ ([] ++ TL.joinL [] (q :: r)) = _
    rw [joinL_nil (q :: r)]; simp
theorem tl_signs (cs : List Nat) : TL.tl (Txt.join (Str.ofString "") (cs.map fun c => (⟨#[c]⟩ : Str))) = cs := by
  rw [TL.join_eq, TL.tl_join, show TL.tl (Str.ofString "") = [] by decide +kernel, joinL_nil, List.map_map]
  induction cs with
  | nil => rfl
  | cons c r ih =>
    show [c] ++ _ = _
    rw [ih]; rfl
/-! ### a block cut in two: R is what is known between -/
def tCutE (t u : TS) : TS := fun D σ H => ∃ R : L2.St → Hp → Prop, t { D with nx := R } σ H ∧ ∀ σ' H', R σ' H' → u D σ' H'
theorem pss_cutE {X : Cx} {st : Stmt} {rest : List Stmt} {t u : TS} (h1 : PS X st t) (h2 : PSs X rest u) : PSs X (st :: rest) (tCutE t u) := by
  refine ⟨fun pins s σ H D I ⟨R, h, hr⟩ => ?_⟩
  refine wpAny_execs_cons (thn (h1.run pins s σ H { D with nx := R } I h) fun f s1 q => ?_)
  cases f with
  | next =>
    obtain ⟨σ', H', I', q⟩ := q
    exact h2.run pins s1 σ' H' D I' (hr σ' H' q)
  | ret v => exact q
  | brk => exact q
  | cont => exact q
theorem newF {H H3 : Hp} {p : Addr} {o : HO} (hH : upd H p o = H3) (hp : H p = none) : Same H H3 ∧ H3 p = some o := by
  subst hH
  exact ⟨same_put (Same.refl _) hp, upd_same⟩
/-! ### a heap without one object -/
def offA (p : Addr) (H : Hp) : Hp := fun b => if b = p then none else H b
theorem offA_ne {p b : Addr} {H : Hp} (h : b ≠ p) : offA p H b = H b := if_neg h
theorem offA_upd {p : Addr} {H : Hp} {o : HO} : offA p (upd H p o) = offA p H := by
  funext b; unfold offA upd
  split <;> rfl
theorem offA_same {p : Addr} {H : Hp} : Same (offA p H) H := fun b o h => by
  unfold offA at h
  split at h
  · cases h
  · exact h
theorem offA_mono {p : Addr} {H H' : Hp} (s : Same H H') : Same (offA p H) (offA p H') := fun b o h => by
  unfold offA at h ⊢
  split at h
  · cases h
  · rename_i n; rw [if_neg n]; exact s b o h
theorem dpAll_snoc {K : PySem.W.Frag} {H : Hp} {v : V} {d : PyData} (h1 : Dp K H v d) : ∀ {vs : List V} {ds : List PyData}, DpAll K H vs ds → DpAll K H (vs ++ [v]) (ds ++ [d])
  | _, _, .nil => .cons h1 .nil
  | _, _, .cons a b => .cons a (dpAll_snoc h1 b)
theorem ext_off {S : Addr → Prop} {p : Addr} {H H' : Hp} (s : Ext S H H') : Ext S (offA p H) (offA p H') := fun b o n h => by
  unfold offA at h ⊢
  split at h
  · cases h
  · rename_i z; rw [if_neg z]; exact s b o n h
/-- a comprehension: what is known of the heap without the new list goes with what is gathered -/
theorem lc_accH {J : It} {n : Nat} {G : Hp → Prop} {Y : Nat → Hp → V → Hp → Prop} (w : Walk J n G Y) {g : TG} {tt : TT} {te : TE} {vs : List Nat} {σ : L2.St} {H1 : Hp} {Q : VK} (S : Addr → Prop) (Jv : Nat → List V → Hp → Prop)
    (hn : n < sizeLine) (nD : ∀ D, H1 D = none → ¬ S D) (h0 : Jv 0 [] H1) (hG : ∀ H D i acc, H1 D = none → Ext S H1 H → Jv i acc (offA D H) → G H)
    (hs : ∀ D i x H H' acc (R : Option V → Hp → Prop), H1 D = none → H D = some (.lst acc) → i < n → Ext S H1 H → Jv i acc (offA D H) → Y i H x H' →
      (∀ H2, Ext S H H2 → Jv (i + 1) acc (offA D H2) → R none H2) → (∀ y H2, Ext S H H2 → Jv (i + 1) (acc ++ [y]) (offA D H2) → R (some y) H2) →
      g x (wipe σ vs) H' fun σ2 H2 => wipe σ2 vs = wipe σ vs ∧ tt σ2 H2 fun b H3 => if b = true then te σ2 H3 (fun y H4 => R (some y) H4) else R none H3)
    (hd : ∀ D acc H, H1 D = none → acc.length ≤ n → Ext S H1 H → Jv n acc (offA D H) → H D = some (.lst acc) → Q (.ref D) H) : LcG J g tt te vs σ H1 Q := by
  intro D fD
  have nD := nD D fD
  have e0 : offA D (upd H1 D (.lst [])) = H1 := by
    rw [offA_upd]; funext b; unfold offA
    split
    · rename_i e; rw [e, fD]
    · rfl
  refine lc_it w (fun i H => ∃ acc, Jv i acc (offA D H) ∧ acc.length ≤ i ∧ Ext S H1 H ∧ H D = some (.lst acc)) ⟨[], by rw [e0]; exact h0, Nat.le_refl _, (Ext.refl S H1).put (.inl fD), upd_same⟩ (fun i H _ ⟨acc, j, _, e, _⟩ => hG H D i acc fD e j) (fun i x H H' hi hP hy => ?_)
    (fun H ⟨acc, p, l, e, hD⟩ => hd D acc H fD l e p hD)
  obtain ⟨acc, p, l, e, hD⟩ := hP
  refine hs D i x H H' acc (fun o H4 => match o with
    | some y => ∃ acc, H4 D = some (.lst acc) ∧ acc.length < sizeLine ∧ ∃ acc', Jv (i + 1) acc' (offA D (upd H4 D (.lst (acc ++ [y])))) ∧ acc'.length ≤ i + 1 ∧ Ext S H1 (upd H4 D (.lst (acc ++ [y]))) ∧ (upd H4 D (.lst (acc ++ [y]))) D = some (.lst acc')
    | none => ∃ acc', Jv (i + 1) acc' (offA D H4) ∧ acc'.length ≤ i + 1 ∧ Ext S H1 H4 ∧ H4 D = some (.lst acc')) fD hD hi e p hy (fun H2 e2 p2 => ?_) (fun y H2 e2 p2 => ?_)
  · exact ⟨acc, p2, Nat.le_succ_of_le l, e.trans e2, e2 D _ nD hD⟩
  · exact ⟨acc, e2 D _ nD hD, Nat.lt_of_le_of_lt (Nat.le_trans l (Nat.le_of_lt hi)) hn, acc ++ [y], by rw [offA_upd]; exact p2, by rw [List.length_append]; exact Nat.succ_le_succ l, (e.trans e2).put (.inl fD), upd_same⟩
/-! ### tuples at addresses -/
def TupsAt (H : Hp) : List Addr → List (List V) → Prop
  | [], [] => True
  | t :: ts, x :: xs => H t = some (.tup x) ∧ TupsAt H ts xs
  | _, _ => False
theorem TupsAt.mono {H H' : Hp} (e : ∀ t x, H t = some (.tup x) → H' t = some (.tup x)) : ∀ {ts : List Addr} {xs : List (List V)}, TupsAt H ts xs → TupsAt H' ts xs
  | [], [], _ => trivial
  | _ :: _, _ :: _, h => ⟨e _ _ h.1, TupsAt.mono e h.2⟩
  | [], _ :: _, h => h.elim
  | _ :: _, [], h => h.elim
theorem TupsAt.snoc {H : Hp} {t : Addr} {x : List V} (h1 : H t = some (.tup x)) : ∀ {ts : List Addr} {xs : List (List V)}, TupsAt H ts xs → TupsAt H (ts ++ [t]) (xs ++ [x])
  | [], [], _ => ⟨h1, trivial⟩
  | _ :: _, _ :: _, h => ⟨h.1, TupsAt.snoc h1 h.2⟩
  | [], _ :: _, h => h.elim
  | _ :: _, [], h => h.elim
theorem TupsAt.len {H : Hp} : ∀ {ts : List Addr} {xs : List (List V)}, TupsAt H ts xs → ts.length = xs.length
  | [], [], _ => rfl
  | _ :: _, _ :: _, h => by rw [List.length_cons, List.length_cons, TupsAt.len h.2]
  | [], _ :: _, h => h.elim
  | _ :: _, [], h => h.elim
theorem TupsAt.get {H : Hp} : ∀ {ts : List Addr} {xs : List (List V)} {i : Nat} {t : Addr}, TupsAt H ts xs → ts[i]? = some t → ∃ x, xs[i]? = some x ∧ H t = some (.tup x)
  | [], [], _, _, _, e => by simp at e
  | _ :: _, x :: _, 0, _, h, e => by simp at e; subst e; exact ⟨x, rfl, h.1⟩
  | _ :: _, _ :: _, i + 1, _, h, e => by
    obtain ⟨x, e1, e2⟩ := TupsAt.get (i := i) h.2 (by simpa using e)
    exact ⟨x, by simpa using e1, e2⟩
  | [], _ :: _, _, _, h, _ => h.elim
  | _ :: _, [], _, _, h, _ => h.elim
theorem TupsAt.dp {K : PySem.W.Frag} {H : Hp} {α : Type} {f : α → List V} {d : α → PyData} (hf : ∀ t a, H t = some (.tup (f a)) → Dp K H (.ref t) (d a)) : ∀ {ts : List Addr} {as : List α}, TupsAt H ts (as.map f) → DpAll K H (ts.map V.ref) (as.map d)
  | [], [], _ => .nil
  | _ :: _, _ :: _, h => .cons (hf _ _ h.1) (TupsAt.dp hf h.2)
  | [], _ :: _, h => h.elim
  | _ :: _, [], h => h.elim
theorem walk_tups {K : PySem.W.Frag} {D : Addr} {α : Type} {us : List Addr} {as : List α} (hl : us.length = as.length) : Walk (Itl K D) (us.zip as).length (fun H => SqL K H D (us.map V.ref)) (fun j H x H' => H' = H ∧ ∃ y, (us.zip as)[j]? = some y ∧ x = .ref y.1) := by
  have w := walk_listm (K := K) (a := D) us V.ref
  have el : (us.zip as).length = us.length := by rw [List.length_zip]; omega
  rw [el]
  refine w.mono (fun H h => h) (fun i H x H' hi _ y => ⟨y.1, ?_⟩)
  obtain ⟨t, e1, e2⟩ := y.2
  have hi2 : i < as.length := by omega
  refine ⟨(t, as[i]), List.getElem?_zip_eq_some.mpr ⟨e1, List.getElem?_eq_getElem hi2⟩, e2⟩
theorem TupsAt.zat {H : Hp} {α : Type} {f : α → List V} {us : List Addr} {as : List α} {j : Nat} {y : Addr × α} (h : TupsAt H us (as.map f)) (hy : (us.zip as)[j]? = some y) : H y.1 = some (.tup (f y.2)) ∧ y.2 ∈ as := by
  obtain ⟨h1, h2⟩ := List.getElem?_zip_eq_some.mp hy
  obtain ⟨x, e1, e2⟩ := h.get h1
  rw [List.getElem?_map, h2] at e1
  cases e1
  exact ⟨e2, List.mem_of_getElem? h2⟩
theorem zip_snd_map {α β : Type} {us : List Addr} {as : List α} (hl : us.length = as.length) (f : α → β) : (us.zip as).map (fun q => f q.2) = as.map f := by
  have : as = (us.zip as).map Prod.snd := by rw [List.map_snd_zip (by omega)]
  conv => rhs; rw [this, List.map_map]
  rfl
end Hk

set_option Elab.async false
set_option linter.all false
set_option maxRecDepth 100000
set_option maxHeartbeats 4000000
/-! An if whose two sides are told of by what is known there. -/
namespace Hk
open PySem PySem.Spec PyProof.Rows L2
def tIfE (c : TT) (t u : TS) : TS := fun D σ H => ∃ RA RB : Hp → Prop, c σ H (fun b H1 => if b = true then RA H1 else RB H1) ∧ (∀ H1, RA H1 → t D σ H1) ∧ ∀ H1, RB H1 → u D σ H1
theorem ps_ifE {X : Cx} {c : Expr} {a b : List Stmt} {tc : TT} {t u : TS} {pos : Pos} (hc : PT X c tc) (ha : PSs X a t) (hb : PSs X b u) : PS X (.If c a b pos) (tIfE tc t u) := by
  refine ⟨fun pins s σ H D I ⟨RA, RB, h, hA, hB⟩ => ?_⟩
  refine wpAny_If (thn (hc.run pins s σ H _ I h) fun d s1 ⟨H1, I1, q1⟩ => ?_)
  cases d with
  | true => exact ha.run pins s1 σ H1 D I1 (hA H1 q1)
  | false => exact hb.run pins s1 σ H1 D I1 (hB H1 q1)
end Hk

set_option Elab.async false
set_option linter.all false
set_option maxRecDepth 100000
set_option maxHeartbeats 4000000
/-! Lines and patterns, in plain Lean. -/
namespace Hk
open PySem PySem.Spec PyProof.Rows L2 TL
abbrev letters : Str := "abcdefghijklmnopqrstuvwxyz"
def isWord (z : Str) : Bool := decide (1 ≤ z.length) && (decide (z.length ≤ 4) && (tl z).all fun c => decide (c ∈ tl letters))
def isLine (z : Str) : Bool := decide ((wds z).length ≤ 6) && (wds z).all isWord
/-- without the last one, if that is # -/
def cut (ws : List Str) : List Str := if ws.getLast? = some ("#" : Str) then ws.dropLast else ws
def starOr (z : Str) : Bool := decide (z = ("*" : Str)) || isWord z
def isPat (z : Str) : Bool := decide ((cut (wds z)).length ≤ 6) && (cut (wds z)).all starOr
/-- a pattern's words for lines of n -/
def ofLen (p : Str) (n : Int) : Option (List Str) :=
  let ws := wds p
  let us := if ws.getLast? = some ("#" : Str) then ws.dropLast ++ List.replicate (n - ws.dropLast.length).toNat ("*" : Str) else ws
  if (us.length : Int) = n then some us else none
def fit1 (q : Str × Str) : Bool := decide (q.1 = ("*" : Str)) || decide (q.1 = q.2)
def doesFit (p l : Str) : Bool := match ofLen p (wds l).length with
  | none => false
  | some ws => (ws.zip (wds l)).all fit1
theorem wds_ne (z : Str) : wds z ≠ [] := by
  intro h
  have e := split_spl z "." (by decide +kernel) (kind_ok (by decide +kernel))
  have h2 : (Txt.split z (".": Str)).map tl = [] := by
    show (wds z).map tl = []
    rw [h]; rfl
  rw [h2] at e
  have : ∀ (acc l : List Nat), spl (tl (".": Str)) 0 acc l ≠ [] := by
    intro acc l
    induction l generalizing acc with
    | nil => rw [spl_nil]; simp
    | cons c r ih =>
      cases q : pre (tl (".": Str)) (c :: r) with
      | true => rw [spl_hit q]; simp
      | false => rw [spl_miss q]; exact ih _
  exact this _ _ e.symm
theorem split_len_le (z y : Str) (hy : tl y ≠ []) (hk : ¬ Builtin.Str.strKind z < Builtin.Str.strKind y) : (Txt.split z y).length ≤ z.length + 1 := by
  have e := congrArg List.length (split_spl z y hy hk)
  rw [List.length_map] at e
  rw [e]
  have main : ∀ (k : Nat) (l acc : List Nat), l.length ≤ k → (spl (tl y) 0 acc l).length ≤ l.length + 1 := by
    intro k
    induction k with
    | zero =>
      intro l acc h
      have : l = [] := List.eq_nil_of_length_eq_zero (by omega)
      subst this
      rw [spl_nil]; simp
    | succ k ih =>
      intro l acc h
      cases l with
      | nil => rw [spl_nil]; simp
      | cons c r =>
        cases q : pre (tl y) (c :: r) with
        | true =>
          rw [spl_hit q, spl_pass]
          have := ih (r.drop ((tl y).length - 1)) [] (by simp at h; rw [List.length_drop]; omega)
          rw [List.length_drop] at this
          simp only [List.length_cons]
          omega
        | false =>
          rw [spl_miss q]
          have := ih r (acc ++ [c]) (by simpa using h)
          simp only [List.length_cons]
          omega
  have := main _ (tl z) [] (Nat.le_refl _)
  rw [len_tl]; exact this
theorem wds_len (z : Str) : (wds z).length ≤ z.length + 1 := split_len_le z "." (by decide +kernel) (kind_ok (by decide +kernel))
theorem wds_join {ws : List Str} (hne : ws ≠ []) (h : ∀ p ∈ ws, 46 ∉ tl p) : wds (Txt.join "." ws) = ws :=
  split_join (y := ".") (s := 46) (S := []) (by decide +kernel) (by decide +kernel) hne h
/-- every word that a text is cut into is as long as the text at most -/
theorem split_each_le (z y : Str) (hy : tl y ≠ []) (hk : ¬ Builtin.Str.strKind z < Builtin.Str.strKind y) : ∀ w ∈ Txt.split z y, w.length ≤ z.length := by
  intro w hw
  have e := split_spl z y hy hk
  have hm : tl w ∈ spl (tl y) 0 [] (tl z) := by
    rw [← e]; exact List.mem_map.mpr ⟨w, hw, rfl⟩
  have main : ∀ (k : Nat) (l acc : List Nat), l.length ≤ k → ∀ x ∈ spl (tl y) 0 acc l, x.length ≤ acc.length + l.length := by
    intro k
    induction k with
    | zero =>
      intro l acc h x hx
      have : l = [] := List.eq_nil_of_length_eq_zero (by omega)
      subst this
      rw [spl_nil] at hx
      simp at hx; subst hx; simp
    | succ k ih =>
      intro l acc h x hx
      cases l with
      | nil => rw [spl_nil] at hx; simp at hx; subst hx; simp
      | cons c r =>
        cases q : pre (tl y) (c :: r) with
        | true =>
          rw [spl_hit q, spl_pass] at hx
          rcases List.mem_cons.mp hx with rfl | hx
          · simp
          · have := ih (r.drop ((tl y).length - 1)) [] (by simp at h; rw [List.length_drop]; omega) x hx
            rw [List.length_drop] at this
            simp only [List.length_cons, List.length_nil] at this ⊢
            omega
        | false =>
          rw [spl_miss q] at hx
          have := ih r (acc ++ [c]) (by simpa using h) x hx
          simp only [List.length_cons, List.length_append, List.length_nil] at this ⊢
          omega
  have := main _ (tl z) [] (Nat.le_refl _) _ hm
  rw [len_tl w, len_tl z]
  simpa using this
theorem wds_each (z : Str) : ∀ w ∈ wds z, w.length ≤ z.length := split_each_le z "." (by decide +kernel) (kind_ok (by decide +kernel))
/-- .. and of its signs -/
theorem split_mem (z y : Str) (hy : tl y ≠ []) (hk : ¬ Builtin.Str.strKind z < Builtin.Str.strKind y) : ∀ w ∈ Txt.split z y, ∀ c ∈ tl w, c ∈ tl z := by
  intro w hw
  have e := split_spl z y hy hk
  have hm : tl w ∈ spl (tl y) 0 [] (tl z) := by
    rw [← e]; exact List.mem_map.mpr ⟨w, hw, rfl⟩
  have main : ∀ (k : Nat) (l acc : List Nat), l.length ≤ k → ∀ x ∈ spl (tl y) 0 acc l, ∀ c ∈ x, c ∈ acc ∨ c ∈ l := by
    intro k
    induction k with
    | zero =>
      intro l acc h x hx
      have : l = [] := List.eq_nil_of_length_eq_zero (by omega)
      subst this
      rw [spl_nil] at hx
      simp at hx; subst hx; exact fun c hc => .inl hc
    | succ k ih =>
      intro l acc h x hx
      cases l with
      | nil => rw [spl_nil] at hx; simp at hx; subst hx; exact fun c hc => .inl hc
      | cons c r =>
        cases q : pre (tl y) (c :: r) with
        | true =>
          rw [spl_hit q, spl_pass] at hx
          rcases List.mem_cons.mp hx with rfl | hx
          · exact fun c hc => .inl hc
          · have := ih (r.drop ((tl y).length - 1)) [] (by simp at h; rw [List.length_drop]; omega) x hx
            intro d hd
            rcases this d hd with z | z
            · cases z
            · exact .inr (List.mem_cons_of_mem _ (List.mem_of_mem_drop z))
        | false =>
          rw [spl_miss q] at hx
          have := ih r (acc ++ [c]) (by simpa using h) x hx
          intro d hd
          rcases this d hd with z | z
          · rcases List.mem_append.mp z with z | z
            · exact .inl z
            · rw [List.mem_singleton.mp z]; exact .inr (List.mem_cons_self ..)
          · exact .inr (List.mem_cons_of_mem _ z)
  intro c hc
  rcases main _ (tl z) [] (Nat.le_refl _) _ hm c hc with z | z
  · cases z
  · exact z
theorem strOk_iff {z : Str} : PyData.strOk z = true ↔ ∀ c ∈ tl z, c < 1114112 := by
  unfold PyData.strOk
  rw [Array.all_eq_true_iff_forall_mem]
  constructor
  · intro h c hc
    have := h c (Array.mem_toList_iff.mp hc)
    simpa using this
  · intro h c hc
    have := h c (Array.mem_toList_iff.mpr hc)
    simpa using this
theorem split_ok {z y : Str} (hy : tl y ≠ []) (hk : ¬ Builtin.Str.strKind z < Builtin.Str.strKind y) (h : PyData.strOk z = true) : ∀ w ∈ Txt.split z y, PyData.strOk w = true := fun w hw =>
  strOk_iff.mpr fun c hc => strOk_iff.mp h c (split_mem z y hy hk w hw c hc)
theorem shaped_strs {us : List Str} (h : ∀ z ∈ us, PyData.strOk z = true) : SeqAt.shaped (.list (us.map PyData.str)) = true := by
  unfold SeqAt.shaped
  refine Bool.and_eq_true_iff.mpr ⟨?_, decide_eq_true ?_⟩
  · simp only [PyData.canLay0]
    rw [canLayAll_strs', List.all_eq_true]; exact h
  · have : ∀ us : List Str, PyData.depthAll (us.map PyData.str) ≤ 0 := fun us => by
      induction us with
      | nil => simp only [List.map_nil, PyData.depthAll]; omega
      | cons a r ih =>
        simp only [List.map_cons, PyData.depthAll, PyData.depth]
        exact Nat.max_le.mpr ⟨Nat.le_refl _, ih⟩
    have := this us
    simp only [PyData.depth]
    omega
theorem sum_le {ws : List Str} {k : Nat} (h : ∀ w ∈ ws, w.length ≤ k) : (ws.map (·.length)).sum ≤ ws.length * k := by
  induction ws with
  | nil => simp
  | cons a r ih =>
    have h1 := h a (List.mem_cons_self ..)
    have h2 := ih fun w hw => h w (List.mem_cons_of_mem _ hw)
    simp only [List.map_cons, List.sum_cons, List.length_cons]
    rw [Nat.add_mul]; omega
theorem sum_one (cs : List Nat) : ((cs.map fun c => (⟨#[c]⟩ : Str)).map (·.length)).sum = cs.length := by
  induction cs with
  | nil => rfl
  | cons a r ih =>
    simp only [List.map_cons, List.sum_cons, List.length_cons]
    rw [ih]
    show 1 + r.length = _
    omega
theorem joinL_len (S : List Nat) : ∀ ps : List (List Nat), (joinL S ps).length ≤ (ps.map List.length).sum + ps.length * S.length
  | [] => by simp [joinL]
  | [p] => by simp [joinL]
  | p :: q :: r => by
    have := joinL_len S (q :: r)
    show (p ++ (S ++ joinL S (q :: r))).length ≤ _
    simp only [List.length_append, List.map_cons, List.sum_cons, List.length_cons] at this ⊢
    rw [Nat.add_mul _ 1, Nat.one_mul]
    omega
theorem join_len (s : Str) (ws : List Str) : (Txt.join s ws).length ≤ (ws.map (·.length)).sum + ws.length * s.length := by
  have := joinL_len (tl s) (ws.map tl)
  rw [len_tl (Txt.join s ws), join_eq, tl_join, len_tl s]
  rw [List.map_map, List.length_map] at this
  have e : (ws.map (List.length ∘ tl)) = ws.map (·.length) := List.map_congr_left fun w _ => (len_tl w).symm
  rw [e] at this
  exact this
theorem joinD_len {ws : List Str} {k : Nat} (h : ∀ w ∈ ws, w.length ≤ k) : (Txt.join "." ws).length ≤ ws.length * (k + 1) := by
  have h1 := join_len "." ws
  have h2 := sum_le h
  have e : ("." : Str).length = 1 := by decide +kernel
  rw [e] at h1
  rw [Nat.mul_add]
  omega
theorem letters_in : ∀ c ∈ tl letters, 97 ≤ c ∧ c ≤ 122 := by decide +kernel
theorem word_signs {z : Str} (h : isWord z = true) : 1 ≤ z.length ∧ z.length ≤ 4 ∧ ∀ c ∈ tl z, 97 ≤ c ∧ c ≤ 122 := by
  unfold isWord at h
  simp only [Bool.and_eq_true, decide_eq_true_eq, List.all_eq_true] at h
  exact ⟨h.1, h.2.1, fun c hc => letters_in c (h.2.2 c hc)⟩
theorem star_signs {z : Str} (h : starOr z = true) : z.length ≤ 4 ∧ (∀ c ∈ tl z, c = 42 ∨ (97 ≤ c ∧ c ≤ 122)) ∧ z ≠ ("#" : Str) := by
  unfold starOr at h
  rcases Bool.or_eq_true_iff.mp h with h | h
  · have e := of_decide_eq_true h
    subst e
    refine ⟨by decide +kernel, ?_, by decide +kernel⟩
    have : tl ("*" : Str) = [42] := by decide +kernel
    rw [this]
    intro c hc; left; simpa using hc
  · obtain ⟨h1, h2, h3⟩ := word_signs h
    refine ⟨h2, fun c hc => .inr (h3 c hc), fun e => ?_⟩
    subst e
    have := h3 35 (by decide +kernel)
    omega
theorem word_star {z : Str} (h : isWord z = true) : starOr z = true := by unfold starOr; rw [h]; simp
theorem star_nodot {z : Str} (h : starOr z = true) : 46 ∉ tl z := fun hc => by
  rcases (star_signs h).2.1 46 hc with e | e
  · cases e
  · omega
/-- a pattern of such words; with # behind -/
theorem isPat_join {us : List Str} (hne : us ≠ []) (hl : us.length ≤ 6) (h : ∀ u ∈ us, starOr u = true) : isPat (Txt.join "." us) = true := by
  have e : wds (Txt.join "." us) = us := wds_join hne fun p hp => star_nodot (h p hp)
  unfold isPat
  rw [e]
  have ec : cut us = us := by
    unfold cut
    refine if_neg fun z => ?_
    have := List.mem_of_getLast? z
    exact (star_signs (h _ this)).2.2 rfl
  rw [ec, decide_eq_true hl, List.all_eq_true.mpr h]; rfl
theorem isPat_hash {us : List Str} (hl : us.length ≤ 6) (h : ∀ u ∈ us, starOr u = true) : isPat (Txt.join "." (us ++ [("#" : Str)])) = true := by
  have e : wds (Txt.join "." (us ++ [("#" : Str)])) = us ++ [("#" : Str)] := wds_join (by simp) fun p hp => by
    rcases List.mem_append.mp hp with hp | hp
    · exact star_nodot (h p hp)
    · rw [List.mem_singleton.mp hp]; decide +kernel
  unfold isPat
  rw [e]
  have ec : cut (us ++ [("#" : Str)]) = us := by
    unfold cut
    rw [if_pos (by simp)]
    simp
  rw [ec, decide_eq_true hl, List.all_eq_true.mpr h]; rfl
theorem isLine_join {us : List Str} (hne : us ≠ []) (hl : us.length ≤ 6) (h : ∀ u ∈ us, isWord u = true) : isLine (Txt.join "." us) = true := by
  have e : wds (Txt.join "." us) = us := wds_join hne fun p hp => star_nodot (word_star (h p hp))
  unfold isLine
  rw [e, decide_eq_true hl, List.all_eq_true.mpr h]; rfl
/-- words of few letters, one to four of them each -/
def fewWord (z : Str) : Prop := 1 ≤ z.length ∧ z.length ≤ 4 ∧ ∀ c ∈ tl z, c = 97 ∨ c = 98 ∨ c = 122
theorem few_word {z : Str} (h : fewWord z) : isWord z = true := by
  unfold isWord
  rw [decide_eq_true h.1, decide_eq_true h.2.1, Bool.true_and, Bool.true_and, List.all_eq_true]
  intro c hc
  refine decide_eq_true ?_
  rcases h.2.2 c hc with e | e | e
  · rw [e]; decide +kernel
  · rw [e]; decide +kernel
  · rw [e]; decide +kernel
end Hk

set_option Elab.async false
set_option linter.all false
set_option maxRecDepth 100000
set_option maxHeartbeats 4000000
/-! Functions as values: closures that outlive the frame that made them. -/
namespace Hk
open PySem PySem.Spec PyProof.Rows L2 LamX NdefX
/-! ### cells that are tracked -/
/-- the cell at c holds v; its object is ob -/
def CellO (c : Addr) (v : V) (ob : Obj) : HO := .frz ob (.ext fun h => ∃ u, L2.RelV v u ∧ h.IsCell c (some u))
def IsC (H : Hp) (c : Addr) (v : V) : Prop := ∃ ob, H c = some (CellO c v ob)
theorem IsC.ext {H H' : Hp} {c : Addr} {v : V} (h : IsC H c v) (e : ∀ ob, H c = some (CellO c v ob) → H' c = some (CellO c v ob)) : IsC H' c v := h.elim fun ob q => ⟨ob, e ob q⟩
theorem cellO_ok {P : Program} {w : World} {H : Hp} {h : Heap} {c : Addr} {v : V} {u : Value} {ob : Obj} (r : L2.RelV v u) (e : h.get? c = some ob) (d : ob.data = .cell (some u)) : ObjOk P w H h c (CellO c v ob) :=
  ⟨e, ⟨u, r, ob, e, d⟩, ⟨ob, e⟩, fun h1 h2 ⟨u, r, o, e, d⟩ st => ⟨u, r, o, st _ e, d⟩⟩
theorem cellO_at {P : Program} {w : World} {H : Hp} {h : Heap} {c : Addr} {v : V} {ob : Obj} (x : ObjOk P w H h c (CellO c v ob)) : h.get? c = some ob ∧ ∃ u, L2.RelV v u ∧ ob.data = .cell (some u) := by
  obtain ⟨e, ⟨u, r, o, e2, d⟩, _⟩ := x
  rw [e] at e2
  cases e2
  exact ⟨e, u, r, d⟩
/-- is one of the cells of cl -/
def InC (cl : List (Str × Addr)) (a : Addr) : Prop := ∃ y, cl.lookup y = some a
open Classical in
/-- H without these cells -/
noncomputable def delC (cl : List (Str × Addr)) (H : Hp) : Hp := fun a => if InC cl a then none else H a
open Classical in
/-- H with these cells as they are in G -/
noncomputable def putC (cl : List (Str × Addr)) (G H : Hp) : Hp := fun a => if InC cl a then G a else H a
theorem delC_in {cl : List (Str × Addr)} {H : Hp} {a : Addr} (h : InC cl a) : delC cl H a = none := by unfold delC; exact if_pos h
theorem delC_out {cl : List (Str × Addr)} {H : Hp} {a : Addr} (h : ¬ InC cl a) : delC cl H a = H a := by unfold delC; exact if_neg h
theorem putC_in {cl : List (Str × Addr)} {G H : Hp} {a : Addr} (h : InC cl a) : putC cl G H a = G a := by unfold putC; exact if_pos h
theorem putC_out {cl : List (Str × Addr)} {G H : Hp} {a : Addr} (h : ¬ InC cl a) : putC cl G H a = H a := by unfold putC; exact if_neg h
/-- the captured names fr, each in a cell of its own that holds what ws says -/
structure CapsAt (cl : List (Str × Addr)) (fr : List Str) (ws : List V) (H : Hp) : Prop where
  len : ws.length = fr.length
  inj : ∀ x y c, cl.lookup x = some c → cl.lookup y = some c → x = y
  only : ∀ y c, cl.lookup y = some c → y ∈ fr
  has : ∀ (i : Nat) (y : Str), fr[i]? = some y → ∃ c v, cl.lookup y = some c ∧ ws[i]? = some v ∧ IsC H c v
theorem CapsAt.tr {cl : List (Str × Addr)} {fr : List Str} {ws : List V} {H : Hp} (C : CapsAt cl fr ws H) {a : Addr} (h : InC cl a) : ∃ v, IsC H a v := by
  obtain ⟨y, e⟩ := h
  obtain ⟨i, hi⟩ := List.mem_iff_getElem?.mp (C.only y a e)
  obtain ⟨c, v, e1, _, e3⟩ := C.has i y hi
  rw [e] at e1
  cases e1
  exact ⟨v, e3⟩
theorem CapsAt.mono {cl : List (Str × Addr)} {fr : List Str} {ws : List V} {H H' : Hp} (C : CapsAt cl fr ws H) (e : ∀ a, InC cl a → ∀ v, IsC H a v → IsC H' a v) : CapsAt cl fr ws H' :=
  ⟨C.len, C.inj, C.only, fun i y h => by
    obtain ⟨c, v, e1, e2, e3⟩ := C.has i y h
    exact ⟨c, v, e1, e2, e c ⟨y, e1⟩ v e3⟩⟩
/-- what is no locked thing is none of the cells -/
theorem CapsAt.out {cl : List (Str × Addr)} {fr : List Str} {ws : List V} {H : Hp} (C : CapsAt cl fr ws H) {a : Addr} {o : HO} (h : H a = some o) (n : ∀ ob u, o ≠ .frz ob u) : ¬ InC cl a := fun z => by
  obtain ⟨v, ob, e⟩ := C.tr z
  rw [h] at e
  exact n _ _ (Option.some.inj e)
theorem CapsAt.outN {cl : List (Str × Addr)} {fr : List Str} {ws : List V} {H : Hp} (C : CapsAt cl fr ws H) {a : Addr} (h : H a = none) : ¬ InC cl a := fun z => by
  obtain ⟨v, ob, e⟩ := C.tr z
  rw [h] at e
  cases e
theorem CapsAt.del {cl : List (Str × Addr)} {fr : List Str} {ws : List V} {H : Hp} (C : CapsAt cl fr ws H) {a : Addr} {o : HO} (h : H a = some o) (n : ∀ ob u, o ≠ .frz ob u) : delC cl H a = some o := by rw [delC_out (C.out h n)]; exact h
section
variable {P : Program} {w : World} {cl : List (Str × Addr)} {fr : List Str} {ws : List V} {H H' : Hp} {h h' B : Heap} {fs : List Addr}
theorem CapsAt.hokDel (C : CapsAt cl fr ws H) (hok : HOk P w H h) : HOk P w (delC cl H) h := fun a o e => by
  have na : ¬ InC cl a := fun z => by rw [delC_in z] at e; cases e
  rw [delC_out na] at e
  exact (hok a o e).stay (fun _ _ _ q => q) (fun b q => C.del q (fun _ _ z => by cases z)) fun b xs q => C.del q (fun _ _ z => by cases z)
/-- behind the body: the cells are as they were -/
theorem CapsAt.hokPut (C : CapsAt cl fr ws H) (hok0 : HOk P w H h) (hok : HOk P w H' h') (kp : ∀ a, InC cl a → ∀ o, h.get? a = some o → h'.get? a = some o) (fr0 : ∀ a, InC cl a → H' a = none) : HOk P w (putC cl H H') h' := fun a o e => by
  by_cases z : InC cl a
  · rw [putC_in z] at e
    obtain ⟨v, ob, e2⟩ := C.tr z
    rw [e] at e2
    cases e2
    obtain ⟨e3, u, r, d⟩ := cellO_at (hok0 a _ e)
    exact cellO_ok r (kp a z _ e3) d
  · rw [putC_out z] at e
    have st : ∀ b o, H' b = some o → putC cl H H' b = some o := fun b o q => by
      rw [putC_out (fun z => by rw [fr0 b z] at q; cases q)]; exact q
    exact (hok a o e).stay (fun _ _ _ q => q) (fun b q => st b _ q) fun b xs q => st b _ q
theorem CapsAt.un (C : CapsAt cl fr ws H) (u : Un fs [] (delC cl H) H' h h') (ex : ∀ a, InC cl a → ∃ o, h.get? a = some o) : Un fs [] H (putC cl H H') h h' where
  keep := fun b o e n => u.keep b o e (by rw [delC_out (C.outN n)]; exact n)
  slot := fun b o e n => u.slot b o e (by rw [delC_out (C.outN n)]; exact n)
  free := fun b o e n z => by rw [putC_out (C.outN n)]; exact u.free b o e (by rw [delC_out (C.outN n)]; exact n) z
  there := u.there
  tups := fun b xs e => by
    have q := C.out e (fun _ _ z => by cases z)
    rw [putC_out q]; exact u.tups b xs (by rw [delC_out q]; exact e)
  frzs := fun b o x e => by
    by_cases z : InC cl b
    · rw [putC_in z]; exact e
    · rw [putC_out z]; exact u.frzs b o x (by rw [delC_out z]; exact e)
  tbls := fun b ps e => by
    have q := C.out e (fun _ _ z => by cases z)
    rw [putC_out q]; exact u.tbls b ps (by rw [delC_out q]; exact e)
theorem CapsAt.ub (C : CapsAt cl fr ws H) (u : UB fs (delC cl H) H' h B h') : UB fs H (putC cl H H') h B h' where
  keep := fun b o e n => u.keep b o e (by rw [delC_out (C.outN n)]; exact n)
  slot := u.slot
  free := fun b o e n => by rw [putC_out (C.outN n)]; exact u.free b o e (by rw [delC_out (C.outN n)]; exact n)
  there := u.there
  tups := fun b xs e => by
    have q := C.out e (fun _ _ z => by cases z)
    rw [putC_out q]; exact u.tups b xs (by rw [delC_out q]; exact e)
  frzs := fun b o x e => by
    by_cases z : InC cl b
    · rw [putC_in z]; exact e
    · rw [putC_out z]; exact u.frzs b o x (by rw [delC_out z]; exact e)
  tbls := fun b ps e => by
    have q := C.out e (fun _ _ z => by cases z)
    rw [putC_out q]; exact u.tbls b ps (by rw [delC_out q]; exact e)
end
/-! ### a function value's promise -/
/-- called at level k, the function at f keeps the promise sp -/
def Act (P : Program) (w : World) (K : PySem.W.Frag) (mg : Str → Option Value) (base : Heap) (k : Nat) (f : Addr) (sp : Sp) : Prop :=
  ∀ (A : Around) (outer : List Env) (s : Shared) (H : Hp) (us : List Value) (vs : List V) (Q : VK) (E : XK), Room k A → Env0 P w K mg base A outer s H → Vals vs us → sp vs H Q E →
    PySem.W.FnAt f s.heap ∧ codeAny (model P w) A (.call (.ref f) ⟨us, []⟩) (CR (L2.CX P w) outer P w H s Q E) s
section
variable {P : Program} {w : World} {K : PySem.W.Frag} {mg : Str → Option Value} {base : Heap} {j k : Nat} {f : Addr} {sp sp' : Sp}
theorem Act.mono (a : Act P w K mg base j f sp) (h : j ≤ k) : Act P w K mg base k f sp := fun A outer s H us vs Q E hr => a A outer s H us vs Q E (hr.mono h)
theorem Act.imp (a : Act P w K mg base k f sp) (h : ∀ vs H Q E, sp' vs H Q E → sp vs H Q E) : Act P w K mg base k f sp' := fun A outer s H us vs Q E hr e0 r q => a A outer s H us vs Q E hr e0 r (h _ _ _ _ q)
theorem CR.weak {outer : List Env} {H : Hp} {s s' : Shared} {Q : VK} {E : XK} {r : Result} (h : CR CX0 outer P w H s Q E r s') : CR (L2.CX P w) outer P w H s Q E r s' := by
  cases r with
  | ok fl =>
    cases fl with
    | ret u => exact h
    | next => exact False.elim h
    | brk => exact False.elim h
    | cont => exact False.elim h
  | error e => exact False.elim h
/-- the promise of a closure, over the heap with its cells: spN is told of the heap without them -/
def spClo (f : Addr) (F : NF) (fr : List Str) (spN : List (Option V) → Sp) : Sp := fun vs H Q E => ∃ ws, H f = some (FnO f F) ∧ H F.c = some (CodeO F.c F.qual) ∧ CapsAt F.cl fr ws H ∧
  spN (ws.map some) vs (delC F.cl H) (fun v H' => (∀ a, InC F.cl a → H' a = none) → Q v (putC F.cl H H')) (fun cls d H' => (∀ a, InC F.cl a → H' a = none) → E cls d (putC F.cl H H'))
theorem fnO_nf {f : Addr} {F : NF} (ob : Obj) (u : HO) : FnO f F ≠ .frz ob u := fun z => by unfold FnO at z; cases z
theorem codeO_nf {f : Addr} {q : Str} (ob : Obj) (u : HO) : CodeO f q ≠ .frz ob u := fun z => by unfold CodeO at z; cases z
/-- what a run over the heap without the cells gives over the heap with them -/
theorem capsRun {cl : List (Str × Addr)} {fr : List Str} {ws : List V} {A : Around} {outer : List Env} {s : Shared} {H : Hp} {Q : VK} {E : XK} {c : Code} (C : CapsAt cl fr ws H) (e0 : Env0 P w K mg base A outer s H)
    (h : Env0 P w K mg base A outer s (delC cl H) → CellsAt cl fr (ws.map some) s.heap (delC cl H) → codeAny (model P w) A c (CR (L2.CX P w) outer P w (delC cl H) s (fun v H' => (∀ a, InC cl a → H' a = none) → Q v (putC cl H H')) (fun cls d H' => (∀ a, InC cl a → H' a = none) → E cls d (putC cl H H'))) s) :
    codeAny (model P w) A c (CR (L2.CX P w) outer P w H s Q E) s := by
  have at_ : ∀ a, InC cl a → ∃ v ob, H a = some (CellO a v ob) ∧ s.heap.get? a = some ob := fun a z => by
    obtain ⟨v, ob, e⟩ := C.tr z
    exact ⟨v, ob, e, (cellO_at (e0.hok a _ e)).1⟩
  have nfs : ∀ a, InC cl a → a ∉ frs outer := fun a z hb => by
    obtain ⟨v, ob, e, _⟩ := at_ a z
    rw [e0.frf a hb] at e
    cases e
  have e1 : Env0 P w K mg base A outer s (delC cl H) := ⟨e0.frames, e0.mod, fun b o e => ⟨(e0.bs b o e).1, by rw [delC_out (C.outN (e0.bs b o e).2)]; exact (e0.bs b o e).2⟩, e0.bsz, e0.funs, fun b hb => by rw [delC_out (C.outN (e0.frf b hb))]; exact e0.frf b hb, C.hokDel e0.hok, e0.bare⟩
  have C1 : CellsAt cl fr (ws.map some) s.heap (delC cl H) := by
    refine ⟨by rw [List.length_map]; exact C.len, fun y c e => ⟨delC_in ⟨y, e⟩, ?_⟩, C.inj, fun i y e => ?_⟩
    · obtain ⟨v, ob, q1, q2⟩ := at_ c ⟨y, e⟩
      obtain ⟨_, u, _, d⟩ := cellO_at (e0.hok c _ q1)
      exact ⟨some u, ob, q2, d⟩
    · obtain ⟨c, v, q1, q2, ob, q3⟩ := C.has i y e
      refine ⟨c, q1, fun v' hv => ?_⟩
      rw [List.getElem?_map, q2] at hv
      cases hv
      obtain ⟨q4, u, r, d⟩ := cellO_at (e0.hok c _ q3)
      exact ⟨u, r, ob, q4, d⟩
  refine codeAny_mono (h e1 C1) fun r s' hq => ?_
  cases r with
  | ok fl =>
    cases fl with
    | ret u =>
      obtain ⟨v, H', os, bare, un, hok, rv, q⟩ := (show CE outer P w (delC cl H) s _ u s' from hq)
      have f0 : ∀ a, InC cl a → H' a = none := fun a z => by
        obtain ⟨v, ob, _, q2⟩ := at_ a z
        exact un.free a ob q2 (delC_in z) (by simp)
      exact ⟨v, putC cl H H', os, bare, C.un un (fun a z => (at_ a z).elim fun v ⟨ob, _, q⟩ => ⟨ob, q⟩), C.hokPut e0.hok hok (fun a z o e => un.keep a o e (delC_in z) (nfs a z) (by simp)) f0, rv, q f0⟩
    | next => exact False.elim hq
    | brk => exact False.elim hq
    | cont => exact False.elim hq
  | error e =>
    obtain ⟨a, B, H', cls, d, e1, fl, hok, ub, na, os, bare, q⟩ := (show L2.CX P w outer (delC cl H) s _ e s' from hq)
    have f0 : ∀ a, InC cl a → H' a = none := fun a z => by
      obtain ⟨v, ob, _, q2⟩ := at_ a z
      exact ub.free a ob q2 (delC_in z)
    have kp : ∀ a, InC cl a → ∀ o, s.heap.get? a = some o → B.get? a = some o := fun a z o e => ub.keep a o e (delC_in z) (nfs a z)
    refine ⟨a, B, putC cl H H', cls, d, e1, fl, C.hokPut e0.hok hok kp f0, C.ub ub, ?_, os, bare, q f0⟩
    have nz : ¬ InC cl a := fun z => by
      obtain ⟨v, ob, _, q2⟩ := at_ a z
      have := kp a z ob q2
      rw [fl.2.1] at this
      cases this
    rw [putC_out nz]
    exact na
theorem act_clo {F : NF} {ps fr : List Str} {spN : List (Option V) → Sp} (N : NOk P w K mg base (L2.CX P w) k f F ps fr spN) : Act P w K mg base k f (spClo f F fr spN) := fun A outer s H us vs Q E hr e0 r h => by
  obtain ⟨ws, hf, hc, C, q⟩ := h
  obtain ⟨od, sl, doc, pm, ctv, ho⟩ := fnO_at e0.hok hf
  refine ⟨⟨_, od, _, sl, ho⟩, capsRun C e0 fun e1 C1 => ?_⟩
  exact N.run A outer s (delC F.cl H) us vs (ws.map some) _ _ hr e1 (C.del hf fnO_nf) (C.del hc codeO_nf) C1 r q
/-- a def of the top is a function value, too -/
theorem act_fn {fd : FuncData} {ps : List Str} (F : FnOk P w K mg base (L2.CX P w) k f fd ps sp) (hb : Binds K fd ps []) (hk : ∃ oc od fd' sl, K.lookup f = some ⟨oc, od, .func fd', sl⟩) : Act P w K mg base k f sp := fun A outer s H us vs Q E hr e0 r h => by
  have KX : K.In s.heap := e0.mod.kin.keeps fun b o e => (e0.bs b o e).1
  obtain ⟨oc, od, fd', sl, lk⟩ := hk
  refine ⟨⟨oc, od, fd', sl, KX _ _ lk⟩, ?_⟩
  have hl : (us ++ ([] : List Value)).length = ps.length := by rw [List.append_nil, ← r.length]; exact F.len _ _ _ _ h
  have := hb s us KX hl
  rw [List.append_nil] at this
  exact F.run A outer s H ⟨us, []⟩ us vs Q E hr e0 this r h
end
/-! ### calls of a function value that a name holds -/
def tCallV (P : Program) (w : World) (K : PySem.W.Frag) (mg : Str → Option Value) (base : Heap) (k i : Nat) (E : XK) (t : TA) : TE := fun σ H Q => ∃ f sp, σ[i]? = some (some (.ref f)) ∧ Act P w K mg base k f sp ∧ t σ H fun vs H1 => sp vs H1 Q E
section
variable {X : Cx} {k i : Nat} {x : Str} {E : XK} {t : TA} {e : Expr} {es : List Expr} {p pos : Pos}
theorem run_act {pins : List (Addr × Obj)} {σ : L2.St} {H : Hp} {s : Shared} {Q : VK} {f : Addr} {sp : Sp} {us : List Value} {vs : List V} (a : Act X.prog X.w X.K X.mg X.base k f sp) (hr : Room k X.A) (hx : Passes (L2.CX X.prog X.w) X E) (I : Inv X pins σ H s) (r : Vals vs us) (q : sp vs H Q E) :
    PySem.W.FnAt f s.heap ∧ wpAny (model X.prog X.w) X.A (call (.ref f) us) (EP X pins σ Q) X.xe s := by
  obtain ⟨z, c⟩ := a X.A X.stack s H us vs Q E hr I.env0 r q
  refine ⟨z, wpAny_call (codeAny_mono c fun r s' hq => ?_)⟩
  cases r with
  | error e => exact hx pins σ H s e s' I hq
  | ok fl =>
    cases fl with
    | ret u => exact I.after hq
    | next => exact False.elim hq
    | brk => exact False.elim hq
    | cont => exact False.elim hq
theorem pe_callV (hr : Room k X.A) (hx : Passes (L2.CX X.prog X.w) X E) (hN : X.N[i]? = some x) (hv : Vis X.env.scope x) (ha : PA X (e :: es) t)
    (hd : (x == ("__debug__" : Str)) = false := by decide) (hcd : (x == ("__classdict__" : Str)) = false := by decide)
    (he : starEach (e :: es) X.env = (false, eval e X.env) :: starEach es X.env := by rfl) (hpl : (backTo pos (starEach es X.env)).any (·.1) = false := by rfl) :
    PE X (.Call (.Name x p) (e :: es) [] pos) (tCallV X.prog X.w X.K X.mg X.base k i E t) := by
  refine ⟨fun pins s σ H Q I h => ?_⟩
  obtain ⟨f, sp, hs, ac, ht⟩ := h
  refine wpAny_Call_Name_kw (thn ((pe_var (pos := p) hN hv hd hcd).run pins s σ H (fun v H1 => v = .ref f ∧ H1 = H) I ⟨.ref f, hs, rfl, rfl⟩) fun u s1 ⟨v, H1, I1, r1, q1⟩ => ?_)
  obtain ⟨ev, eH⟩ := q1
  subst ev
  rw [eH] at I1
  obtain rfl : u = Value.ref f := r1
  have h := thn (ha.run pos pins s1 σ H _ I1 ht) fun us s2 ⟨vs, H2, I2, r, q⟩ => run_act ac hr hx I2 r q
  show wpAny _ _ (callWith pos (.ref f) [] (backTo pos (starEach (e :: es) X.env)) []) _ _ _
  rw [he] at h ⊢
  exact PySem.W.callWith_of (by show ((false || (backTo pos (starEach es X.env)).any (·.1)) || false) = false; rw [hpl]; rfl) PySem.W.keeps_F (PySem.Calls.evalArgs_plain h)
theorem pe_callV0 (hr : Room k X.A) (hx : Passes (L2.CX X.prog X.w) X E) (hN : X.N[i]? = some x) (hv : Vis X.env.scope x)
    (hd : (x == ("__debug__" : Str)) = false := by decide) (hcd : (x == ("__classdict__" : Str)) = false := by decide) :
    PE X (.Call (.Name x p) [] [] pos) (tCallV X.prog X.w X.K X.mg X.base k i E tNil) := by
  refine ⟨fun pins s σ H Q I h => ?_⟩
  obtain ⟨f, sp, hs, ac, q⟩ := h
  refine wpAny_Call_Name_kw (thn ((pe_var (pos := p) hN hv hd hcd).run pins s σ H (fun v H1 => v = .ref f ∧ H1 = H) I ⟨.ref f, hs, rfl, rfl⟩) fun u s1 ⟨v, H1, I1, r1, q1⟩ => ?_)
  obtain ⟨ev, eH⟩ := q1
  subst ev
  rw [eH] at I1
  obtain rfl : u = Value.ref f := r1
  obtain ⟨z, c⟩ := run_act ac hr hx I1 .nil q
  exact PySem.W.callWith_F0 (first := []) z c
end
end Hk

set_option Elab.async false
set_option linter.all false
set_option maxRecDepth 100000
set_option maxHeartbeats 4000000
/-! Lambdas, with or without a default; what a live frame's cells hold, told to a callee. -/
namespace Hk
open PySem PySem.Spec PySem.W PySem.Calls PyProof.Rows L2 LamX NdefX
/-- a lambda's words; dT: the tuple of its defaults -/
structure LF where
  qual : Str
  params : Arguments
  body : Expr
  scope : Scope
  cl : List (Str × Addr)
  c : Addr
  dT : Option Addr
def dVof : Option Addr → Value
  | none => .none
  | some T => .ref T
abbrev lamFd (qual : Str) (params : Arguments) (body : Expr) (scope : Scope) (cl : List (Str × Addr)) (dV pm cdv ctv : Value) : FuncData :=
  { name := "<lambda>", qualname := qual, params := params, body := .expr body, scope := scope, globals := mainGlobals, closure := cl, defaults := dV, kwdefaults := .none, doc := .none, pyModule := pm, annotations := none, code := cdv, closureTuple := ctv, builtins := builtinsNs }
abbrev LF.fd (L : LF) (pm ctv : Value) : FuncData := lamFd L.qual L.params L.body L.scope L.cl (dVof L.dT) pm (.ref L.c) ctv
def LamO (f : Addr) (L : LF) : HO := .ext fun h => ∃ (od : Option Addr) (sl : Array (Option Value)) (pm ctv : Value), h.get? f = some (⟨.type "function", od, .func (L.fd pm ctv), sl⟩ : Obj)
theorem lamO_ne {f : Addr} {L : LF} (ps : Array Value) : LamO f L ≠ .tbl ps := fun z => by unfold LamO at z; cases z
theorem lamO_nf {f : Addr} {L : LF} (ob : Obj) (u : HO) : LamO f L ≠ .frz ob u := fun z => by unfold LamO at z; cases z
theorem lamO_at {P : Program} {w : World} {H : Hp} {h : Heap} {f : Addr} {L : LF} (hok : HOk P w H h) (e : H f = some (LamO f L)) : ∃ (od : Option Addr) (sl : Array (Option Value)) (pm ctv : Value), h.get? f = some (⟨.type "function", od, .func (L.fd pm ctv), sl⟩ : Obj) := by
  obtain ⟨z, _, _⟩ := hok f _ e
  exact z
section
variable {M : Model} {A : Around} {E : Value → Shared → Prop} {s : Shared} {name qual : Str} {params : Arguments} {body : Expr} {scope : Scope} {env : Env} {c P : Addr} {ps : Array Value} {pos : Pos} {firstLine : Nat} {mg : Str → Option Value}
  {clos : List (Str × Addr)} {Q : Value → Shared → Prop} {dV : Value}
theorem lam_tail (hcl : closureFor scope env = pure clos) (hge0 : env.globals = mainGlobals) (hg : s.heap.Ns mainGlobals mg) (hcode : env.code = .ref c) (C : CodeHd s.heap c P) (hP : s.heap.get? P = some (tabObj ps)) (ht : TriplesOk ps.toList)
    (hnf : codeAmong pos ps.toList = none) (hgP : mainGlobals ≠ P) (hb : s.heap.BuiltinsAt mg P)
    (h : ∀ c' ctv h' tk, Heap.ExtBut P s.heap h' → s.heap.objs.size ≤ c' → c' < h'.objs.size → h'.CodeRec (.ref c') qual → h'.get? P = some (tabObj (ps ++ #[rawInt pos.line, rawInt pos.col, .ref c'])) →
      Q (.ref h'.objs.size) { s with heap := h'.push { cls := .type "function", data := .func (lamFd qual params body scope clos dV ((mg "__name__").getD .none) (.ref c') ctv) }, toks := tk }) :
    wpAny M A (makeTail "<lambda>" qual params (.expr body) scope env dV .none none pos firstLine) Q E s := by
  obtain ⟨bm, ob, hbm, hne0, _, hneP, hbo, hcls, hdict, hdata⟩ := hb
  unfold makeTail
  rw [hcl, hge0]
  refine wpAny_bind (wpAny_pure ?_)
  cases clos with
  | nil =>
    simp only [List.isEmpty_nil, if_true]
    refine wpAny_bind (wpAny_pure ?_)
    refine wpAny_bind (wpAny_functionCodeX hcode (C.code hP ht) (C.tab hP) hnf fun c' h' tk hx hge hlt _ hrec htb _ => ?_)
    have hg' := hg.extBut hx hgP
    refine wpAny_bind (wpAny_builtinsFor hg' hbm hne0 (hx _ _ hneP hbo) hcls hdict hdata ?_)
    refine wpAny_bind (wpAny_nsGet hg' ?_)
    exact wpAny_bind (wpAny_pure (wpAny_newObj_type (h c' .none h' tk hx hge hlt hrec htb.2) (by size_fits)))
  | cons q r =>
    simp only [List.isEmpty_cons, Bool.false_eq_true, if_false]
    refine wpAny_bind (wpAny_newTextTuple ?_)
    refine wpAny_bind (wpAny_functionCodeX hcode ((C.keeps fun b o e => Heap.get?_push_of_some _ e).code (Heap.get?_push_of_some _ hP) ht) ((C.keeps fun b o e => Heap.get?_push_of_some _ e).tab (Heap.get?_push_of_some _ hP)) hnf fun c' h' tk hx hge hlt _ hrec htb _ => ?_)
    have hg' := (hg.push _).extBut hx hgP
    have hx' : Heap.ExtBut P s.heap h' := fun b o hb' e => hx b o hb' (Heap.get?_push_of_some _ e)
    have hge' : s.heap.objs.size ≤ c' := Nat.le_trans (by rw [Heap.size_push]; omega) hge
    refine wpAny_bind (wpAny_builtinsFor hg' hbm hne0 (hx' _ _ hneP hbo) hcls hdict hdata ?_)
    refine wpAny_bind (wpAny_nsGet hg' ?_)
    exact wpAny_bind (wpAny_pure (wpAny_newObj_type (h c' _ h' tk hx' hge' hlt hrec htb.2) (by size_fits)))
theorem lam_tailHit {cv : Value} (hcl : closureFor scope env = pure clos) (hge0 : env.globals = mainGlobals) (hg : s.heap.Ns mainGlobals mg) (hcode : env.code = .ref c) (C : CodeHd s.heap c P) (hP : s.heap.get? P = some (tabObj ps)) (ht : TriplesOk ps.toList)
    (hf : codeAmong pos ps.toList = some cv) (hb : s.heap.BuiltinsAt mg P)
    (h : ∀ (ctv : Value) (h' : Heap) (tk : Tok), (∀ b o, s.heap.get? b = some o → h'.get? b = some o) → s.heap.objs.size ≤ h'.objs.size →
      Q (.ref h'.objs.size) { s with heap := h'.push { cls := .type "function", data := .func (lamFd qual params body scope clos dV ((mg "__name__").getD .none) cv ctv) }, toks := tk }) :
    wpAny M A (makeTail "<lambda>" qual params (.expr body) scope env dV .none none pos firstLine) Q E s := by
  obtain ⟨bm, ob, hbm, hne0, _, hneP, hbo, hcls, hdict, hdata⟩ := hb
  unfold makeTail
  rw [hcl, hge0]
  refine wpAny_bind (wpAny_pure ?_)
  cases clos with
  | nil =>
    simp only [List.isEmpty_nil, if_true]
    refine wpAny_bind (wpAny_pure ?_)
    refine wpAny_bind (wpAny_functionCode_hit hcode (C.code hP ht) hf ?_)
    refine wpAny_bind (wpAny_builtinsFor hg hbm hne0 hbo hcls hdict hdata ?_)
    refine wpAny_bind (wpAny_nsGet hg ?_)
    exact wpAny_bind (wpAny_pure (wpAny_newObj_type (h .none s.heap s.toks (fun _ _ e => e) (Nat.le_refl _)) (by size_fits)))
  | cons q r =>
    simp only [List.isEmpty_cons, Bool.false_eq_true, if_false]
    refine wpAny_bind (wpAny_newTextTuple ?_)
    refine wpAny_bind (wpAny_functionCode_hit hcode ((C.keeps fun b o e => Heap.get?_push_of_some _ e).code (Heap.get?_push_of_some _ hP) ht) hf ?_)
    refine wpAny_bind (wpAny_builtinsFor (hg.push _) hbm hne0 (Heap.get?_push_of_some _ hbo) hcls hdict hdata ?_)
    refine wpAny_bind (wpAny_nsGet (hg.push _) ?_)
    have hsz : ∀ oT : Obj, s.heap.objs.size ≤ (s.heap.push oT).objs.size := fun oT => by rw [Heap.size_push]; omega
    exact wpAny_bind (wpAny_pure (wpAny_newObj_type (h _ _ s.toks (fun b o e => Heap.get?_push_of_some _ e) (hsz _)) (by size_fits)))
end
/-! ### tables: one function tells the names of all code objects by their places -/
def Tabs1 (Ts : List Addr) (nm : Nat → Nat → Str) (H : Hp) : Prop := ∀ P ∈ Ts, TabN H P nm
theorem Tabs1.ext {Ts : List Addr} {nm : Nat → Nat → Str} {H H' : Hp} (t : Tabs1 Ts nm H) (e : ∀ b o, H b = some o → H' b = some o) : Tabs1 Ts nm H' := fun p hp => (t p hp).ext e
section
variable {X : Cx} {pins : List (Addr × Obj)} {σ : L2.St} {H : Hp} {s : Shared}
theorem inv_lam {L : LF} {o : Obj} {t' : Nat} {pm ctv : Value} (I : Inv X pins σ H s) (ho : o = { cls := .type "function", data := .func (L.fd pm ctv) }) :
    Inv X pins σ (upd H s.heap.objs.size (LamO s.heap.objs.size L)) { s with heap := s.heap.push o, toks := t' } := by
  subst ho
  refine I.laid (a := s.heap.objs.size) (fun b u e => Heap.get?_push_of_some _ e) (Nat.le_refl _) ?_
  have e : (s.heap.push ({ cls := .type "function", data := .func (L.fd pm ctv) } : Obj)).get? s.heap.objs.size = some ({ cls := .type "function", data := .func (L.fd pm ctv) } : Obj) := Heap.get?_push_size _ rfl
  exact ⟨⟨_, _, pm, ctv, e⟩, ⟨_, e⟩, fun h1 h2 ⟨od, sl, p, t, z⟩ st => ⟨od, sl, p, t, st _ z⟩⟩
/-- the lambda's object is made: its code object is new, or found in the table -/
theorem lam_new {Ts : List Addr} {nm : Nat → Nat → Str} {c P : Addr} {params : Arguments} {body : Expr} {scope : Scope} {pos : Pos} {dT : Option Addr} {firstLine : Nat} {E : Value → Shared → Prop} {Q : Value → Shared → Prop} (I : Inv X pins σ H s) (TB : TabB X.base X.mg c P) (hcode : X.env.code = .ref c)
    (hm : P ∈ Ts) (hn : nm pos.line pos.col = X.env.qual ++ "<lambda>") (hT : Tabs1 Ts nm H) (hfree : ∀ y ∈ scope.names, y.2 = .free → ∃ c, X.env.cells.lookup y.1 = some c)
    (h : ∀ (f c' : Addr) (H1 : Hp) (s' : Shared), Inv X pins σ H1 s' → (∀ b o, H b = some o → b ∉ Ts → H1 b = some o) → (∀ b, H1 b = Option.none → H b = Option.none) → Tabs1 Ts nm H1 → H f = none → H1 f = some (LamO f ⟨X.env.qual ++ "<lambda>", params, body, scope, cloFrom X.env.cells scope.names [], c', dT⟩) → H1 c' = some (CodeO c' (X.env.qual ++ "<lambda>")) → Q (.ref f) s') :
    wpAny (model X.prog X.w) X.A (makeTail "<lambda>" (X.env.qual ++ "<lambda>") params (.expr body) scope X.env (dVof dT) .none none pos firstLine) Q E s := by
  obtain ⟨ps, hP, ht, ha⟩ := hT P hm
  have bP : s.heap.BuiltinsAt X.mg P := TB.bm.keeps I.bk
  have hP' : s.heap.get? P = some { cls := .none, data := .fields ps } := I.hok P _ hP
  cases hc : codeAmong pos ps.toList with
  | none =>
    refine lam_tail (mg := X.mg) (c := c) (P := P) (ps := ps) (closure_ok hfree) I.ok.glob (I.mod.glob.keeps I.bk) hcode (TB.code.keeps I.bk) hP' ht hc TB.gP bP fun c' ctv h' tk hx hge hlt hrec htb => ?_
    obtain ⟨c2, oc, vs, t, e2, hoc, hd, hv⟩ := hrec
    cases e2
    have nC : H c' = none := I.hok.fresh hge
    have I1 := inv_table (t' := tk) (more := #[rawInt pos.line, rawInt pos.col, .ref c']) (h' := h') I hP (fun b o hb e => hx b o hb e) htb hge ⟨oc, vs, t, hoc, hd, hv⟩
    have hE : ∀ b o, H b = some o → b ≠ P → upd (upd H P (.tbl (ps ++ #[rawInt pos.line, rawInt pos.col, .ref c']))) c' (CodeO c' (X.env.qual ++ "<lambda>")) b = some o := fun b o e n => by
      rw [upd_ne (ne_of_none e nC), upd_ne n]
      exact e
    have neP : ∀ b q, H b = some (CodeO b q) → b ≠ P := fun b q e z => by
      rw [z, hP] at e
      exact codeO_ne ps (Option.some.inj e).symm
    have eL : (ps ++ #[rawInt pos.line, rawInt pos.col, .ref c']).toList = ps.toList ++ [rawInt pos.line, rawInt pos.col, .ref c'] := by simp
    have T1 : Tabs1 Ts nm (upd (upd H P (.tbl (ps ++ #[rawInt pos.line, rawInt pos.col, .ref c']))) c' (CodeO c' (X.env.qual ++ "<lambda>"))) := fun p hp => by
      by_cases hb : p = P
      · rw [hb]
        refine ⟨_, by rw [upd_ne (ne_of_none hP nC), upd_same], by rw [eL]; exact PySem.TriplesOk_snoc _ _ _ _ ht, fun p' cv hcv => ?_⟩
        rw [eL] at hcv
        rcases among_app2 _ ht hcv with z | ⟨z, z1, z2⟩
        · obtain ⟨c0, e1, e2⟩ := ha p' cv z
          exact ⟨c0, e1, hE _ _ e2 (neP _ _ e2)⟩
        · refine ⟨c', z, ?_⟩
          rw [← z1, ← z2, hn]
          exact upd_same
      · obtain ⟨ps', a1, a2, a3⟩ := hT p hp
        refine ⟨ps', by rw [upd_ne (ne_of_none a1 nC), upd_ne hb]; exact a1, a2, fun p' cv hcv => ?_⟩
        obtain ⟨c0, e1, e2⟩ := a3 p' cv hcv
        exact ⟨c0, e1, hE _ _ e2 (neP _ _ e2)⟩
    have nF := I1.hok.fresh (Nat.le_refl _)
    have I2 := inv_lam (L := ⟨X.env.qual ++ "<lambda>", params, body, scope, cloFrom X.env.cells scope.names [], c', dT⟩) (t' := tk) (pm := (X.mg "__name__").getD .none) (ctv := ctv) I1 rfl
    refine h h'.objs.size c' _ _ I2 (fun b o e n => ?_) (fun b e => upd_none (upd_none (upd_none e))) (T1.ext fun b o e => ?_) (I.hok.fresh (Nat.le_trans hge (Nat.le_of_lt hlt))) upd_same ?_
    · have e1 := hE b o e (fun z => n (by rw [z]; exact hm))
      exact (upd_ne (ne_of_none e1 nF)).trans e1
    · exact (upd_ne (ne_of_none e nF)).trans e
    · exact (upd_ne (Nat.ne_of_lt hlt)).trans upd_same
  | some cv =>
    obtain ⟨c', e, hco⟩ := ha pos cv hc
    subst e
    rw [hn] at hco
    refine lam_tailHit (mg := X.mg) (c := c) (P := P) (ps := ps) (closure_ok hfree) I.ok.glob (I.mod.glob.keeps I.bk) hcode (TB.code.keeps I.bk) hP' ht hc bP fun ctv h' tk hx hsz => ?_
    have I1 : Inv X pins σ H { s with heap := h', toks := tk } := I.kept hx
    have nF : H h'.objs.size = none := I1.hok.fresh (Nat.le_refl _)
    have I2 := inv_lam (L := ⟨X.env.qual ++ "<lambda>", params, body, scope, cloFrom X.env.cells scope.names [], c', dT⟩) (t' := tk) (pm := (X.mg "__name__").getD .none) (ctv := ctv) I1 rfl
    refine h h'.objs.size c' _ _ I2 (fun b o e n => ?_) (fun b e => upd_none e) (hT.ext fun b o e => ?_) nF upd_same ?_
    · exact (upd_ne (ne_of_none e nF)).trans e
    · exact (upd_ne (ne_of_none e nF)).trans e
    · exact (upd_ne (ne_of_none hco nF)).trans hco
end
/-- the reading of a lambda: a new function; mk: its words, by its code object -/
def tLam1 (Ts : List Addr) (nm : Nat → Nat → Str) (mk : Addr → LF) : TE := fun σ H Q => Tabs1 Ts nm H ∧ ∀ (f c' : Addr) (H1 : Hp), (∀ b o, H b = some o → b ∉ Ts → H1 b = some o) → (∀ b, H1 b = Option.none → H b = Option.none) → Tabs1 Ts nm H1 → H f = none → H1 f = some (LamO f (mk c')) → H1 c' = some (CodeO c' (mk c').qual) → Q (.ref f) H1
section
variable {X : Cx} {Ts : List Addr} {nm : Nat → Nat → Str} {c P : Addr} {params : Arguments} {body d : Expr} {scope : Scope} {pos : Pos} {td : TE}
theorem pe_lam (TB : TabB X.base X.mg c P) (hcode : X.env.code = .ref c) (hm : P ∈ Ts) (hn : nm pos.line pos.col = X.env.qual ++ "<lambda>") (hfree : ∀ y ∈ scope.names, y.2 = .free → X.env.scope.names.lookup y.1 = some .cell ∨ X.env.scope.names.lookup y.1 = some .free)
    (hdef : defaultsOf params X.env = ([], [])) : PE X (.Lambda params body scope pos) (tLam1 Ts nm fun c' => ⟨X.env.qual ++ "<lambda>", params, body, scope, cloFrom X.env.cells scope.names [], c', none⟩) := by
  refine ⟨fun pins s σ H Q I h => ?_⟩
  obtain ⟨hT, h⟩ := h
  refine kla_eval hdef ?_
  rw [makeFunction_eq]
  simp only [List.zip_nil_right, List.filterMap_nil, List.isEmpty_nil, if_true, pure_bind]
  have hfr : ∀ y ∈ scope.names, y.2 = .free → ∃ c, X.env.cells.lookup y.1 = some c := fun y hy e => (hfree y hy e).elim (fun z => I.ok.has _ (.inl z)) fun z => I.ok.has _ (.inr z)
  exact lam_new (dT := none) I TB hcode hm hn hT hfr fun f c' H1 s' I1 e1 e2 T1 f0 f1 c1 => ⟨.ref f, H1, I1, rfl, h f c' H1 e1 e2 T1 f0 f1 c1⟩
end
end Hk

set_option Elab.async false
set_option linter.all false
set_option maxRecDepth 100000
set_option maxHeartbeats 4000000
namespace Hk
open PySem PySem.Spec PySem.W PySem.Calls PyProof.Rows L2 LamX NdefX
/-! ### a lambda with a default -/
section
variable {X : Cx} {Ts : List Addr} {nm : Nat → Nat → Str} {c P : Addr} {params : Arguments} {body d : Expr} {scope : Scope} {pos : Pos} {td : TE}
/-- .. the tuple of its one default at T -/
def tLamD (Ts : List Addr) (nm : Nat → Nat → Str) (mk : Addr → Addr → LF) (td : TE) : TE := fun σ H Q => td σ H fun v H0 => ∀ T, H0 T = none → tLam1 Ts nm (mk T) σ (upd H0 T (.tup [v])) Q
theorem pe_lamD (TB : TabB X.base X.mg c P) (hcode : X.env.code = .ref c) (hm : P ∈ Ts) (hn : nm pos.line pos.col = X.env.qual ++ "<lambda>") (hfree : ∀ y ∈ scope.names, y.2 = .free → X.env.scope.names.lookup y.1 = some .cell ∨ X.env.scope.names.lookup y.1 = some .free)
    (hd : PE X d td) (hdef : defaultsOf params X.env = ([eval d X.env], [])) : PE X (.Lambda params body scope pos) (tLamD Ts nm (fun T c' => ⟨X.env.qual ++ "<lambda>", params, body, scope, cloFrom X.env.cells scope.names [], c', some T⟩) td) := by
  refine ⟨fun pins s σ H Q I h => ?_⟩
  rw [arm_eval_Lambda, hdef]
  refine wpAny_bind ?_
  show wpAny _ _ (evalAll [eval d X.env]) _ _ _
  unfold evalAll
  refine wpAny_bind (thn (hd.run pins s σ H _ I h) fun u s1 ⟨v, H1, I1, r1, q1⟩ => ?_)
  refine wpAny_bind (wpAny_holding (wpAny_pure (wpAny_pure ?_)))
  refine wpAny_bind (wpAny_holding (wpAny_pure ?_))
  rw [makeFunction_eq]
  simp only [List.zip_nil_right, List.filterMap_nil, List.isEmpty_nil, List.isEmpty_cons, Bool.false_eq_true, if_false, if_true, pure_bind]
  refine wpAny_bind (wpAny_newTextTuple ?_)
  have I2 : Inv X pins σ (upd H1 s1.heap.objs.size (.tup [v])) { s1 with heap := s1.heap.push { cls := .type "tuple", data := .seq [u].toArray } } := by
    refine I1.laid (a := s1.heap.objs.size) (t' := s1.toks) (fun b u e => Heap.get?_push_of_some _ e) (Nat.le_refl _) ?_
    exact ⟨by show 1 ≤ sizeLine; decide, [u], .cons r1 .nil, IsTup.new s1.heap _⟩
  obtain ⟨hT, h⟩ := q1 s1.heap.objs.size (I1.hok.fresh (Nat.le_refl _))
  have hfr : ∀ y ∈ scope.names, y.2 = .free → ∃ c, X.env.cells.lookup y.1 = some c := fun y hy e => (hfree y hy e).elim (fun z => I.ok.has _ (.inl z)) fun z => I.ok.has _ (.inr z)
  exact lam_new (dT := some s1.heap.objs.size) I2 TB hcode hm hn hT hfr fun f c' H1 s' I1 e1 e2 T1 f0 f1 c1 => ⟨.ref f, H1, I1, rfl, h f c' H1 e1 e2 T1 f0 f1 c1⟩
end
/-! ### a lambda's promise by its body -/
abbrev LF.nf (L : LF) : NF := ⟨"<lambda>", L.qual, L.params, [], L.scope, L.cl, L.c⟩
def DtOk (H : Hp) (dT : Option Addr) (dvs : List V) : Prop := match dT with
  | none => dvs = []
  | some T => H T = some (.tup dvs)
def spLam (f : Addr) (L : LF) (fr : List Str) (dvs : List V) (spN : List (Option V) → Sp) : Sp := fun vs H Q E => ∃ ws, H f = some (LamO f L) ∧ H L.c = some (CodeO L.c L.qual) ∧ CapsAt L.cl fr ws H ∧ DtOk H L.dT dvs ∧
  spN (ws.map some) (vs ++ dvs) (delC L.cl H) (fun v H' => (∀ a, InC L.cl a → H' a = none) → Q v (putC L.cl H H')) (fun cls d H' => (∀ a, InC L.cl a → H' a = none) → E cls d (putC L.cl H H'))
section
variable {P : Program} {w : World} {K : PySem.W.Frag} {mg : Str → Option Value} {base : Heap} {N ps fr : List Str} {L : LF} {f : Addr} {k : Nat} {spN : List (Option V) → Sp}
theorem act_lamB {dvs : List V} (S : NScope N ps fr L.scope) (len : ∀ ws vs H Q E, spN ws vs H Q E → vs.length = ps.length)
    (hb : ∀ (s : Shared) (H : Hp) (pm ctv : Value) (us : List Value), HOk P w H s.heap → DtOk H L.dT dvs → us.length + dvs.length = ps.length → ∃ ds, Vals dvs ds ∧ BindsTo s (L.fd pm ctv) ⟨us, []⟩ (ps.zip (us ++ ds)))
    (hbody : ∀ (A : Around) (outer : List Env) (s : Shared) (H : Hp) (vs : List V) (ws : List (Option V)) (Q : VK) (E : XK), Room k (A.deeper (envF L.nf f s.heap.objs.size)) → ws.length = fr.length → spN ws vs H Q E →
      ∃ te, PE (ncx (L2.CX P w) P w K mg base N L.nf f A outer s H E) L.body te ∧ te (startF N vs ws) H Q) :
    Act P w K mg base (k + 1) f (spLam f L fr dvs spN) := fun A outer s H us vs Q E hr e0 r h => by
  obtain ⟨ws, hf, hc, C, hd, q⟩ := h
  have lim : s.heap.NoLimit := e0.mod.nolimit.keeps fun b o e => (e0.bs b o e).1
  obtain ⟨od, sl, pm, ctv, ho⟩ := lamO_at e0.hok hf
  refine ⟨⟨_, od, _, sl, ho⟩, capsRun C e0 fun e1 C1 => ?_⟩
  have hl := len _ _ _ _ _ q
  obtain ⟨ds, rd, bd⟩ := hb s H pm ctv us e0.hok hd (by rw [← hl, List.length_append, ← r.length])
  have r2 : Vals (vs ++ dvs) (us ++ ds) := r.append rd
  refine kla_callFunE hr.depth ho rfl S.co S.gen rfl (codeO_at e0.hok hc) (bd _ _ _ _ ?_)
  refine wpAny_newFunctionEnv S.nocell (fun ⟨n, _⟩ hy => S.par n (List.of_mem_zip hy).1) (fun h₁ hns hsb => ⟨lim.fresh _ hsb, ?_⟩) S.kind
  show codeAny _ _ (.expr L.body (envF L.nf f s.heap.objs.size)) _ _
  have kp : ∀ b o, s.heap.get? b = some o → h₁.get? b = some o := fun b o e => hsb.extBut b o (Nat.ne_of_lt (Heap.lt_size e)) (Heap.get?_push_of_some _ e)
  obtain ⟨te, ht, hq⟩ := hbody A outer s (delC L.cl H) (vs ++ dvs) (ws.map some) _ _ (hr.deeper _) C1.len q
  have I := inv_startN (CX := L2.CX P w) (F := L.nf) (f := f) (A := A) (E := fun cls d H' => (∀ a, InC L.cl a → H' a = none) → E cls d (putC L.cl H H')) (tk := s.toks + (ps.zip (us ++ ds)).length) S hr.hd e1 hl r2 C1 hns kp
  refine kla_codeExpr (wpAny_mono (ht.run [] _ _ _ _ I hq) (fun v s' hs => ?_) fun e s' hs => hs)
  obtain ⟨v, H', J, rv, q⟩ := hs
  exact ⟨v, H', J.os, J.bare, J.base, J.hok, rv, q⟩
/-- .. without a default -/
theorem act_lam (S : NScope N ps fr L.scope) (hdT : L.dT = none) (len : ∀ ws vs H Q E, spN ws vs H Q E → vs.length = ps.length)
    (hb : ∀ (pm ctv : Value) (us : List Value), us.length = ps.length → bindArgs (L.fd pm ctv) ⟨us, []⟩ = pure (ps.zip us))
    (hbody : ∀ (A : Around) (outer : List Env) (s : Shared) (H : Hp) (vs : List V) (ws : List (Option V)) (Q : VK) (E : XK), Room k (A.deeper (envF L.nf f s.heap.objs.size)) → ws.length = fr.length → spN ws vs H Q E →
      ∃ te, PE (ncx (L2.CX P w) P w K mg base N L.nf f A outer s H E) L.body te ∧ te (startF N vs ws) H Q) :
    Act P w K mg base (k + 1) f (spLam f L fr [] spN) := act_lamB S len (fun s H pm ctv us _ _ hl => ⟨[], .nil, by
      rw [List.append_nil]; exact .of_eq (hb pm ctv us (by simpa using hl))⟩) hbody
/-- .. with one, that is not given -/
theorem act_lamD {T : Addr} {dv : V} {x : Str} (S : NScope N [x] fr L.scope) (hdT : L.dT = some T) (len : ∀ ws vs H Q E, spN ws vs H Q E → vs.length = 1)
    (hb : ∀ (pm ctv u : Value), ∃ k, bindArgs (L.fd pm ctv) ⟨[], []⟩ = seqItems? (.ref T) >>= k ∧ k (some #[u]) = pure [(x, u)])
    (hbody : ∀ (A : Around) (outer : List Env) (s : Shared) (H : Hp) (vs : List V) (ws : List (Option V)) (Q : VK) (E : XK), Room k (A.deeper (envF L.nf f s.heap.objs.size)) → ws.length = fr.length → spN ws vs H Q E →
      ∃ te, PE (ncx (L2.CX P w) P w K mg base N L.nf f A outer s H E) L.body te ∧ te (startF N vs ws) H Q) :
    Act P w K mg base (k + 1) f (spLam f L fr [dv] spN) := act_lamB S len (fun s H pm ctv us hok hd hl => by
      have e0 : us = [] := List.eq_nil_of_length_eq_zero (by simpa using hl)
      subst e0
      rw [hdT] at hd
      obtain ⟨_, its, rv, o, ho, hcls⟩ := (show ObjOk P w H s.heap T (.tup [dv]) from hok T _ hd)
      obtain ⟨u, rfl⟩ : ∃ u, its = [u] := by
        have := rv.length
        match its, this with
        | [u], _ => exact ⟨u, rfl⟩
      obtain ⟨kk, e1, e2⟩ := hb pm ctv u
      refine ⟨[u], rv, ?_⟩
      obtain ⟨n, hdat⟩ := hcls.2
      refine .of_defaults (T := T) (k := kk) (by show dVof L.dT = _; rw [hdT]; rfl) ho hdat ?_ e2
      rw [e1]
      show _ = seqItems? (dVof L.dT) >>= kk
      rw [hdT]; rfl) hbody
end
end Hk

set_option Elab.async false
set_option linter.all false
set_option maxRecDepth 100000
set_option maxHeartbeats 4000000
namespace Hk
open PySem PySem.Spec PySem.W PySem.Calls PyProof.Rows L2 LamX NdefX
/-! ### what a live frame's cells hold, told to a callee -/
def Kc (sc : Scope) (y : Str) : Prop := sc.names.lookup y = some .cell ∨ sc.names.lookup y = some .free
def CellAt (cm : List (Str × Addr)) (sc : Scope) (N : List Str) (σ : L2.St) (a : Addr) (v : V) : Prop := ∃ (i : Nat) (y : Str), N[i]? = some y ∧ cm.lookup y = some a ∧ σ[i]? = some (some v) ∧ Kc sc y
open Classical in
noncomputable def cellV (cm : List (Str × Addr)) (sc : Scope) (N : List Str) (σ : L2.St) (a : Addr) : Option V := if h : ∃ v, CellAt cm sc N σ a v then some h.choose else none
noncomputable def exC (cm : List (Str × Addr)) (sc : Scope) (N : List Str) (σ : L2.St) (obs : Addr → Obj) (H : Hp) : Hp := fun a => match cellV cm sc N σ a with
  | some v => some (CellO a v (obs a))
  | none => H a
theorem cellV_some {cm : List (Str × Addr)} {sc : Scope} {N : List Str} {σ : L2.St} {a : Addr} {v : V} (h : cellV cm sc N σ a = some v) : CellAt cm sc N σ a v := by
  unfold cellV at h
  split at h
  · rename_i q; cases h; exact q.choose_spec
  · cases h
theorem cell_uniq {cm : List (Str × Addr)} {sc : Scope} {N : List Str} {σ : L2.St} {a : Addr} {v v' : V} (nd : N.Nodup) (inj : ∀ x y c, cm.lookup x = some c → cm.lookup y = some c → x = y) (h : CellAt cm sc N σ a v) (h' : CellAt cm sc N σ a v') : v = v' := by
  obtain ⟨i, y, e1, e2, e3, _⟩ := h
  obtain ⟨j, z, d1, d2, d3, _⟩ := h'
  have e := inj _ _ _ e2 d2
  subst e
  have hi := (List.getElem?_eq_some_iff.mp e1)
  have hj := (List.getElem?_eq_some_iff.mp d1)
  have : i = j := (List.getElem_inj nd).mp (hi.2.trans hj.2.symm)
  subst this
  rw [e3] at d3
  exact Option.some.inj (Option.some.inj d3)
theorem cellV_at {cm : List (Str × Addr)} {sc : Scope} {N : List Str} {σ : L2.St} {a : Addr} {v : V} (nd : N.Nodup) (inj : ∀ x y c, cm.lookup x = some c → cm.lookup y = some c → x = y) (h : CellAt cm sc N σ a v) : cellV cm sc N σ a = some v := by
  unfold cellV
  have q : ∃ v, CellAt cm sc N σ a v := ⟨v, h⟩
  rw [dif_pos q, cell_uniq nd inj q.choose_spec h]
theorem cellV_out {cm : List (Str × Addr)} {sc : Scope} {N : List Str} {σ : L2.St} {a : Addr} (h : ¬ InC cm a) : cellV cm sc N σ a = none := by
  cases e : cellV cm sc N σ a with
  | none => rfl
  | some v =>
    obtain ⟨i, y, _, e2, _⟩ := cellV_some e
    exact absurd ⟨y, e2⟩ h
theorem exC_out {cm : List (Str × Addr)} {sc : Scope} {N : List Str} {σ : L2.St} {obs : Addr → Obj} {H : Hp} {a : Addr} (h : ¬ InC cm a) : exC cm sc N σ obs H a = H a := by unfold exC; rw [cellV_out h]
theorem exC_some {cm : List (Str × Addr)} {sc : Scope} {N : List Str} {σ : L2.St} {obs : Addr → Obj} {H : Hp} {a : Addr} {v : V} (h : cellV cm sc N σ a = some v) : exC cm sc N σ obs H a = some (CellO a v (obs a)) := by unfold exC; rw [h]
theorem exC_none {cm : List (Str × Addr)} {sc : Scope} {N : List Str} {σ : L2.St} {obs : Addr → Obj} {H : Hp} {a : Addr} (h : cellV cm sc N σ a = none) : exC cm sc N σ obs H a = H a := by unfold exC; rw [h]
/-- what is known of a frame's cells -/
structure CEnv (cm : List (Str × Addr)) (sc : Scope) (N : List Str) (H : Hp) : Prop where
  nd : N.Nodup
  inj : ∀ x y c, cm.lookup x = some c → cm.lookup y = some c → x = y
  free : ∀ a, InC cm a → H a = none
  has : ∀ y, (sc.names.lookup y = some .cell ∨ sc.names.lookup y = some .free) → ∃ c, cm.lookup y = some c
theorem CEnv.out {cm : List (Str × Addr)} {sc : Scope} {N : List Str} {H : Hp} (C : CEnv cm sc N H) {a : Addr} {o : HO} (h : H a = some o) : ¬ InC cm a := fun z => by rw [C.free a z] at h; cases h
theorem CEnv.same {cm : List (Str × Addr)} {sc : Scope} {N : List Str} {σ : L2.St} {obs : Addr → Obj} {H : Hp} (C : CEnv cm sc N H) : Same H (exC cm sc N σ obs H) := fun a o h => by rw [exC_out (C.out h)]; exact h
/-- a function that this frame made finds its cells -/
theorem CEnv.caps {cm : List (Str × Addr)} {sc : Scope} {N : List Str} {σ : L2.St} {obs : Addr → Obj} {H H' : Hp} {scope : Scope} {fr : List Str} {ws : List V} {js : List Nat} (C : CEnv cm sc N H) (hb : ndefB sc scope fr = true)
    (honly : ∀ y ∈ scope.names, y.2 = .free → y.1 ∈ fr) (hjs : js.map (fun j => N[j]?) = fr.map some) (hws : js.map (fun j => σ[j]?) = ws.map (fun v => some (some v)))
    (hs : ∀ a o, exC cm sc N σ obs H a = some o → InC cm a → H' a = some o) : CapsAt (cloFrom cm scope.names []) fr ws H' := by
  have hf : ∀ y ∈ scope.names, y.2 = .free → ∃ c, cm.lookup y.1 = some c := fun y hy e => C.has y.1 (ndef_free hb y hy e)
  refine ⟨?_, fun x y c e1 e2 => C.inj x y c (clo_cm hf e1) (clo_cm hf e2), fun y c e => ?_, fun i y hi => ?_⟩
  · have h1 := congrArg List.length hjs
    have h2 := congrArg List.length hws
    simp only [List.length_map] at h1 h2
    omega
  · rcases cloFrom_mem (PySem.mem_of_lookup e) with hm | ⟨h1, h2⟩
    · cases hm
    · exact honly (y, .free) h1 rfl
  · have hy := List.mem_of_getElem? hi
    have hfree := ndef_fr hb y hy
    obtain ⟨c, hc⟩ := hf (y, .free) hfree rfl
    have h1 := congrArg (fun l => l[i]?) hjs
    simp only [List.getElem?_map, hi, Option.map_some] at h1
    have h2 := congrArg (fun l => l[i]?) hws
    simp only [List.getElem?_map] at h2
    cases ej : js[i]? with
    | none => rw [ej] at h1; cases h1
    | some j =>
      rw [ej] at h1 h2
      simp only [Option.map_some, Option.some.injEq] at h1 h2
      cases ew : ws[i]? with
      | none => rw [ew] at h2; cases h2
      | some v =>
        rw [ew] at h2
        simp only [Option.map_some, Option.some.injEq] at h2
        have hv := cellV_at C.nd C.inj (σ := σ) (v := v) ⟨j, y, h1, hc, h2, ndef_free hb (y, .free) hfree rfl⟩
        exact ⟨c, v, clo_has hf hfree hc, rfl, _, hs _ _ (exC_some hv) ⟨y, hc⟩⟩
section
variable {X : Cx} {pins : List (Addr × Obj)} {σ : L2.St} {H : Hp} {s : Shared}
theorem cenv_of (I : Inv X pins σ H s) (nd : X.N.Nodup) : CEnv X.env.cells X.env.scope X.N H := ⟨nd, I.ok.inj, fun a ⟨y, e⟩ => I.freeC y a e, fun y h => I.ok.has y h⟩
/-- the callee runs, told of the cells -/
theorem out_own (I : Inv X pins σ H s) (hfn : ∀ y c, X.env.cells.lookup y = some c → X.fn y = true) : ∀ a, InC X.env.cells a → X.base.get? a = none ∧ a ∉ X.fs := fun a ⟨y, e⟩ => by
  have g : X.s_0.heap.objs.size ≤ a := I.ok.cab y a (hfn y a e) e
  refine ⟨?_, fun hb => ?_⟩
  · cases q : X.base.get? a with
    | none => rfl
    | some o => exact absurd (Nat.lt_of_lt_of_le (Heap.lt_size (I.ok.bs a o q).1) g) (Nat.lt_irrefl _)
  · obtain ⟨_, o, ho, _⟩ := I.ok.funs.mem hb
    exact absurd (Nat.lt_of_lt_of_le (Heap.lt_size ho) g) (Nat.lt_irrefl _)
theorem run_expO {Q : VK} {E : XK} {c : Code} (I : Inv X pins σ H s) (nd : X.N.Nodup) (hout : ∀ a, InC X.env.cells a → X.base.get? a = none ∧ a ∉ X.fs) (hx : Passes (L2.CX X.prog X.w) X E)
    (h : ∀ obs, Env0 X.prog X.w X.K X.mg X.base X.A X.stack s (exC X.env.cells X.env.scope X.N σ obs H) → codeAny (model X.prog X.w) X.A c (CR (L2.CX X.prog X.w) X.stack X.prog X.w (exC X.env.cells X.env.scope X.N σ obs H) s (fun v H' => Q v (delC X.env.cells H')) (fun cls d H' => E cls d (delC X.env.cells H'))) s) :
    codeAny (model X.prog X.w) X.A c (fun r s' => match r with
      | .ok (.ret u) => EP X pins σ Q u s'
      | .ok _ => False
      | .error e => X.xe e s') s := by
  have C := cenv_of I nd
  obtain ⟨obs, hobs⟩ : ∃ obs : Addr → Obj, ∀ a, InC X.env.cells a → s.heap.get? a = some (obs a) := by
    refine ⟨fun a => (s.heap.get? a).getD default, fun a ⟨y, e⟩ => ?_⟩
    obtain ⟨v, o, ho, _⟩ := I.cell y a e
    show s.heap.get? a = some ((s.heap.get? a).getD default)
    rw [ho]; rfl
  have inC : ∀ {a v}, cellV X.env.cells X.env.scope X.N σ a = some v → InC X.env.cells a := fun {a v} e => by
    obtain ⟨i, y, _, e2, _⟩ := cellV_some e
    exact ⟨y, e2⟩
  have okc : ∀ {a v}, cellV X.env.cells X.env.scope X.N σ a = some v → ∃ u, L2.RelV v u ∧ (obs a).data = .cell (some u) := fun {a v} e => by
    obtain ⟨i, y, e1, e2, e3, kc⟩ := cellV_some e
    have ho := hobs a ⟨y, e2⟩
    obtain ⟨m, hn, hl⟩ := I.loc
    obtain ⟨u, r, l⟩ := hl i y v e1 e3 (kc.elim (fun z => .inr (.inl z)) fun z => .inr (.inr z))
    rcases l with ⟨k, _⟩ | ⟨_, c, hc, o, ho', hd'⟩
    · have k' : X.env.scope.names.lookup y = some .local := k
      rcases kc with z | z <;> rw [z] at k' <;> cases k'
    · rw [e2] at hc; cases hc
      rw [ho] at ho'; cases ho'
      exact ⟨u, r, hd'⟩
  have nfr : ∀ a, InC X.env.cells a → a ∉ frs X.stack := fun a z hb => by
    rcases List.mem_cons.mp (I.stkSub a hb) with e | e
    · obtain ⟨y, hy⟩ := z
      exact I.cne y a hy e
    · exact (hout a z).2 e
  have hokX : HOk X.prog X.w (exC X.env.cells X.env.scope X.N σ obs H) s.heap := fun a o e => by
    cases q : cellV X.env.cells X.env.scope X.N σ a with
    | some v =>
      rw [exC_some q] at e
      cases e
      obtain ⟨u, r, d⟩ := okc q
      exact cellO_ok r (hobs a (inC q)) d
    | none =>
      rw [exC_none q] at e
      exact (I.hok a o e).stay (fun _ _ _ q => q) (fun b q => C.same _ _ q) fun b xs q => C.same _ _ q
  have e1 : Env0 X.prog X.w X.K X.mg X.base X.A X.stack s (exC X.env.cells X.env.scope X.N σ obs H) := by
    have e0 := I.env0
    refine ⟨e0.frames, e0.mod, fun b o e => ⟨(e0.bs b o e).1, ?_⟩, e0.bsz, e0.funs, fun b hb => ?_, hokX, e0.bare⟩
    · rw [exC_out (fun z => ?_)]
      · exact (e0.bs b o e).2
      · rw [(hout b z).1] at e; cases e
    · rw [exC_out (fun z => nfr b z hb)]
      exact e0.frf b hb
  refine codeAny_mono (h obs e1) fun r s' hq => ?_
  /- behind it -/
  have cellK : ∀ {H' : Hp} {h' : Heap}, HOk X.prog X.w H' h' → (∀ b o u, exC X.env.cells X.env.scope X.N σ obs H b = some (.frz o u) → H' b = some (.frz o u)) → ∀ a v, cellV X.env.cells X.env.scope X.N σ a = some v → h'.get? a = some (obs a) := fun {H' h'} hok fz a v q => by
    have := fz a _ _ (exC_some q)
    exact (cellO_at (hok a _ (show H' a = some (CellO a v (obs a)) from this))).1
  have hokD : ∀ {H' : Hp} {h' : Heap}, HOk X.prog X.w H' h' → (∀ b o u, exC X.env.cells X.env.scope X.N σ obs H b = some (.frz o u) → H' b = some (.frz o u)) → (∀ b o, s.heap.get? b = some o → exC X.env.cells X.env.scope X.N σ obs H b = none → H' b = none) → HOk X.prog X.w (delC X.env.cells H') h' := fun {H' h'} hok fz fr0 a o e => by
    have na : ¬ InC X.env.cells a := fun z => by rw [delC_in z] at e; cases e
    rw [delC_out na] at e
    have st : ∀ b o, H' b = some o → (∀ ob u, o ≠ .frz ob u) → delC X.env.cells H' b = some o := fun b o q nf => by
      rw [delC_out (fun z => ?_)]
      · exact q
      · cases qq : cellV X.env.cells X.env.scope X.N σ b with
        | some v =>
          have := fz b _ _ (exC_some qq)
          rw [q] at this
          exact nf _ _ (Option.some.inj this)
        | none =>
          have := fr0 b _ (hobs b z) (by rw [exC_none qq]; exact C.free b z)
          rw [q] at this; cases this
    exact (hok a o e).stay (fun _ _ _ q => q) (fun b q => st b _ q (fun _ _ z => by cases z)) fun b xs q => st b _ q (fun _ _ z => by cases z)
  cases r with
  | ok fl =>
    cases fl with
    | ret u =>
      obtain ⟨v, H', os, bare, un, hok, rv, q⟩ := (show CE X.stack X.prog X.w (exC X.env.cells X.env.scope X.N σ obs H) s _ u s' from hq)
      have un2 : Un (frs X.stack) [] H (delC X.env.cells H') s.heap s'.heap := by
        refine ⟨fun b o e n hb hx => ?_, fun b o e n hb hx => ?_, fun b o e n hx => ?_, un.there, fun b xs e => ?_, fun b o x e => ?_, fun b ps e => ?_⟩
        · cases qq : cellV X.env.cells X.env.scope X.N σ b with
          | some w =>
            have h1 := cellK hok un.frzs b w qq
            rw [hobs b (inC qq)] at e
            cases e; exact h1
          | none => exact un.keep b o e (by rw [exC_none qq]; exact n) hb hx
        · exact un.slot b o e (by rw [exC_out (fun z => nfr b z hb)]; exact n) hb hx
        · by_cases z : InC X.env.cells b
          · exact delC_in z
          · rw [delC_out z]; exact un.free b o e (by rw [exC_out z]; exact n) hx
        · rw [delC_out (C.out e)]; exact un.tups b xs (C.same _ _ e)
        · rw [delC_out (C.out e)]; exact un.frzs b o x (C.same _ _ e)
        · rw [delC_out (C.out e)]; exact un.tbls b ps (C.same _ _ e)
      exact I.after ⟨v, delC X.env.cells H', os, bare, un2, hokD hok un.frzs (fun b o e n => un.free b o e n (by simp)), rv, q⟩
    | next => exact False.elim hq
    | brk => exact False.elim hq
    | cont => exact False.elim hq
  | error e =>
    obtain ⟨a, B, H', cls, d, ea, fl, hok, ub, na, os, bare, q⟩ := (show L2.CX X.prog X.w X.stack (exC X.env.cells X.env.scope X.N σ obs H) s _ e s' from hq)
    have ub2 : UB (frs X.stack) H (delC X.env.cells H') s.heap B s'.heap := by
      refine ⟨fun b o e n hb => ?_, ub.slot, fun b o e n => ?_, ub.there, fun b xs e => ?_, fun b o x e => ?_, fun b ps e => ?_⟩
      · cases qq : cellV X.env.cells X.env.scope X.N σ b with
        | some w =>
          have h1 := cellK hok ub.frzs b w qq
          rw [hobs b (inC qq)] at e
          cases e; exact h1
        | none => exact ub.keep b o e (by rw [exC_none qq]; exact n) hb
      · by_cases z : InC X.env.cells b
        · exact delC_in z
        · rw [delC_out z]; exact ub.free b o e (by rw [exC_out z]; exact n)
      · rw [delC_out (C.out e)]; exact ub.tups b xs (C.same _ _ e)
      · rw [delC_out (C.out e)]; exact ub.frzs b o x (C.same _ _ e)
      · rw [delC_out (C.out e)]; exact ub.tbls b ps (C.same _ _ e)
    refine hx pins σ H s e s' I ⟨a, B, delC X.env.cells H', cls, d, ea, fl, hokD hok ub.frzs (fun b o e n => ub.free b o e n), ub2, ?_, os, bare, q⟩
    by_cases z : InC X.env.cells a
    · exact delC_in z
    · rw [delC_out z]; exact na
theorem run_exp {Q : VK} {E : XK} {c : Code} (I : Inv X pins σ H s) (nd : X.N.Nodup) (hfn : ∀ y c, X.env.cells.lookup y = some c → X.fn y = true) (hx : Passes (L2.CX X.prog X.w) X E)
    (h : ∀ obs, Env0 X.prog X.w X.K X.mg X.base X.A X.stack s (exC X.env.cells X.env.scope X.N σ obs H) → codeAny (model X.prog X.w) X.A c (CR (L2.CX X.prog X.w) X.stack X.prog X.w (exC X.env.cells X.env.scope X.N σ obs H) s (fun v H' => Q v (delC X.env.cells H')) (fun cls d H' => E cls d (delC X.env.cells H'))) s) :
    codeAny (model X.prog X.w) X.A c (fun r s' => match r with
      | .ok (.ret u) => EP X pins σ Q u s'
      | .ok _ => False
      | .error e => X.xe e s') s := run_expO I nd (out_own I hfn) hx h
end
/-! ### calls with the cells told -/
/-- f(..) of a def of the top -/
def tCallX (cm : List (Str × Addr)) (sc : Scope) (N : List Str) (sp : Sp) (dvs : List V) (E : XK) (t : TA) : TE := fun σ H Q => t σ H fun vs H1 => CEnv cm sc N H1 → ∀ obs, sp (vs ++ dvs) (exC cm sc N σ obs H1) (fun v H' => Q v (delC cm H')) (fun cls d H' => E cls d (delC cm H'))
section
variable {X : Cx} {k : Nat} {x : Str} {ps : List Str} {dvs : List V} {sp : Sp} {E : XK} {p pos : Pos} {e : Expr} {es : List Expr} {t : TA}
theorem pe_callX (G : Glob X.prog X.w X.K X.mg X.base (L2.CX X.prog X.w) k x ps dvs sp) (hr : Room k X.A) (hg : Gl X x) (hx : Passes (L2.CX X.prog X.w) X E) (nd : X.N.Nodup) (hfn : ∀ y c, X.env.cells.lookup y = some c → X.fn y = true) (ha : PA X (e :: es) t)
    (hdb : (x == ("__debug__" : Str)) = false := by decide) (he : starEach (e :: es) X.env = (false, eval e X.env) :: starEach es X.env := by rfl) (hpl : (backTo pos (starEach es X.env)).any (·.1) = false := by rfl) :
    PE X (.Call (.Name x p) (e :: es) [] pos) (tCallX X.env.cells X.env.scope X.N sp dvs E t) := by
  refine ⟨fun pins s σ H Q I h => ?_⟩
  obtain ⟨f, fd, ds, F, hm, kp, vd, hb⟩ := G.ex
  refine wpAny_Call_Name_kw (ld_glob I hg hm ?_ hdb)
  refine PySem.W.callWith_K (h₀ := X.base) I.ok.mod.kin kp (thn (ha.run pos pins s σ H _ I h) fun us s1 ⟨vs, H1, I1, r, q⟩ => ⟨I1.kIn, ?_⟩) he hpl
  refine wpAny_call (codeAny_mono (run_exp (Q := Q) (E := E) I1 nd hfn hx fun obs e0 => ?_) fun r s' hq => ?_)
  · have r2 : Vals (vs ++ dvs) (us ++ ds) := r.append vd
    have q2 := q (cenv_of I1 nd) obs
    have hl : (us ++ ds).length = ps.length := by rw [← r2.length]; exact F.len _ _ _ _ q2
    exact F.run X.A X.stack s1 _ ⟨us, []⟩ (us ++ ds) (vs ++ dvs) _ _ hr e0 (hb s1 us I1.kIn hl) r2 q2
  · cases r with
    | error e => exact hq
    | ok fl =>
      cases fl with
      | ret u => exact hq
      | next => exact False.elim hq
      | brk => exact False.elim hq
      | cont => exact False.elim hq
end
end Hk

set_option Elab.async false
set_option linter.all false
set_option maxRecDepth 100000
set_option maxHeartbeats 4000000
namespace Hk
open PySem PySem.Spec PyProof.Rows L2 LamX NdefX
section
variable {P : Program} {w : World} {K : PySem.W.Frag} {mg : Str → Option Value} {base : Heap} {k : Nat} {f : Addr} {fd : FuncData} {ps : List Str} {sp : Sp} {x : Str} {dvs : List V}
theorem fn_weak (F : FnOk P w K mg base CX0 k f fd ps sp) : FnOk P w K mg base (L2.CX P w) k f fd ps sp := ⟨F.len, fun A outer s H args us vs Q E hr e0 hb r q => codeAny_mono (F.run A outer s H args us vs Q E hr e0 hb r q) fun r s' h => CR.weak h⟩
theorem Glob.weak (G : Glob P w K mg base CX0 k x ps dvs sp) : Glob P w K mg base (L2.CX P w) k x ps dvs sp := by
  obtain ⟨f, fd, ds, F, r⟩ := G.ex
  exact ⟨f, fd, ds, fn_weak F, r⟩
/-- a def whose code object is told -/
theorem okT {CX : CXT} {qual : Str} {params : Arguments} {body : List Stmt} {scope : Scope} {kws : List (Str × V)} {N : List Str} {p : Str × Option Str} (F : FunD K x qual params body scope dvs kws (He.fAd K p) fd) (S : FnScope N ps scope) (len : ∀ vs H Q E, sp vs H Q E → vs.length = ps.length)
    (hbody : ∀ (A : Around) (outer : List Env) (s : Shared) (H : Hp) (vs : List V) (Q : VK) (E : XK), Room k (A.deeper (envOfC qual scope s.heap.objs.size (He.fAd K p) (.ref (He.codeOf K p)))) → sp vs H Q E →
      ∃ t, PSs (cxOf CX P w K mg base N qual scope (He.fAd K p) (.ref (He.codeOf K p)) A outer s H E) body t ∧ t { nx := fun _ H' => Q .non H', rt := Q } (start N vs) H) : FnOk P w K mg base CX (k + 1) (He.fAd K p) fd ps sp := by
  obtain ⟨oc, od, dV, kV, doc, pm, an, cdv, ct, osl, rfl, lk, hcd, _, _⟩ := F.ex
  obtain ⟨c, rfl⟩ := He.codeIn_ref hcd
  have ec := He.codeOf_eq lk rfl
  rw [ec] at hbody
  exact fn_of lk hcd S len fun A outer s H vs Q E hr hsp => hbody A outer s H vs Q E hr hsp
end
/-! ### a function value called where what is raised is wished for at the slots -/
def tCallVS (P : Program) (w : World) (K : PySem.W.Frag) (mg : Str → Option Value) (base : Heap) (k i : Nat) (E : L2.St → XK) (t : TA) : TE := fun σ H Q => ∃ f sp, σ[i]? = some (some (.ref f)) ∧ Act P w K mg base k f sp ∧ t σ H fun vs H1 => sp vs H1 Q (E σ)
section
variable {X : Cx} {k i : Nat} {x : Str} {E : L2.St → XK} {t : TA} {e : Expr} {es : List Expr} {p pos : Pos}
theorem run_actS {pins : List (Addr × Obj)} {σ : L2.St} {H : Hp} {s : Shared} {Q : VK} {f : Addr} {sp : Sp} {us : List Value} {vs : List V} (a : Act X.prog X.w X.K X.mg X.base k f sp) (hr : Room k X.A) (hx : PassesAt (L2.CX X.prog X.w) X σ (E σ)) (I : Inv X pins σ H s) (r : Vals vs us) (q : sp vs H Q (E σ)) :
    PySem.W.FnAt f s.heap ∧ wpAny (model X.prog X.w) X.A (call (.ref f) us) (EP X pins σ Q) X.xe s := by
  obtain ⟨z, c⟩ := a X.A X.stack s H us vs Q (E σ) hr I.env0 r q
  refine ⟨z, wpAny_call (codeAny_mono c fun r s' hq => ?_)⟩
  cases r with
  | error e => exact hx pins H s e s' I hq
  | ok fl =>
    cases fl with
    | ret u => exact I.after hq
    | next => exact False.elim hq
    | brk => exact False.elim hq
    | cont => exact False.elim hq
theorem pe_callVS0 (hr : Room k X.A) (hx : ∀ σ, PassesAt (L2.CX X.prog X.w) X σ (E σ)) (hN : X.N[i]? = some x) (hv : Vis X.env.scope x)
    (hd : (x == ("__debug__" : Str)) = false := by decide) (hcd : (x == ("__classdict__" : Str)) = false := by decide) :
    PE X (.Call (.Name x p) [] [] pos) (tCallVS X.prog X.w X.K X.mg X.base k i E tNil) := by
  refine ⟨fun pins s σ H Q I h => ?_⟩
  obtain ⟨f, sp, hs, ac, q⟩ := h
  refine wpAny_Call_Name_kw (thn ((pe_var (pos := p) hN hv hd hcd).run pins s σ H (fun v H1 => v = .ref f ∧ H1 = H) I ⟨.ref f, hs, rfl, rfl⟩) fun u s1 ⟨v, H1, I1, r1, q1⟩ => ?_)
  obtain ⟨ev, eH⟩ := q1
  subst ev
  rw [eH] at I1
  obtain rfl : u = Value.ref f := r1
  obtain ⟨z, c⟩ := run_actS ac hr (hx σ) I1 .nil q
  exact PySem.W.callWith_F0 (first := []) z c
theorem pe_callVS0K {P : Program} {w : World} {K : PySem.W.Frag} {mg : Str → Option Value} {base : Heap} (e1 : X.prog = P) (e2 : X.w = w) (e3 : X.K = K) (e4 : X.mg = mg) (e5 : X.base = base) (hr : Room k X.A) (hx : ∀ σ, PassesAt (L2.CX X.prog X.w) X σ (E σ)) (hN : X.N[i]? = some x) (hv : Vis X.env.scope x)
    (hd : (x == ("__debug__" : Str)) = false := by decide) (hcd : (x == ("__classdict__" : Str)) = false := by decide) :
    PE X (.Call (.Name x p) [] [] pos) (tCallVS P w K mg base k i E tNil) := by
  subst e1 e2 e3 e4 e5
  exact pe_callVS0 hr hx hN hv hd hcd
theorem pe_callVK {P : Program} {w : World} {K : PySem.W.Frag} {mg : Str → Option Value} {base : Heap} {E : XK} (e1 : X.prog = P) (e2 : X.w = w) (e3 : X.K = K) (e4 : X.mg = mg) (e5 : X.base = base) (hr : Room k X.A) (hx : Passes (L2.CX X.prog X.w) X E) (hN : X.N[i]? = some x) (hv : Vis X.env.scope x) (ha : PA X (e :: es) t)
    (hd : (x == ("__debug__" : Str)) = false := by decide) (hcd : (x == ("__classdict__" : Str)) = false := by decide)
    (he : starEach (e :: es) X.env = (false, eval e X.env) :: starEach es X.env := by rfl) (hpl : (backTo pos (starEach es X.env)).any (·.1) = false := by rfl) :
    PE X (.Call (.Name x p) (e :: es) [] pos) (tCallV P w K mg base k i E t) := by
  subst e1 e2 e3 e4 e5
  exact pe_callV hr hx hN hv ha hd hcd he hpl
theorem pe_callV0K {P : Program} {w : World} {K : PySem.W.Frag} {mg : Str → Option Value} {base : Heap} {E : XK} (e1 : X.prog = P) (e2 : X.w = w) (e3 : X.K = K) (e4 : X.mg = mg) (e5 : X.base = base) (hr : Room k X.A) (hx : Passes (L2.CX X.prog X.w) X E) (hN : X.N[i]? = some x) (hv : Vis X.env.scope x)
    (hd : (x == ("__debug__" : Str)) = false := by decide) (hcd : (x == ("__classdict__" : Str)) = false := by decide) :
    PE X (.Call (.Name x p) [] [] pos) (tCallV P w K mg base k i E tNil) := by
  subst e1 e2 e3 e4 e5
  exact pe_callV0 hr hx hN hv hd hcd
/-- the exception's class is told -/
def tCls (K : PySem.W.Frag) (cls : Value) (d : Option Addr) (t : Addr → TS) : TS := fun Dn σ H => ∃ D, cls = .ref D ∧ d = none ∧ ExcC K D ∧ t D Dn σ H
theorem pss_cls {cls : Value} {d : Option Addr} {ss : List Stmt} {t : Addr → TS} {K : PySem.W.Frag} (h : ∀ D, cls = .ref D → d = none → ExcC K D → PSs X ss (t D)) : PSs X ss (tCls K cls d t) :=
  ⟨fun pins s σ H Dn I ⟨D, e1, e2, C, q⟩ => (h D e1 e2 C).run pins s σ H Dn I q⟩
theorem call_isEK {K : PySem.W.Frag} {a D : Addr} {oe : Obj} {pn : List (Addr × Obj)} {cls : Value} {d : Option Addr} (hK : X.K = K) (C : ExcC K D) (e1 : cls = .ref D) (e2 : d = none) (hz : Zc cls d oe) (hf : ∃ vs, oe.data = .fields vs) : CallR (X.suite a ((a, oe) :: pn)) (.builtin "isinstance") (rIsE K D a) := by
  subst hK; subst e1; subst e2; exact call_isE C hz hf
end
/-! ### list.count of flat things -/
def rCntF (K : PySem.W.Frag) : V → List V → Hp → VK → Prop := fun x xs H Q => ∃ (p : Addr) (ys : List V) (y : V), x = .ref p ∧ xs = [y] ∧ SqL K H p ys ∧ flatV y = true ∧ ys.all flatV = true ∧ Q (.int (ys.countP (fun z => eqV z y) : Nat)) H
theorem count_eqU {x : V} : ∀ {xs : List V} {us : List Value}, Vals xs us → xs.all flatV = true → us.countP (eqU x) = xs.countP fun y => eqV y x
  | _, _, .nil, _ => rfl
  | y :: xs, u :: us, .cons r t, f => by
    rw [List.all_cons, Bool.and_eq_true] at f
    rw [List.countP_cons, List.countP_cons, eqU_of r f.1, count_eqU t f.2]
theorem mt_countF {X : Cx} {K : PySem.W.Frag} (hK : X.K = K) : MtR X "list.count" (rCntF K) := by
  subst hK
  intro pins s σ H x xs v us Q I rx rxs h
  obtain ⟨p, ys, y, rfl, rfl, hs, fy, fys, q⟩ := h
  cases rx
  cases rxs with
  | cons ry rt =>
    rename_i uy ut
    cases rt
    obtain ⟨its, rv, ⟨⟨cls, dd, data, sl⟩, n, ho, hc, hdn, hd⟩, hlen⟩ := I.list hs
    simp only at hc hd
    subst hc hd
    refine call_meets PySem.F.slot_list_count ⟨_, ho, rfl⟩ PySem.F.entry_list_count (PySem.F.args_list_count_2 _ _)
      (SeqAt.list_countAt p its.toArray n dd sl uy (eqU y)) ⟨ho, fun u' hu' => mem_eqAt ry fy rv fys u' (by simpa using hu'), ?_⟩
    have ec : its.toArray.toList.countP (eqU y) = ys.countP (fun z => eqV z y) := count_eqU rv fys
    refine ⟨.int (ys.countP (fun z => eqV z y) : Nat), H, I.tok _, ⟨s.toks, ?_⟩, q⟩
    show Value.int ((its.toArray.toList.countP (eqU y) : Nat) : Int) s.toks = Value.int ((ys.countP (fun z => eqV z y) : Nat) : Int) s.toks
    rw [ec]
/-! ### facts of exceptions' classes, by one Bool -/
def excB (K : PySem.W.Frag) (x : Str) : Bool :=
  He.eqO (PySem.W.findIn K (.ref (He.ga K x)) "__getattribute__") (some (some (.builtin "BaseException.__getattribute__"))) && (He.eqO (PySem.W.findIn K (.ref (He.ga K x)) "__getattr__") (some none) && (decide (PySem.W.subIn K (.ref (He.ga K x)) (.type "BaseException") = some true) && (PySem.W.hasDictIn K (He.ga K x) &&
  (He.eqO (PySem.W.findIn K (.ref (He.ga K x)) "__class__") (some (some (.builtin "object.__class__"))) && (He.eqO (PySem.W.specialIn K (.builtin "object.__class__") "__get__") (some (some (.builtin "getset_descriptor.__get__"))) && (decide (PySem.W.takesIn K (.builtin "object.__class__") = some true) && decide (PySem.W.mroIn K (He.ga K x) (.type "object") = some true)))))))
theorem excB_ok {K : PySem.W.Frag} {x : Str} (h : excB K x = true) : ExcC K (He.ga K x) := by
  unfold excB at h
  obtain ⟨h1, h⟩ := He.ba h
  obtain ⟨h2, h⟩ := He.ba h
  obtain ⟨h3, h⟩ := He.ba h
  obtain ⟨h4, h⟩ := He.ba h
  obtain ⟨h5, h⟩ := He.ba h
  obtain ⟨h6, h⟩ := He.ba h
  obtain ⟨h7, h8⟩ := He.ba h
  exact ⟨He.eqO_ok h1, He.eqO_ok h2, of_decide_eq_true h3, h4, He.eqO_ok h5, He.eqO_ok h6, of_decide_eq_true h7, of_decide_eq_true h8⟩
/-- isinstance of one of the class x: of the classes ys, in turn -/
def kitsB (K : PySem.W.Frag) (x : Str) (ys : List (Str × Bool)) : Bool := ys.all fun q => decide (PySem.W.kitOne K (.ref (He.ga K x)) (.ref (He.ga K q.1)) = some q.2)
theorem kitsB_ok {K : PySem.W.Frag} {x : Str} {ys : List (Str × Bool)} (h : kitsB K x ys = true) {y : Str} {b : Bool} (hm : (y, b) ∈ ys) : PySem.W.kitOne K (.ref (He.ga K x)) (.ref (He.ga K y)) = some b := of_decide_eq_true (List.all_eq_true.mp h (y, b) hm)
/-- an exception of the class x: caught by HearError, a ValueError, of itself alone among the eleven -/
def own11 : List Str := ["BadLine", "BadPattern", "BadWord", "BadCount", "NoListener", "Busy", "TooDeep", "NotHeld", "NoWork", "BadText", "Halt"]
def refB (K : PySem.W.Frag) (x : Str) : Bool := excB K x && (kitsB K x (own11.map fun y => (y, decide (y = x))) && (decide (PySem.W.kitOne K (.ref (He.ga K x)) (.type "ValueError") = some true) && decide (PySem.W.exmOne K (.ref (He.ga K x)) (.ref (He.ga K "HearError")) = some true)))
section
variable {CX : CXT} {P : Program} {w : World} {K : PySem.W.Frag} {mg : Str → Option Value} {base : Heap} {N : List Str} {qual : Str} {scope : Scope} {f : Addr} {cd : Value} {A : Around} {outer : List Env} {s : Shared} {H : Hp} {E : XK}
theorem cx_cells : (cxOf CX P w K mg base N qual scope f cd A outer s H E).env.cells = cellsFrom (s.heap.objs.size + 1) scope.names [] := rfl
theorem cx_scope : (cxOf CX P w K mg base N qual scope f cd A outer s H E).env.scope = scope := rfl
theorem cx_prog : (cxOf CX P w K mg base N qual scope f cd A outer s H E).prog = P := rfl
theorem cx_w : (cxOf CX P w K mg base N qual scope f cd A outer s H E).w = w := rfl
theorem cx_base : (cxOf CX P w K mg base N qual scope f cd A outer s H E).base = base := rfl
theorem cx_qual : (cxOf CX P w K mg base N qual scope f cd A outer s H E).env.qual = qual ++ (".<locals>." : Str) := rfl
theorem cx_mg : (cxOf CX P w K mg base N qual scope f cd A outer s H E).mg = mg := rfl
theorem cx_N : (cxOf CX P w K mg base N qual scope f cd A outer s H E).N = N := rfl
end
end Hk

set_option Elab.async false
set_option linter.all false
set_option maxRecDepth 100000
set_option maxHeartbeats 4000000
namespace Hk
open PySem PySem.Spec PyProof.Rows L2 LamX NdefX
/-! ### a def within a def -/
section
variable {X : Cx} {pins : List (Addr × Obj)} {σ : L2.St} {H : Hp} {s : Shared}
theorem ndef_new {Ts : List Addr} {nm : Nat → Nat → Str} {c P : Addr} {name : Str} {params : Arguments} {body : List Stmt} {scope : Scope} {pos : Pos} {E : Value → Shared → Prop} {Q : Value → Shared → Prop} (I : Inv X pins σ H s) (TB : TabB X.base X.mg c P) (hcode : X.env.code = .ref c)
    (hm : P ∈ Ts) (hn : nm pos.line pos.col = X.env.qual ++ name) (hT : Tabs1 Ts nm H) (hfree : ∀ y ∈ scope.names, y.2 = .free → ∃ c, X.env.cells.lookup y.1 = some c)
    (h : ∀ (f c' : Addr) (H1 : Hp) (s' : Shared), Inv X pins σ H1 s' → (∀ b o, H b = some o → b ∉ Ts → H1 b = some o) → (∀ b, H1 b = Option.none → H b = Option.none) → Tabs1 Ts nm H1 → H f = none → H1 f = some (FnO f ⟨name, X.env.qual ++ name, params, body, scope, cloFrom X.env.cells scope.names [], c'⟩) → H1 c' = some (CodeO c' (X.env.qual ++ name)) → Q (.ref f) s') :
    wpAny (model X.prog X.w) X.A (makeFunction name (X.env.qual ++ name) params (.stmts body) scope X.env [] [] [] pos pos.line) Q E s := by
  obtain ⟨ps, hP, ht, ha⟩ := hT P hm
  have bP : s.heap.BuiltinsAt X.mg P := TB.bm.keeps I.bk
  have hP' : s.heap.get? P = some { cls := .none, data := .fields ps } := I.hok P _ hP
  cases hc : codeAmong pos ps.toList with
  | none =>
    refine PySem.W.makeFunction_K (mg := X.mg) (c := c) (P := P) (ps := ps) (closure_ok hfree) I.ok.glob (I.mod.glob.keeps I.bk) hcode (TB.code.keeps I.bk) hP' ht hc TB.gP bP fun c' ctv doc h' tk hx hge hlt hrec htb => ?_
    obtain ⟨c2, oc, vs, t, e2, hoc, hd, hv⟩ := hrec
    cases e2
    have nC : H c' = none := I.hok.fresh hge
    have I1 := inv_table (t' := tk) (more := #[rawInt pos.line, rawInt pos.col, .ref c']) (h' := h') I hP (fun b o hb e => hx b o hb e) htb hge ⟨oc, vs, t, hoc, hd, hv⟩
    have hE : ∀ b o, H b = some o → b ≠ P → upd (upd H P (.tbl (ps ++ #[rawInt pos.line, rawInt pos.col, .ref c']))) c' (CodeO c' (X.env.qual ++ name)) b = some o := fun b o e n => by
      rw [upd_ne (ne_of_none e nC), upd_ne n]
      exact e
    have neP : ∀ b q, H b = some (CodeO b q) → b ≠ P := fun b q e z => by
      rw [z, hP] at e
      exact codeO_ne ps (Option.some.inj e).symm
    have eL : (ps ++ #[rawInt pos.line, rawInt pos.col, .ref c']).toList = ps.toList ++ [rawInt pos.line, rawInt pos.col, .ref c'] := by simp
    have T1 : Tabs1 Ts nm (upd (upd H P (.tbl (ps ++ #[rawInt pos.line, rawInt pos.col, .ref c']))) c' (CodeO c' (X.env.qual ++ name))) := fun p hp => by
      by_cases hb : p = P
      · rw [hb]
        refine ⟨_, by rw [upd_ne (ne_of_none hP nC), upd_same], by rw [eL]; exact PySem.TriplesOk_snoc _ _ _ _ ht, fun p' cv hcv => ?_⟩
        rw [eL] at hcv
        rcases among_app2 _ ht hcv with z | ⟨z, z1, z2⟩
        · obtain ⟨c0, e1, e2⟩ := ha p' cv z
          exact ⟨c0, e1, hE _ _ e2 (neP _ _ e2)⟩
        · refine ⟨c', z, ?_⟩
          rw [← z1, ← z2, hn]
          exact upd_same
      · obtain ⟨ps', a1, a2, a3⟩ := hT p hp
        refine ⟨ps', by rw [upd_ne (ne_of_none a1 nC), upd_ne hb]; exact a1, a2, fun p' cv hcv => ?_⟩
        obtain ⟨c0, e1, e2⟩ := a3 p' cv hcv
        exact ⟨c0, e1, hE _ _ e2 (neP _ _ e2)⟩
    have nF := I1.hok.fresh (Nat.le_refl _)
    have I2 := inv_fn (F := ⟨name, X.env.qual ++ name, params, body, scope, cloFrom X.env.cells scope.names [], c'⟩) (t' := tk) (doc := doc) (pm := (X.mg "__name__").getD .none) (ctv := ctv) I1 rfl
    refine h h'.objs.size c' _ _ I2 (fun b o e n => ?_) (fun b e => upd_none (upd_none (upd_none e))) (T1.ext fun b o e => ?_) (I.hok.fresh (Nat.le_trans hge (Nat.le_of_lt hlt))) upd_same ?_
    · have e1 := hE b o e (fun z => n (by rw [z]; exact hm))
      exact (upd_ne (ne_of_none e1 nF)).trans e1
    · exact (upd_ne (ne_of_none e nF)).trans e
    · exact (upd_ne (Nat.ne_of_lt hlt)).trans upd_same
  | some cv =>
    obtain ⟨c', e, hco⟩ := ha pos cv hc
    subst e
    rw [hn] at hco
    refine PySem.W.makeFunction_hit (mg := X.mg) (c := c) (P := P) (ps := ps) (closure_ok hfree) I.ok.glob (I.mod.glob.keeps I.bk) hcode (TB.code.keeps I.bk) hP' ht hc bP fun ctv doc h' tk hx hsz => ?_
    have I1 : Inv X pins σ H { s with heap := h', toks := tk } := I.kept hx
    have nF : H h'.objs.size = none := I1.hok.fresh (Nat.le_refl _)
    have I2 := inv_fn (F := ⟨name, X.env.qual ++ name, params, body, scope, cloFrom X.env.cells scope.names [], c'⟩) (t' := tk) (doc := doc) (pm := (X.mg "__name__").getD .none) (ctv := ctv) I1 rfl
    refine h h'.objs.size c' _ _ I2 (fun b o e n => ?_) (fun b e => upd_none e) (hT.ext fun b o e => ?_) nF upd_same ?_
    · exact (upd_ne (ne_of_none e nF)).trans e
    · exact (upd_ne (ne_of_none e nF)).trans e
    · exact (upd_ne (ne_of_none hco nF)).trans hco
end
def tNdef1 (Ts : List Addr) (nm : Nat → Nat → Str) (i : Nat) (mk : Addr → NF) : TS := fun D σ H => Tabs1 Ts nm H ∧ ∀ (f c' : Addr) (H1 : Hp), (∀ b o, H b = some o → b ∉ Ts → H1 b = some o) → (∀ b, H1 b = Option.none → H b = Option.none) → Tabs1 Ts nm H1 → H f = none → H1 f = some (FnO f (mk c')) → H1 c' = some (CodeO c' (mk c').qual) → D.nx (σ.set i (some (.ref f))) H1
section
variable {X : Cx}
theorem ps_ndef1 {Ts : List Addr} {nm : Nat → Nat → Str} {c P : Addr} {name : Str} {params : Arguments} {body : List Stmt} {scope : Scope} {pos : Pos} {i : Nat} (TB : TabB X.base X.mg c P) (hcode : X.env.code = .ref c) (hm : P ∈ Ts) (hn : nm pos.line pos.col = X.env.qual ++ name)
    (hfree : ∀ y ∈ scope.names, y.2 = .free → X.env.scope.names.lookup y.1 = some .cell ∨ X.env.scope.names.lookup y.1 = some .free) (hd0 : params.defaults = []) (hk0 : params.kw_defaults = []) (ha : annTrees params none X.env = [])
    (hN : X.N.Nodup) (hi : X.N[i]? = some name) (hx : Loc X.env.scope name) (hf : X.fn name = true ∨ X.env.scope.names.lookup name = some .local) :
    PS X (.FunctionDef name params body [] none [] scope none name pos) (tNdef1 Ts nm i fun c' => ⟨name, X.env.qual ++ name, params, body, scope, cloFrom X.env.cells scope.names [], c'⟩) := by
  refine ⟨fun pins s σ H D I h => ?_⟩
  obtain ⟨hT, h⟩ := h
  have hq : qualnameIn X.env name name = X.env.qual ++ name := by
    have hk : X.env.kindOf name = some .local ∨ X.env.kindOf name = some .cell := hx
    unfold qualnameIn
    rcases hk with k | k <;> rw [k] <;> first | rfl | exact if_neg (by decide)
  refine PySem.W.nestDef_K hd0 hk0 ha ?_
  rw [hq]
  have hfr : ∀ y ∈ scope.names, y.2 = .free → ∃ c, X.env.cells.lookup y.1 = some c := fun y hy e => (hfree y hy e).elim (fun z => I.ok.has _ (.inl z)) fun z => I.ok.has _ (.inr z)
  refine ndef_new I TB hcode hm hn hT hfr fun f c' H1 s' I1 e1 e2 T1 f0 f1 c1 => ?_
  exact store_ok I1 hN hi hx (v := .ref f) rfl (fun s'' J => ⟨_, H1, J, h f c' H1 e1 e2 T1 f0 f1 c1⟩) hf
end
/-! ### defs whose functions outlive them: at the end their cells are told -/
theorem exp_facts {X : Cx} {pins : List (Addr × Obj)} {σ : L2.St} {H : Hp} {s : Shared} (I : Inv X pins σ H s) (nd : X.N.Nodup) : ∃ obs : Addr → Obj, HOk X.prog X.w (exC X.env.cells X.env.scope X.N σ obs H) s.heap := by
  have C := cenv_of I nd
  obtain ⟨obs, hobs⟩ : ∃ obs : Addr → Obj, ∀ a, InC X.env.cells a → s.heap.get? a = some (obs a) := by
    refine ⟨fun a => (s.heap.get? a).getD default, fun a ⟨y, e⟩ => ?_⟩
    obtain ⟨v, o, ho, _⟩ := I.cell y a e
    show s.heap.get? a = some ((s.heap.get? a).getD default)
    rw [ho]; rfl
  refine ⟨obs, fun a o e => ?_⟩
  cases q : cellV X.env.cells X.env.scope X.N σ a with
  | some v =>
    rw [exC_some q] at e
    cases e
    obtain ⟨i, y, e1, e2, e3, kc⟩ := cellV_some q
    have ho := hobs a ⟨y, e2⟩
    obtain ⟨m, hn, hl⟩ := I.loc
    obtain ⟨u, r, l⟩ := hl i y v e1 e3 (kc.elim (fun z => .inr (.inl z)) fun z => .inr (.inr z))
    rcases l with ⟨k, _⟩ | ⟨_, c, hc, o, ho', hd'⟩
    · have k' : X.env.scope.names.lookup y = some .local := k
      rcases kc with z | z <;> rw [z] at k' <;> cases k'
    · rw [e2] at hc; cases hc
      rw [ho] at ho'; cases ho'
      exact cellO_ok r ho hd'
  | none =>
    rw [exC_none q] at e
    exact (I.hok a o e).stay (fun _ _ _ q => q) (fun b q => C.same _ _ q) fun b xs q => C.same _ _ q
/-- a call's end, of the frame X -/
def EndM (X : Cx) (Q : VK) (fl : Flow) (s' : Shared) : Prop := ∃ u v H', fl = .ret u ∧ s'.os = X.s_0.os ∧ AllBare s'.gens ∧ Un X.fs X.ex X.H_0 H' X.s_0.heap s'.heap ∧ HOk X.prog X.w H' s'.heap ∧ L2.RelV v u ∧ Q v H'
abbrev TM := VK → L2.St → Hp → Prop
structure PM (X : Cx) (ss : List Stmt) (t : TM) : Prop where
  run : ∀ (pins : List (Addr × Obj)) (s : Shared) (σ : L2.St) (H : Hp) (Q : VK), Inv X pins σ H s → t Q σ H → wpAny (model X.prog X.w) X.A (execs ss X.env) (EndM X Q) X.xe s
def tMseq (t : TS) (u : TM) : TM := fun Q σ H => t { nx := fun σ' H' => u Q σ' H', rt := Q } σ H
def tMret (cm : List (Str × Addr)) (sc : Scope) (N : List Str) (te : TE) : TM := fun Q σ H => te σ H fun v H1 => CEnv cm sc N H1 → ∀ obs, Q v (exC cm sc N σ obs H1)
section
variable {X : Cx}
theorem pm_cons {st : Stmt} {ss : List Stmt} {t : TS} {u : TM} (h1 : PS X st t) (h2 : PM X ss u) : PM X (st :: ss) (tMseq t u) := by
  refine ⟨fun pins s σ H Q I h => ?_⟩
  refine wpAny_execs_cons (thn (h1.run pins s σ H _ I h) fun f s1 q => ?_)
  cases f with
  | next =>
    obtain ⟨σ', H', I', q⟩ := q
    exact h2.run pins s1 σ' H' Q I' q
  | ret u =>
    obtain ⟨v, σ', H', J, rv, q⟩ := q
    exact ⟨u, v, H', rfl, J.os, J.bare, J.base, J.hok, rv, q⟩
  | brk =>
    obtain ⟨_, _, _, q⟩ := q
    exact False.elim q
  | cont =>
    obtain ⟨_, _, _, q⟩ := q
    exact False.elim q
theorem un_ex {pins : List (Addr × Obj)} {σ : L2.St} {H : Hp} {s : Shared} {obs : Addr → Obj} (I : Inv X pins σ H s) (nd : X.N.Nodup) (hfn : ∀ y c, X.env.cells.lookup y = some c → X.fn y = true) : Un X.fs X.ex X.H_0 (exC X.env.cells X.env.scope X.N σ obs H) X.s_0.heap s.heap := by
  have C := cenv_of I nd
  have u := I.base
  refine ⟨u.keep, u.slot, fun b o e n z => ?_, u.there, fun b xs e => C.same _ _ (u.tups b xs e), fun b o x e => C.same _ _ (u.frzs b o x e), fun b ps e => ?_⟩
  · rw [exC_out (fun z => ?_)]
    · exact u.free b o e n z
    · obtain ⟨y, hy⟩ := z
      exact absurd (Nat.lt_of_lt_of_le (Heap.lt_size e) (I.ok.cab y b (hfn y b hy) hy)) (Nat.lt_irrefl _)
  · obtain ⟨more, q⟩ := u.tbls b ps e
    exact ⟨more, C.same _ _ q⟩
theorem pm_ret {e : Expr} {te : TE} {pos : Pos} (he : PE X e te) (nd : X.N.Nodup) (hfn : ∀ y c, X.env.cells.lookup y = some c → X.fn y = true) : PM X [.Return (some e) pos] (tMret X.env.cells X.env.scope X.N te) := by
  refine ⟨fun pins s σ H Q I h => ?_⟩
  refine wpAny_execs_cons (wpAny_Return_some (thn (he.run pins s σ H _ I h) fun u s1 ⟨v, H1, I1, r1, q1⟩ => ?_))
  obtain ⟨obs, hok⟩ := exp_facts I1 nd
  exact ⟨u, v, _, rfl, I1.os, I1.bare, un_ex I1 nd hfn, hok, r1, q1 (cenv_of I1 nd) obs⟩
end
section
variable {P : Program} {w : World} {K : PySem.W.Frag} {mg : Str → Option Value} {base : Heap} {k : Nat} {fd : FuncData} {ps : List Str} {sp : Sp} {x : Str} {dvs : List V}
/-- a def by such a body -/
theorem okM {CX : CXT} {qual : Str} {params : Arguments} {body : List Stmt} {scope : Scope} {kws : List (Str × V)} {N : List Str} {p : Str × Option Str} (F : FunD K x qual params body scope dvs kws (He.fAd K p) fd) (S : FnScope N ps scope) (len : ∀ vs H Q E, sp vs H Q E → vs.length = ps.length)
    (hbody : ∀ (A : Around) (outer : List Env) (s : Shared) (H : Hp) (vs : List V) (Q : VK) (E : XK), Room k (A.deeper (envOfC qual scope s.heap.objs.size (He.fAd K p) (.ref (He.codeOf K p)))) → sp vs H Q E →
      ∃ t, PM (cxOf CX P w K mg base N qual scope (He.fAd K p) (.ref (He.codeOf K p)) A outer s H E) body t ∧ t Q (start N vs) H) : FnOk P w K mg base CX (k + 1) (He.fAd K p) fd ps sp := by
  obtain ⟨oc, od, dV, kV, doc, pm, an, cdv, ct, osl, rfl, lk, hcd, _, _⟩ := F.ex
  obtain ⟨c, rfl⟩ := He.codeIn_ref hcd
  have ec := He.codeOf_eq lk rfl
  rw [ec] at hbody
  refine ⟨len, fun A outer s H args us vs Q E hr e0 hb r hsp => ?_⟩
  have hl := len _ _ _ _ hsp
  have KX : K.In s.heap := e0.mod.kin.keeps fun b o e => (e0.bs b o e).1
  have lim : s.heap.NoLimit := e0.mod.nolimit.keeps fun b o e => (e0.bs b o e).1
  have hkind : ∀ y ∈ ps.zip us, scope.names.lookup y.1 = some .local ∨ (scope.names.lookup y.1 = some .cell ∧ ((cellsFrom (s.heap.objs.size + 1) scope.names []).lookup y.1).isSome = true) := fun ⟨n, v⟩ hy => by
    rcases S.par n (List.of_mem_zip hy).1 with q | q
    · exact .inl q
    · exact .inr ⟨q, PySem.W.cellsFrom_some _ _ _ (.inl q)⟩
  refine codeAny_call_function hr.depth (KX _ _ lk) rfl S.co S.gen rfl (PySem.W.codeRec_of KX hcd) (hb _ _ _ _ ?_)
  refine wpAny_newFunctionEnv_cells S.kind hkind fun env he s1 x => ?_
  subst he
  refine ⟨lim.keeps x.toInCall.keep, codeAny_func ?_⟩
  obtain ⟨t, ht, hq⟩ := hbody A outer s H vs Q E (hr.deeper _) hsp
  have I : Inv (cxOf CX P w K mg base N qual scope (He.fAd K p) (.ref c) A outer s H E) [] (L2.start N vs) H s1 := inv_start S hr.hd e0 hl r x
  refine wpAny_mono (ht.run [] s1 (L2.start N vs) H Q I hq) (fun fl s' hs => ?_) fun e s' hs => hs
  obtain ⟨u, v, H', rfl, os, bare, un, hok, rv, q⟩ := hs
  exact ⟨v, H', os, bare, un, hok, rv, q⟩
end
/-! ### a lambda of a live frame, called by a callee -/
/-- what stands in the body's heap, what stood in the caller's -/
theorem body_in {cm cl : List (Str × Addr)} {sc : Scope} {N : List Str} {σ : L2.St} {obs : Addr → Obj} {H : Hp} (C : CEnv cm sc N H) (hcl : ∀ y c, cl.lookup y = some c → cm.lookup y = some c) : Same H (delC cl (exC cm sc N σ obs H)) := fun a o h => by
  rw [delC_out (fun z => by obtain ⟨y, e⟩ := z; exact C.out h ⟨y, hcl y a e⟩)]
  exact C.same _ _ h
/-- the heap behind the call, from the body's -/
theorem body_out {S : Addr → Prop} {cm cl : List (Str × Addr)} {sc : Scope} {N : List Str} {σ : L2.St} {obs : Addr → Obj} {H H' H2 : Hp} (C : CEnv cm sc N H) (hcl : ∀ y c, cl.lookup y = some c → cm.lookup y = some c)
    (e : Ext S (delC cl (exC cm sc N σ obs H)) H') (e2 : ∀ b o, ¬ S b → putC cl (exC cm sc N σ obs H) H' b = some o → H2 b = some o) : Ext S H (delC cm H2) := fun a o n h => by
  have na : ¬ InC cm a := C.out h
  have nl : ¬ InC cl a := fun ⟨y, q⟩ => na ⟨y, hcl y a q⟩
  rw [delC_out na]
  exact e2 a o n (by rw [putC_out nl]; exact e a o n (body_in C hcl a o h))
theorem act_use {P : Program} {w : World} {K : PySem.W.Frag} {mg : Str → Option Value} {base : Heap} {k : Nat} {f : Addr} {L : LF} {fr : List Str} {dvs : List V} {spN : List (Option V) → Sp} {H : Hp} {R : Sp → Prop} (hf : H f = some (LamO f L)) (a : Act P w K mg base k f (spLam f L fr dvs spN)) (h : R (spLam f L fr dvs spN)) : ∃ sp, Act P w K mg base k f sp ∧ R sp := ⟨_, a, h⟩
theorem fin_same {cm cl : List (Str × Addr)} {sc : Scope} {N : List Str} {σ : L2.St} {obs : Addr → Obj} {H H' H2 : Hp} (C : CEnv cm sc N H) (hcl : ∀ y c, cl.lookup y = some c → cm.lookup y = some c)
    (e : Same (delC cl (exC cm sc N σ obs H)) H') (e2 : Same (putC cl (exC cm sc N σ obs H) H') H2) : Same H (delC cm H2) :=
  (body_out (S := No) C hcl (.of_same e) fun b o _ h => e2 b o h).same
theorem Tabs1.nt {Ts : List Addr} {nm : Nat → Nat → Str} {H : Hp} (t : Tabs1 Ts nm H) {b : Addr} {o : HO} (h : H b = some o) (n : ∀ ps, o ≠ .tbl ps) : b ∉ Ts := fun hb => by
  obtain ⟨ps, e, _⟩ := t b hb
  rw [h] at e
  exact n ps (Option.some.inj e)
theorem Tabs1.ext2 {Ts : List Addr} {nm : Nat → Nat → Str} {H H' : Hp} (t : Tabs1 Ts nm H) (h1 : ∀ b ps, H b = some (.tbl ps) → H' b = some (.tbl ps)) (h2 : ∀ c q, H c = some (CodeO c q) → H' c = some (CodeO c q)) : Tabs1 Ts nm H' := fun p hp => by
  obtain ⟨ps, a1, a2, a3⟩ := t p hp
  refine ⟨ps, h1 _ _ a1, a2, fun pos cv hc => ?_⟩
  obtain ⟨c, e1, e2⟩ := a3 pos cv hc
  exact ⟨c, e1, h2 _ _ e2⟩
theorem clo_sub {cm : List (Str × Addr)} {sc : Scope} {N : List Str} {H : Hp} {scope : Scope} {fr : List Str} (C : CEnv cm sc N H) (hb : ndefB sc scope fr = true) : ∀ y c, (cloFrom cm scope.names []).lookup y = some c → cm.lookup y = some c :=
  fun y c e => clo_cm (fun y hy e => C.has y.1 (ndef_free hb y hy e)) e
end Hk

set_option Elab.async false
set_option linter.all false
set_option maxRecDepth 100000
set_option maxHeartbeats 4000000
/-! Calls over a heap without some cells; a lambda over the heap without any cell of the frame that made it. -/
namespace Hk
open PySem PySem.Spec PyProof.Rows L2 LamX NdefX
structure CsAt (cl : List (Str × Addr)) (H : Hp) : Prop where
  tr_ : ∀ a, InC cl a → ∃ v, IsC H a v
theorem CsAt.tr {cl : List (Str × Addr)} {H : Hp} (C : CsAt cl H) {a : Addr} (h : InC cl a) : ∃ v, IsC H a v := C.tr_ a h
theorem CapsAt.cs {cl : List (Str × Addr)} {fr : List Str} {ws : List V} {H : Hp} (C : CapsAt cl fr ws H) : CsAt cl H := ⟨fun a z => C.tr z⟩
theorem CsAt.out {cl : List (Str × Addr)} {H : Hp} (C : CsAt cl H) {a : Addr} {o : HO} (h : H a = some o) (n : ∀ ob u, o ≠ .frz ob u) : ¬ InC cl a := fun z => by
  obtain ⟨v, ob, e⟩ := C.tr z
  rw [h] at e
  exact n _ _ (Option.some.inj e)
theorem CsAt.outN {cl : List (Str × Addr)} {H : Hp} (C : CsAt cl H) {a : Addr} (h : H a = none) : ¬ InC cl a := fun z => by
  obtain ⟨v, ob, e⟩ := C.tr z
  rw [h] at e
  cases e
theorem CsAt.del {cl : List (Str × Addr)} {H : Hp} (C : CsAt cl H) {a : Addr} {o : HO} (h : H a = some o) (n : ∀ ob u, o ≠ .frz ob u) : delC cl H a = some o := by rw [delC_out (C.out h n)]; exact h
section
variable {P : Program} {w : World} {cl : List (Str × Addr)} {H H' : Hp} {h h' B : Heap} {fs : List Addr}
theorem CsAt.hokDel (C : CsAt cl H) (hok : HOk P w H h) : HOk P w (delC cl H) h := fun a o e => by
  have na : ¬ InC cl a := fun z => by rw [delC_in z] at e; cases e
  rw [delC_out na] at e
  exact (hok a o e).stay (fun _ _ _ q => q) (fun b q => C.del q (fun _ _ z => by cases z)) fun b xs q => C.del q (fun _ _ z => by cases z)
/-- behind the body: the cells are as they were -/
theorem CsAt.hokPut (C : CsAt cl H) (hok0 : HOk P w H h) (hok : HOk P w H' h') (kp : ∀ a, InC cl a → ∀ o, h.get? a = some o → h'.get? a = some o) (fr0 : ∀ a, InC cl a → H' a = none) : HOk P w (putC cl H H') h' := fun a o e => by
  by_cases z : InC cl a
  · rw [putC_in z] at e
    obtain ⟨v, ob, e2⟩ := C.tr z
    rw [e] at e2
    cases e2
    obtain ⟨e3, u, r, d⟩ := cellO_at (hok0 a _ e)
    exact cellO_ok r (kp a z _ e3) d
  · rw [putC_out z] at e
    have st : ∀ b o, H' b = some o → putC cl H H' b = some o := fun b o q => by
      rw [putC_out (fun z => by rw [fr0 b z] at q; cases q)]; exact q
    exact (hok a o e).stay (fun _ _ _ q => q) (fun b q => st b _ q) fun b xs q => st b _ q
theorem CsAt.un (C : CsAt cl H) (u : Un fs [] (delC cl H) H' h h') (ex : ∀ a, InC cl a → ∃ o, h.get? a = some o) : Un fs [] H (putC cl H H') h h' where
  keep := fun b o e n => u.keep b o e (by rw [delC_out (C.outN n)]; exact n)
  slot := fun b o e n => u.slot b o e (by rw [delC_out (C.outN n)]; exact n)
  free := fun b o e n z => by rw [putC_out (C.outN n)]; exact u.free b o e (by rw [delC_out (C.outN n)]; exact n) z
  there := u.there
  tups := fun b xs e => by
    have q := C.out e (fun _ _ z => by cases z)
    rw [putC_out q]; exact u.tups b xs (by rw [delC_out q]; exact e)
  frzs := fun b o x e => by
    by_cases z : InC cl b
    · rw [putC_in z]; exact e
    · rw [putC_out z]; exact u.frzs b o x (by rw [delC_out z]; exact e)
  tbls := fun b ps e => by
    have q := C.out e (fun _ _ z => by cases z)
    rw [putC_out q]; exact u.tbls b ps (by rw [delC_out q]; exact e)
theorem CsAt.ub (C : CsAt cl H) (u : UB fs (delC cl H) H' h B h') : UB fs H (putC cl H H') h B h' where
  keep := fun b o e n => u.keep b o e (by rw [delC_out (C.outN n)]; exact n)
  slot := u.slot
  free := fun b o e n => by rw [putC_out (C.outN n)]; exact u.free b o e (by rw [delC_out (C.outN n)]; exact n)
  there := u.there
  tups := fun b xs e => by
    have q := C.out e (fun _ _ z => by cases z)
    rw [putC_out q]; exact u.tups b xs (by rw [delC_out q]; exact e)
  frzs := fun b o x e => by
    by_cases z : InC cl b
    · rw [putC_in z]; exact e
    · rw [putC_out z]; exact u.frzs b o x (by rw [delC_out z]; exact e)
  tbls := fun b ps e => by
    have q := C.out e (fun _ _ z => by cases z)
    rw [putC_out q]; exact u.tbls b ps (by rw [delC_out q]; exact e)

end
section
variable {P : Program} {w : World} {K : PySem.W.Frag} {mg : Str → Option Value} {base : Heap} {k : Nat} {f : Addr} {sp : Sp}
/-- what a run over the heap without the cells gives over the heap with them -/
theorem csRun {cl : List (Str × Addr)} {A : Around} {outer : List Env} {s : Shared} {H : Hp} {Q : VK} {E : XK} {c : Code} (C : CsAt cl H) (e0 : Env0 P w K mg base A outer s H)
    (h : Env0 P w K mg base A outer s (delC cl H) → codeAny (model P w) A c (CR (L2.CX P w) outer P w (delC cl H) s (fun v H' => (∀ a, InC cl a → H' a = none) → Q v (putC cl H H')) (fun cls d H' => (∀ a, InC cl a → H' a = none) → E cls d (putC cl H H'))) s) :
    codeAny (model P w) A c (CR (L2.CX P w) outer P w H s Q E) s := by
  have at_ : ∀ a, InC cl a → ∃ v ob, H a = some (CellO a v ob) ∧ s.heap.get? a = some ob := fun a z => by
    obtain ⟨v, ob, e⟩ := C.tr z
    exact ⟨v, ob, e, (cellO_at (e0.hok a _ e)).1⟩
  have nfs : ∀ a, InC cl a → a ∉ frs outer := fun a z hb => by
    obtain ⟨v, ob, e, _⟩ := at_ a z
    rw [e0.frf a hb] at e
    cases e
  have e1 : Env0 P w K mg base A outer s (delC cl H) := ⟨e0.frames, e0.mod, fun b o e => ⟨(e0.bs b o e).1, by rw [delC_out (C.outN (e0.bs b o e).2)]; exact (e0.bs b o e).2⟩, e0.bsz, e0.funs, fun b hb => by rw [delC_out (C.outN (e0.frf b hb))]; exact e0.frf b hb, C.hokDel e0.hok, e0.bare⟩
  refine codeAny_mono (h e1) fun r s' hq => ?_
  cases r with
  | ok fl =>
    cases fl with
    | ret u =>
      obtain ⟨v, H', os, bare, un, hok, rv, q⟩ := (show CE outer P w (delC cl H) s _ u s' from hq)
      have f0 : ∀ a, InC cl a → H' a = none := fun a z => by
        obtain ⟨v, ob, _, q2⟩ := at_ a z
        exact un.free a ob q2 (delC_in z) (by simp)
      exact ⟨v, putC cl H H', os, bare, C.un un (fun a z => (at_ a z).elim fun v ⟨ob, _, q⟩ => ⟨ob, q⟩), C.hokPut e0.hok hok (fun a z o e => un.keep a o e (delC_in z) (nfs a z) (by simp)) f0, rv, q f0⟩
    | next => exact False.elim hq
    | brk => exact False.elim hq
    | cont => exact False.elim hq
  | error e =>
    obtain ⟨a, B, H', cls, d, e1, fl, hok, ub, na, os, bare, q⟩ := (show L2.CX P w outer (delC cl H) s _ e s' from hq)
    have f0 : ∀ a, InC cl a → H' a = none := fun a z => by
      obtain ⟨v, ob, _, q2⟩ := at_ a z
      exact ub.free a ob q2 (delC_in z)
    have kp : ∀ a, InC cl a → ∀ o, s.heap.get? a = some o → B.get? a = some o := fun a z o e => ub.keep a o e (delC_in z) (nfs a z)
    refine ⟨a, B, putC cl H H', cls, d, e1, fl, C.hokPut e0.hok hok kp f0, C.ub ub, ?_, os, bare, q f0⟩
    have nz : ¬ InC cl a := fun z => by
      obtain ⟨v, ob, _, q2⟩ := at_ a z
      have := kp a z ob q2
      rw [fl.2.1] at this
      cases this
    rw [putC_out nz]
    exact na

/-- a call over a heap without some cells -/
def spF (sp : Sp) : Sp := fun vs H Q E => ∃ cl, CsAt cl H ∧ sp vs (delC cl H) (fun v H' => (∀ a, InC cl a → H' a = none) → Q v (putC cl H H')) (fun c d H' => (∀ a, InC cl a → H' a = none) → E c d (putC cl H H'))
theorem FnOk.framed {fd : FuncData} {ps : List Str} (F : FnOk P w K mg base (L2.CX P w) k f fd ps sp) : FnOk P w K mg base (L2.CX P w) k f fd ps (spF sp) :=
  ⟨fun vs H Q E ⟨cl, C, q⟩ => F.len _ _ _ _ q, fun A outer s H args us vs Q E hr e0 hb r ⟨cl, C, q⟩ => csRun C e0 fun e1 => F.run A outer s (delC cl H) args us vs _ _ hr e1 hb r q⟩
theorem csEnv {cl : List (Str × Addr)} {A : Around} {outer : List Env} {s : Shared} {H : Hp} (C : CsAt cl H) (e0 : Env0 P w K mg base A outer s H) : Env0 P w K mg base A outer s (delC cl H) :=
  ⟨e0.frames, e0.mod, fun b o e => ⟨(e0.bs b o e).1, by rw [delC_out (C.outN (e0.bs b o e).2)]; exact (e0.bs b o e).2⟩, e0.bsz, e0.funs, fun b hb => by rw [delC_out (C.outN (e0.frf b hb))]; exact e0.frf b hb, C.hokDel e0.hok, e0.bare⟩
theorem Act.framed (a : Act P w K mg base k f sp) : Act P w K mg base k f (spF sp) := fun A outer s H us vs Q E hr e0 r ⟨cl, C, q⟩ =>
  ⟨(a A outer s (delC cl H) us vs _ _ hr (csEnv C e0) r q).1, csRun C e0 fun e1 => (a A outer s (delC cl H) us vs _ _ hr e1 r q).2⟩
end
section
variable {X : Cx} {pins : List (Addr × Obj)} {σ : L2.St} {H : Hp} {s : Shared}
theorem run_expUO {Q : VK} {E : XK} {c : Code} (I : Inv X pins σ H s) (nd : X.N.Nodup) (hout : ∀ a, InC X.env.cells a → X.base.get? a = none ∧ a ∉ X.fs) (hx : Passes (L2.CX X.prog X.w) X E)
    (h : ∀ obs, Env0 X.prog X.w X.K X.mg X.base X.A X.stack s (exC X.env.cells X.env.scope X.N σ obs H) → codeAny (model X.prog X.w) X.A c (CR (L2.CX X.prog X.w) X.stack X.prog X.w (exC X.env.cells X.env.scope X.N σ obs H) s (fun v H' => (∀ b, InC X.env.cells b → exC X.env.cells X.env.scope X.N σ obs H b = none → H' b = none) → Q v (delC X.env.cells H')) (fun cls d H' => (∀ b, InC X.env.cells b → exC X.env.cells X.env.scope X.N σ obs H b = none → H' b = none) → E cls d (delC X.env.cells H'))) s) :
    codeAny (model X.prog X.w) X.A c (fun r s' => match r with
      | .ok (.ret u) => EP X pins σ Q u s'
      | .ok _ => False
      | .error e => X.xe e s') s := by
  have C := cenv_of I nd
  obtain ⟨obs, hobs⟩ : ∃ obs : Addr → Obj, ∀ a, InC X.env.cells a → s.heap.get? a = some (obs a) := by
    refine ⟨fun a => (s.heap.get? a).getD default, fun a ⟨y, e⟩ => ?_⟩
    obtain ⟨v, o, ho, _⟩ := I.cell y a e
    show s.heap.get? a = some ((s.heap.get? a).getD default)
    rw [ho]; rfl
  have inC : ∀ {a v}, cellV X.env.cells X.env.scope X.N σ a = some v → InC X.env.cells a := fun {a v} e => by
    obtain ⟨i, y, _, e2, _⟩ := cellV_some e
    exact ⟨y, e2⟩
  have okc : ∀ {a v}, cellV X.env.cells X.env.scope X.N σ a = some v → ∃ u, L2.RelV v u ∧ (obs a).data = .cell (some u) := fun {a v} e => by
    obtain ⟨i, y, e1, e2, e3, kc⟩ := cellV_some e
    have ho := hobs a ⟨y, e2⟩
    obtain ⟨m, hn, hl⟩ := I.loc
    obtain ⟨u, r, l⟩ := hl i y v e1 e3 (kc.elim (fun z => .inr (.inl z)) fun z => .inr (.inr z))
    rcases l with ⟨k, _⟩ | ⟨_, c, hc, o, ho', hd'⟩
    · have k' : X.env.scope.names.lookup y = some .local := k
      rcases kc with z | z <;> rw [z] at k' <;> cases k'
    · rw [e2] at hc; cases hc
      rw [ho] at ho'; cases ho'
      exact ⟨u, r, hd'⟩
  have nfr : ∀ a, InC X.env.cells a → a ∉ frs X.stack := fun a z hb => by
    rcases List.mem_cons.mp (I.stkSub a hb) with e | e
    · obtain ⟨y, hy⟩ := z
      exact I.cne y a hy e
    · exact (hout a z).2 e
  have hokX : HOk X.prog X.w (exC X.env.cells X.env.scope X.N σ obs H) s.heap := fun a o e => by
    cases q : cellV X.env.cells X.env.scope X.N σ a with
    | some v =>
      rw [exC_some q] at e
      cases e
      obtain ⟨u, r, d⟩ := okc q
      exact cellO_ok r (hobs a (inC q)) d
    | none =>
      rw [exC_none q] at e
      exact (I.hok a o e).stay (fun _ _ _ q => q) (fun b q => C.same _ _ q) fun b xs q => C.same _ _ q
  have e1 : Env0 X.prog X.w X.K X.mg X.base X.A X.stack s (exC X.env.cells X.env.scope X.N σ obs H) := by
    have e0 := I.env0
    refine ⟨e0.frames, e0.mod, fun b o e => ⟨(e0.bs b o e).1, ?_⟩, e0.bsz, e0.funs, fun b hb => ?_, hokX, e0.bare⟩
    · rw [exC_out (fun z => ?_)]
      · exact (e0.bs b o e).2
      · rw [(hout b z).1] at e; cases e
    · rw [exC_out (fun z => nfr b z hb)]
      exact e0.frf b hb
  refine codeAny_mono (h obs e1) fun r s' hq => ?_
  /- behind it -/
  have cellK : ∀ {H' : Hp} {h' : Heap}, HOk X.prog X.w H' h' → (∀ b o u, exC X.env.cells X.env.scope X.N σ obs H b = some (.frz o u) → H' b = some (.frz o u)) → ∀ a v, cellV X.env.cells X.env.scope X.N σ a = some v → h'.get? a = some (obs a) := fun {H' h'} hok fz a v q => by
    have := fz a _ _ (exC_some q)
    exact (cellO_at (hok a _ (show H' a = some (CellO a v (obs a)) from this))).1
  have hokD : ∀ {H' : Hp} {h' : Heap}, HOk X.prog X.w H' h' → (∀ b o u, exC X.env.cells X.env.scope X.N σ obs H b = some (.frz o u) → H' b = some (.frz o u)) → (∀ b o, s.heap.get? b = some o → exC X.env.cells X.env.scope X.N σ obs H b = none → H' b = none) → HOk X.prog X.w (delC X.env.cells H') h' := fun {H' h'} hok fz fr0 a o e => by
    have na : ¬ InC X.env.cells a := fun z => by rw [delC_in z] at e; cases e
    rw [delC_out na] at e
    have st : ∀ b o, H' b = some o → (∀ ob u, o ≠ .frz ob u) → delC X.env.cells H' b = some o := fun b o q nf => by
      rw [delC_out (fun z => ?_)]
      · exact q
      · cases qq : cellV X.env.cells X.env.scope X.N σ b with
        | some v =>
          have := fz b _ _ (exC_some qq)
          rw [q] at this
          exact nf _ _ (Option.some.inj this)
        | none =>
          have := fr0 b _ (hobs b z) (by rw [exC_none qq]; exact C.free b z)
          rw [q] at this; cases this
    exact (hok a o e).stay (fun _ _ _ q => q) (fun b q => st b _ q (fun _ _ z => by cases z)) fun b xs q => st b _ q (fun _ _ z => by cases z)
  cases r with
  | ok fl =>
    cases fl with
    | ret u =>
      obtain ⟨v, H', os, bare, un, hok, rv, q⟩ := (show CE X.stack X.prog X.w (exC X.env.cells X.env.scope X.N σ obs H) s _ u s' from hq)
      have un2 : Un (frs X.stack) [] H (delC X.env.cells H') s.heap s'.heap := by
        refine ⟨fun b o e n hb hx => ?_, fun b o e n hb hx => ?_, fun b o e n hx => ?_, un.there, fun b xs e => ?_, fun b o x e => ?_, fun b ps e => ?_⟩
        · cases qq : cellV X.env.cells X.env.scope X.N σ b with
          | some w =>
            have h1 := cellK hok un.frzs b w qq
            rw [hobs b (inC qq)] at e
            cases e; exact h1
          | none => exact un.keep b o e (by rw [exC_none qq]; exact n) hb hx
        · exact un.slot b o e (by rw [exC_out (fun z => nfr b z hb)]; exact n) hb hx
        · by_cases z : InC X.env.cells b
          · exact delC_in z
          · rw [delC_out z]; exact un.free b o e (by rw [exC_out z]; exact n) hx
        · rw [delC_out (C.out e)]; exact un.tups b xs (C.same _ _ e)
        · rw [delC_out (C.out e)]; exact un.frzs b o x (C.same _ _ e)
        · rw [delC_out (C.out e)]; exact un.tbls b ps (C.same _ _ e)
      exact I.after ⟨v, delC X.env.cells H', os, bare, un2, hokD hok un.frzs (fun b o e n => un.free b o e n (by simp)), rv, q fun b z n => un.free b _ (hobs b z) n (by simp)⟩
    | next => exact False.elim hq
    | brk => exact False.elim hq
    | cont => exact False.elim hq
  | error e =>
    obtain ⟨a, B, H', cls, d, ea, fl, hok, ub, na, os, bare, q⟩ := (show L2.CX X.prog X.w X.stack (exC X.env.cells X.env.scope X.N σ obs H) s _ e s' from hq)
    have ub2 : UB (frs X.stack) H (delC X.env.cells H') s.heap B s'.heap := by
      refine ⟨fun b o e n hb => ?_, ub.slot, fun b o e n => ?_, ub.there, fun b xs e => ?_, fun b o x e => ?_, fun b ps e => ?_⟩
      · cases qq : cellV X.env.cells X.env.scope X.N σ b with
        | some w =>
          have h1 := cellK hok ub.frzs b w qq
          rw [hobs b (inC qq)] at e
          cases e; exact h1
        | none => exact ub.keep b o e (by rw [exC_none qq]; exact n) hb
      · by_cases z : InC X.env.cells b
        · exact delC_in z
        · rw [delC_out z]; exact ub.free b o e (by rw [exC_out z]; exact n)
      · rw [delC_out (C.out e)]; exact ub.tups b xs (C.same _ _ e)
      · rw [delC_out (C.out e)]; exact ub.frzs b o x (C.same _ _ e)
      · rw [delC_out (C.out e)]; exact ub.tbls b ps (C.same _ _ e)
    refine hx pins σ H s e s' I ⟨a, B, delC X.env.cells H', cls, d, ea, fl, hokD hok ub.frzs (fun b o e n => ub.free b o e n), ub2, ?_, os, bare, q fun b z n => ub.free b _ (hobs b z) n⟩
    by_cases z : InC X.env.cells a
    · exact delC_in z
    · rw [delC_out z]; exact na
theorem run_expU {Q : VK} {E : XK} {c : Code} (I : Inv X pins σ H s) (nd : X.N.Nodup) (hfn : ∀ y c, X.env.cells.lookup y = some c → X.fn y = true) (hx : Passes (L2.CX X.prog X.w) X E)
    (h : ∀ obs, Env0 X.prog X.w X.K X.mg X.base X.A X.stack s (exC X.env.cells X.env.scope X.N σ obs H) → codeAny (model X.prog X.w) X.A c (CR (L2.CX X.prog X.w) X.stack X.prog X.w (exC X.env.cells X.env.scope X.N σ obs H) s (fun v H' => (∀ b, InC X.env.cells b → exC X.env.cells X.env.scope X.N σ obs H b = none → H' b = none) → Q v (delC X.env.cells H')) (fun cls d H' => (∀ b, InC X.env.cells b → exC X.env.cells X.env.scope X.N σ obs H b = none → H' b = none) → E cls d (delC X.env.cells H'))) s) :
    codeAny (model X.prog X.w) X.A c (fun r s' => match r with
      | .ok (.ret u) => EP X pins σ Q u s'
      | .ok _ => False
      | .error e => X.xe e s') s := run_expUO I nd (out_own I hfn) hx h
end
def tCallXU (cm : List (Str × Addr)) (sc : Scope) (N : List Str) (sp : Sp) (dvs : List V) (E : XK) (t : TA) : TE := fun σ H Q => t σ H fun vs H1 => CEnv cm sc N H1 → ∀ obs, sp (vs ++ dvs) (exC cm sc N σ obs H1) (fun v H' => (∀ b, InC cm b → exC cm sc N σ obs H1 b = none → H' b = none) → Q v (delC cm H')) (fun cls d H' => (∀ b, InC cm b → exC cm sc N σ obs H1 b = none → H' b = none) → E cls d (delC cm H'))
section
variable {X : Cx} {k : Nat} {x : Str} {ps : List Str} {dvs : List V} {sp : Sp} {E : XK} {p pos : Pos} {e : Expr} {es : List Expr} {t : TA}
theorem pe_callXU (G : Glob X.prog X.w X.K X.mg X.base (L2.CX X.prog X.w) k x ps dvs sp) (hr : Room k X.A) (hg : Gl X x) (hx : Passes (L2.CX X.prog X.w) X E) (nd : X.N.Nodup) (hfn : ∀ y c, X.env.cells.lookup y = some c → X.fn y = true) (ha : PA X (e :: es) t)
    (hdb : (x == ("__debug__" : Str)) = false := by decide) (he : starEach (e :: es) X.env = (false, eval e X.env) :: starEach es X.env := by rfl) (hpl : (backTo pos (starEach es X.env)).any (·.1) = false := by rfl) :
    PE X (.Call (.Name x p) (e :: es) [] pos) (tCallXU X.env.cells X.env.scope X.N sp dvs E t) := by
  refine ⟨fun pins s σ H Q I h => ?_⟩
  obtain ⟨f, fd, ds, F, hm, kp, vd, hb⟩ := G.ex
  refine wpAny_Call_Name_kw (ld_glob I hg hm ?_ hdb)
  refine PySem.W.callWith_K (h₀ := X.base) I.ok.mod.kin kp (thn (ha.run pos pins s σ H _ I h) fun us s1 ⟨vs, H1, I1, r, q⟩ => ⟨I1.kIn, ?_⟩) he hpl
  refine wpAny_call (codeAny_mono (run_expU (Q := Q) (E := E) I1 nd hfn hx fun obs e0 => ?_) fun r s' hq => ?_)
  · have r2 : Vals (vs ++ dvs) (us ++ ds) := r.append vd
    have q2 := q (cenv_of I1 nd) obs
    have hl : (us ++ ds).length = ps.length := by rw [← r2.length]; exact F.len _ _ _ _ q2
    exact F.run X.A X.stack s1 _ ⟨us, []⟩ (us ++ ds) (vs ++ dvs) _ _ hr e0 (hb s1 us I1.kIn hl) r2 q2
  · cases r with
    | error e => exact hq
    | ok fl =>
      cases fl with
      | ret u => exact hq
      | next => exact False.elim hq
      | brk => exact False.elim hq
      | cont => exact False.elim hq
end
theorem lookup_filter {p : Str × Addr → Bool} {y : Str} {b : Addr} : ∀ {l : List (Str × Addr)}, l.lookup y = some b → p (y, b) = true → (l.filter p).lookup y = some b
  | (x, a) :: r, h, hp => by
    by_cases e : y = x
    · subst e
      rw [List.lookup_cons_self] at h
      cases h
      rw [List.filter_cons_of_pos hp, List.lookup_cons_self]
    · have e' : (y == x) = false := beq_eq_false_iff_ne.mpr e
      rw [List.lookup_cons, e'] at h
      have ih := lookup_filter h hp
      by_cases hq : p (x, a) = true
      · rw [List.filter_cons_of_pos hq, List.lookup_cons, e']; exact ih
      · rw [List.filter_cons_of_neg hq]; exact ih
/-! ### a lambda called while the frame that made it runs: its body over the heap without cells -/
/-- Hl: the heap behind the call, H' behind the body -/
def OutC (cm : List (Str × Addr)) (X1 Hl H' : Hp) : Prop := ∀ b o, H' b = some o → Hl b = some o ∧ (InC cm b → X1 b = none)
theorem OutC.same {cm : List (Str × Addr)} {X1 Hl H' H2 : Hp} (h : OutC cm X1 Hl H') (s : Same Hl H2) (u : ∀ b, InC cm b → X1 b = none → H2 b = none) : Same H' (delC cm H2) := fun b o e => by
  obtain ⟨h1, h2⟩ := h b o e
  have := s _ _ h1
  rw [delC_out (fun z => by rw [u b z (h2 z)] at this; cases this)]
  exact this
theorem lam_all {P : Program} {w : World} {K : PySem.W.Frag} {mg : Str → Option Value} {base : Heap} {n : Nat} {cm : List (Str × Addr)} {sc : Scope} {N : List Str} {σ : L2.St} {obs : Addr → Obj} {H : Hp} {f : Addr} {L : LF} {fr : List Str} {dvs vs : List V} {spN : List (Option V) → Sp} {ws : List V} {N' ps' : List Str} {R : VK} {RE : XK} (C : CEnv cm sc N H) (hf : H f = some (LamO f L)) (hc : H L.c = some (CodeO L.c L.qual))
    (ac : Act P w K mg base n f (spLam f L fr dvs spN)) (js : List Nat) (hL : L.cl = cloFrom cm L.scope.names []) (hb : ndefB sc L.scope fr = true) (S : NScope N' ps' fr L.scope) (hjs : js.map (fun j => N[j]?) = fr.map some) (hws : js.map (fun j => σ[j]?) = ws.map (fun v => some (some v))) (hdt : DtOk H L.dT dvs)
    (body : ∀ (Q : VK) (E : XK), (∀ v H', R v H' → Q v H') → (∀ c d H', RE c d H' → E c d H') → spN (ws.map some) (vs ++ dvs) H Q E) :
    ∃ sp, Act P w K mg base n f sp ∧ ∀ (Q : VK) (E : XK), (∀ v Hl H', R v H' → OutC cm (exC cm sc N σ obs H) Hl H' → Q v Hl) → (∀ c d Hl H', RE c d H' → OutC cm (exC cm sc N σ obs H) Hl H' → E c d Hl) → sp vs (exC cm sc N σ obs H) Q E := by
  refine ⟨_, ac.framed, fun Q E hq he => ?_⟩
  have caps : CapsAt L.cl fr ws (exC cm sc N σ obs H) := by rw [hL]; exact C.caps hb S.free hjs hws (fun a o h _ => h)
  have hcm : ∀ b, InC L.cl b → InC cm b := fun b ⟨y, e⟩ => ⟨y, by rw [hL] at e; exact clo_sub C hb y b e⟩
  generalize hX : exC cm sc N σ obs H = X1 at caps hq he
  open Classical in
  obtain ⟨cl2, h2⟩ : ∃ cl2 : List (Str × Addr), ∀ b, InC cl2 b ↔ (InC cm b ∧ (∃ v, IsC X1 b v) ∧ ¬ InC L.cl b) := by
    refine ⟨cm.filter fun x => decide (InC cm x.2 ∧ (∃ v, IsC X1 x.2 v) ∧ ¬ InC L.cl x.2), fun b => ⟨fun ⟨y, e⟩ => ?_, fun h => ?_⟩⟩
    · obtain ⟨m1, m2⟩ := List.mem_filter.mp (PySem.mem_of_lookup e)
      exact of_decide_eq_true m2
    · obtain ⟨y, e⟩ := h.1
      exact ⟨y, lookup_filter e (decide_eq_true h)⟩
  have nz2 : ∀ b, InC L.cl b → ¬ InC cl2 b := fun b z y => ((h2 b).mp y).2.2 z
  have nH : ∀ {b o}, H b = some o → ¬ InC cm b := fun {b o} h => C.out h
  have eH : delC L.cl (delC cl2 X1) = H := funext fun b => by
    by_cases z : InC L.cl b
    · rw [delC_in z, C.free b (hcm b z)]
    · rw [delC_out z]
      by_cases z2 : InC cl2 b
      · rw [delC_in z2, C.free b ((h2 b).mp z2).1]
      · rw [delC_out z2, ← hX]
        by_cases z3 : InC cm b
        · cases e : cellV cm sc N σ b with
          | none => rw [exC_none e]
          | some v => exact absurd ((h2 b).mpr ⟨z3, ⟨v, obs b, by rw [← hX, exC_some e]⟩, z⟩) z2
        · rw [exC_out z3]
  have sX : Same H X1 := hX ▸ C.same
  have atX : ∀ {b o}, H b = some o → delC cl2 X1 b = some o := fun {b o} h => by rw [delC_out (fun z => nH h ((h2 b).mp z).1)]; exact sX _ _ h
  refine ⟨cl2, ⟨fun a z => ((h2 a).mp z).2.1⟩, ws, atX hf, atX hc, caps.mono fun b z v ⟨ob, e⟩ => ⟨ob, by rw [delC_out (nz2 b z)]; exact e⟩, ?_, ?_⟩
  · unfold DtOk at hdt ⊢
    cases e : L.dT with
    | none => rw [e] at hdt; exact hdt
    | some T => rw [e] at hdt; exact atX hdt
  · rw [eH]
    have fin : ∀ H', (∀ a, InC L.cl a → H' a = none) → (∀ a, InC cl2 a → putC L.cl (delC cl2 X1) H' a = none) → OutC cm X1 (putC cl2 X1 (putC L.cl (delC cl2 X1) H')) H' := fun H' a1 a2 b o e => by
      have z1 : ¬ InC L.cl b := fun z => by rw [a1 b z] at e; cases e
      have z2 : ¬ InC cl2 b := fun z => by have := a2 b z; rw [putC_out z1, e] at this; cases this
      refine ⟨by rw [putC_out z2, putC_out z1]; exact e, fun z => ?_⟩
      cases q : cellV cm sc N σ b with
      | none => rw [← hX, exC_none q]; exact C.free b z
      | some v => exact absurd ((h2 b).mpr ⟨z, ⟨v, obs b, by rw [← hX, exC_some q]⟩, z1⟩) z2
    exact body _ _ (fun v H' r a1 a2 => hq v _ H' r (fin H' a1 a2)) (fun c d H' r a1 a2 => he c d _ H' r (fin H' a1 a2))
end Hk

set_option Elab.async false
set_option linter.all false
set_option maxRecDepth 100000
set_option maxHeartbeats 4000000
/-! list(zip(xs, ys)) of two lists. -/
namespace PySem.F
theorem zip_no_len : typeLookup (.type "zip") "__len__" = pure none := by rw [typeLookup_type, builtinLookup_eq_fast]; kernel_rfl
theorem zip_no_hint : typeLookup (.type "zip") "__length_hint__" = pure none := by rw [typeLookup_type, builtinLookup_eq_fast]; kernel_rfl
end PySem.F
namespace Hk
open PySem PySem.Spec PyProof.Rows L2 PySem.W PySem.Calls
def pr2 (q : V × V) : List V := [q.1, q.2]
section
variable {X : Cx} {pins : List (Addr × Obj)} {σ : L2.St} {z TI TO i1 i2 a b q : Addr} {xs ys : List V} {H1 : Hp} {A1 : Around}
/-- what is known of the zip, between the draws -/
structure ZS (X : Cx) (pins : List (Addr × Obj)) (H : Hp) (h : Heap) (z TI TO i1 i2 a b : Addr) (i : Nat) : Prop where
  zz : (IsZip h z TI TO .none ∧ ∃ x y, IsPair h TO x y) ∨ ∃ T f u, IsZipHeld h z TI TO T f ∧ H T = some (.tup u)
  ti : IsPair h TI (.ref i1) (.ref i2)
  h1 : h.IsListIter i1 a i
  h2 : h.IsListIter i2 b i
  fp : ∀ c ∈ [z, TI, TO, i1, i2], FpOk X pins H c
  lt : ∀ c ∈ [z, TI, TO, i1, i2], c < h.objs.size
theorem fp_up {H : Hp} {c T : Addr} {o : HO} (f : FpOk X pins H c) (n : c ≠ T) : FpOk X pins (upd H T o) c := ⟨by rw [upd_ne n]; exact f.1, f.2⟩
theorem zl_loop {Rs : Result → Shared → Prop} (D : ZipApart z TI TO i1 i2 a b) (hd : A1.in1.handled = none) (hxs : SqL X.K H1 a xs) (hys : SqL X.K H1 b ys) (hle : (xs.zip ys).length < sizeLine)
    (hdone : ∀ ts H s, Inv X pins σ H s → Same H1 H → H q = some (.lst (ts.map V.ref)) → TupsAt H ts ((xs.zip ys).map pr2) → Rs (.ok (.ret .none)) s) :
    ∀ (m i : Nat) (ts : List Addr) (H : Hp) (s : Shared), i + m = (xs.zip ys).length → Inv X pins σ H s → ZS X pins H s.heap z TI TO i1 i2 a b i → Same H1 H → H1 q = none → H q = some (.lst (ts.map V.ref)) → TupsAt H ts (((xs.zip ys).take i).map pr2) →
      codeAny (model X.prog X.w) A1 (.builtin "list.extend.loop" ⟨[.ref q, .ref z, .none], []⟩) Rs s := by
  intro m
  induction m with
  | zero =>
    intro i ts H s hi I Z sH hq0 hq hts
    refine codeAny_builtin PySem.F.entry_extend_loop ?_
    rw [Around.under_plainId PySem.F.plain_extend_loop _]
    show wpAny _ A1.in1 (pyNext (.ref z) >>= _) _ _ s
    obtain ⟨its, rv, p, _⟩ := I.list (sH.seq hxs)
    obtain ⟨its2, rv2, p2, _⟩ := I.list (sH.seq hys)
    have l1 := rv.length
    have l2 := rv2.length
    have hz : (xs.zip ys).length = min xs.length ys.length := List.length_zip
    have he : its.toArray[i]? = none ∨ its2.toArray[i]? = none := by
      by_cases hc : xs.length ≤ ys.length
      · exact .inl (by simp; omega)
      · exact .inr (by simp; omega)
    have hts' : TupsAt H ts ((xs.zip ys).map pr2) := by
      rw [List.take_of_length_le (by omega)] at hts; exact hts
    refine wpAny_bind ?_
    rcases Z.zz with ⟨hz, x0, y0, hTO⟩ | ⟨T, f, u, hz, hT⟩
    · exact wpAny_pyNext_zip_end hd D hz Z.ti hTO Z.h1 Z.h2 p.isList p2.isList he fun h' hk => wpAny_pure (hdone ts H _ (I.turnedL (t' := s.toks) (ch := [z, TI, TO, i1, i2]) (fun c o hb e =>
        hk c o (fun q' => hb (by simp [q'])) (fun q' => hb (by simp [q'])) (fun q' => hb (by simp [q'])) (fun q' => hb (by simp [q'])) e) Z.fp) sH hq hts')
    · obtain ⟨_, _, _, oT, hoT, _⟩ := I.hok T _ hT
      exact wpAny_pyNext_zip_end_held hd D hz hoT Z.ti Z.h1 Z.h2 p.isList p2.isList he fun h' hk => wpAny_pure (hdone ts H _ (I.turnedL (t' := s.toks) (ch := [z, TI, TO, i1, i2]) (fun c o hb e =>
        hk c o (fun q' => hb (by simp [q'])) (fun q' => hb (by simp [q'])) (fun q' => hb (by simp [q'])) e) Z.fp) sH hq hts')
  | succ m ih =>
    intro i ts H s hi I Z sH hq0 hq hts
    refine codeAny_builtin PySem.F.entry_extend_loop ?_
    rw [Around.under_plainId PySem.F.plain_extend_loop _]
    show wpAny _ A1.in1 (pyNext (.ref z) >>= _) _ _ s
    have hsx := sH.seq hxs
    have hsy := sH.seq hys
    obtain ⟨its, rv, p, _⟩ := I.list hsx
    obtain ⟨its2, rv2, p2, _⟩ := I.list hsy
    have hlt : i < (xs.zip ys).length := by omega
    have hpq : (xs.zip ys)[i]? = some (xs.zip ys)[i] := List.getElem?_eq_getElem hlt
    obtain ⟨hx, hy⟩ := List.getElem?_zip_eq_some.mp hpq
    obtain ⟨u, hu, ru⟩ := rv.get hx
    obtain ⟨u2, hu2, ru2⟩ := rv2.get hy
    have nT : H s.heap.objs.size = none := I.hok.fresh (Nat.le_refl _)
    have nqT : q ≠ s.heap.objs.size := ne_of_none hq nT
    have tl : ts.length = i := by
      have := hts.len
      rw [List.length_map, List.length_take] at this
      omega
    /- behind the draw -/
    have fin : ∀ (h' : Heap), IsPair h' s.heap.objs.size u u2 → (∀ c o, c ∉ [z, TI, TO, i1, i2] → s.heap.get? c = some o → h'.get? c = some o) → (∃ T f w, IsZipHeld h' z TI TO T f ∧ (T = s.heap.objs.size ∨ H T = some (.tup w))) → IsPair h' TI (.ref i1) (.ref i2) → h'.IsListIter i1 a (i + 1) → h'.IsListIter i2 b (i + 1) → h'.objs.size = s.heap.objs.size + 1 →
        wpAny (model X.prog X.w) A1.in1 (updateSeq q (·.push (Value.ref s.heap.objs.size)) >>= fun _ => again (.builtin "list.extend.loop" ⟨[.ref q, .ref z, .none], []⟩))
          (fun fin s' => match fin with | .done f => Rs (.ok f) s' | .again c' => c'.quiet = true ∧ codeAny (model X.prog X.w) A1 c' Rs s') (fun e s' => Rs (.error e) s') { s with heap := h' } := by
      intro h' hp' hk hzz hti hh1 hh2 hsz
      have new : ObjOk X.prog X.w (upd H s.heap.objs.size (.tup (pr2 (xs.zip ys)[i]))) h' s.heap.objs.size (.tup (pr2 (xs.zip ys)[i])) :=
        ⟨by show 2 ≤ sizeLine; decide, [u, u2], .cons ru (.cons ru2 .nil), ⟨_, hp', rfl, _, rfl⟩⟩
      have I1 : Inv X pins σ (upd H s.heap.objs.size (.tup (pr2 (xs.zip ys)[i]))) { s with heap := h' } := I.turnedNew (t' := s.toks) (ch := [z, TI, TO, i1, i2]) hk Z.fp (Nat.le_refl _) new
      have hq1 : upd H s.heap.objs.size (.tup (pr2 (xs.zip ys)[i])) q = some (.lst (ts.map V.ref)) := by rw [upd_ne nqT]; exact hq
      obtain ⟨zz, its3, k3, r3, hl3, e3⟩ := I1.lstM hq1
      have hl4 : its3.length = i := by rw [← hl3, List.length_map, tl]
      refine wpAny_bind (wpAny_updateSeq e3 rfl (wpAny_pure ⟨plainId_quiet PySem.F.plain_extend_loop _, ?_⟩) (by rw [List.size_toArray]; omega) (by show (its3.toArray.push _).size ≤ sizeLine + 1; rw [Array.size_push, List.size_toArray]; omega))
      have I2 := I1.lset (f := (·.push (Value.ref s.heap.objs.size))) (its' := its3 ++ [Value.ref s.heap.objs.size]) (ys := ts.map V.ref ++ [V.ref s.heap.objs.size]) (t' := s.toks) hq1 e3 (by simp) (r3.append (.cons rfl .nil)) (by rw [List.length_append, List.length_map, List.length_singleton]; omega)
      have ztl : ∀ c ∈ [z, TI, TO, i1, i2], c ≠ s.heap.objs.size ∧ c ≠ q := fun c hc => ⟨Nat.ne_of_lt (Z.lt c hc), fun e => by rw [← e, (Z.fp c hc).1] at hq; cases hq⟩
      have kq : ∀ c o, c ≠ q → h'.get? c = some o → (h'.update q (Obj.mapSeq (·.push (Value.ref s.heap.objs.size)))).get? c = some o := fun c o hc e => (Heap.get?_update_other h' _ (Ne.symm hc)).trans e
      have eqT : ts.map V.ref ++ [V.ref s.heap.objs.size] = (ts ++ [s.heap.objs.size]).map V.ref := by rw [List.map_append]; rfl
      rw [eqT] at I2
      have sH2 : Same H1 (upd (upd H s.heap.objs.size (.tup (pr2 (xs.zip ys)[i]))) q (.lst ((ts ++ [s.heap.objs.size]).map V.ref))) := same_put (same_put sH (sH.free nT)) hq0
      refine ih (i + 1) (ts ++ [s.heap.objs.size]) _ _ (by omega) I2 ?_ sH2 hq0 upd_same ?_
      · refine ⟨.inr ?_, ?_, hh1.at fun o e => kq _ o (ztl _ (by simp)).2 e, hh2.at fun o e => kq _ o (ztl _ (by simp)).2 e, fun c hc => fp_up (fp_up (Z.fp c hc) (ztl c hc).1) (ztl c hc).2, fun c hc => ?_⟩
        · obtain ⟨T, f, w, e1, e2⟩ := hzz
          rcases e2 with e2 | e2
          · refine ⟨T, f, pr2 (xs.zip ys)[i], kq _ _ (ztl z (by simp)).2 e1, ?_⟩
            rw [e2, upd_ne nqT.symm]; exact upd_same
          · refine ⟨T, f, w, kq _ _ (ztl z (by simp)).2 e1, ?_⟩
            have n1 : T ≠ s.heap.objs.size := ne_of_none e2 nT
            have n2 : T ≠ q := ne_of e2 hq (fun z => by cases z)
            rw [upd_ne n2, upd_ne n1]; exact e2
        · exact kq _ _ (ztl TI (by simp)).2 hti
        · show c < (h'.update q _).objs.size
          rw [Heap.size_update, hsz]
          exact Nat.lt_succ_of_lt (Z.lt c hc)
      · have et : ((xs.zip ys).take (i + 1)).map pr2 = ((xs.zip ys).take i).map pr2 ++ [pr2 (xs.zip ys)[i]] := by rw [List.take_add_one, hpq, List.map_append]; rfl
        have hn : upd (upd H s.heap.objs.size (.tup (pr2 (xs.zip ys)[i]))) q (.lst ((ts ++ [s.heap.objs.size]).map V.ref)) s.heap.objs.size = some (.tup (pr2 (xs.zip ys)[i])) := by rw [upd_ne nqT.symm]; exact upd_same
        rw [et]
        refine TupsAt.snoc hn (hts.mono fun t x e => ?_)
        have n1 : t ≠ s.heap.objs.size := ne_of_none e nT
        have n2 : t ≠ q := ne_of e hq (fun z => by cases z)
        rw [upd_ne n2, upd_ne n1]; exact e
    refine wpAny_bind ?_
    rcases Z.zz with ⟨hz, x0, y0, hTO⟩ | ⟨T, f, w, hz, hT⟩
    · refine wpAny_pyNext_zip_item D hz Z.ti hTO Z.h1 Z.h2 p.isList p2.isList (x := u) (y := u2) (by simpa using hu) (by simpa using hu2) fun h' z' TO' h1' h2' hT' hsz hk => ?_
      exact fin h' hT' (fun c o hb e => hk c o (fun q' => hb (by simp [q'])) (fun q' => hb (by simp [q'])) (fun q' => hb (by simp [q'])) (fun q' => hb (by simp [q'])) e) ⟨s.heap.objs.size, false, [], z', .inl rfl⟩ (hk _ _ D.TIz D.TITO D.TIi1 D.TIi2 Z.ti) h1' h2' hsz
    · obtain ⟨_, _, _, oT, hoT, _⟩ := I.hok T _ hT
      refine wpAny_pyNext_zip_item_held D hz hoT Z.ti Z.h1 Z.h2 p.isList p2.isList (x := u) (y := u2) (by simpa using hu) (by simpa using hu2) fun h' z' h1' h2' hT' hsz hk => ?_
      exact fin h' hT' (fun c o hb e => hk c o (fun q' => hb (by simp [q'])) (fun q' => hb (by simp [q'])) (fun q' => hb (by simp [q'])) e) ⟨T, true, w, z', .inr hT⟩ (hk _ _ D.TIz D.TIi1 D.TIi2 Z.ti) h1' h2' hsz
/-- list(z), z a zip just made -/
theorem zl_list {Q : VK} {H : Hp} {s : Shared} (hc : X.calm = true) (D : ZipApart z TI TO i1 i2 a b) (I : Inv X pins σ H s) (Z : ZS X pins H s.heap z TI TO i1 i2 a b 0) (hz0 : IsZip s.heap z TI TO .none) (hxs : SqL X.K H a xs) (hys : SqL X.K H b ys) (hle : (xs.zip ys).length < sizeLine)
    (h : ∀ q ts H', H q = none → Same H H' → H' q = some (.lst (ts.map V.ref)) → TupsAt H' ts ((xs.zip ys).map pr2) → Q (.ref q) H') :
    wpAny (model X.prog X.w) X.A (call (.type "list") [.ref z]) (EP X pins σ Q) X.xe s := by
  have hd0 : X.A.handled = none := I.ok.hd hc
  refine callType_codes (Q₁ := fun obj s₁ => obj = .ref s.heap.objs.size ∧ s₁ = { s with heap := s.heap.push { cls := .type "list", data := .seq #[] } }) PySem.F.called_list (PySem.F.typeCall_list_1 _) PySem.F.entry_list_init
    (code_list_new _ ⟨rfl, rfl⟩) fun obj s₁ h₁ => ?_
  obtain ⟨rfl, rfl⟩ := h₁
  have hS : (s.heap.push { cls := .type "list", data := .seq #[] }).get? s.heap.objs.size = some { cls := .type "list", data := .seq #[] } := Heap.get?_push_size _ rfl
  refine ⟨⟨_, hS, rfl⟩, PySem.F.args_list_init_2 _ _, ?_⟩
  have fr : H s.heap.objs.size = none := I.hok.fresh (Nat.le_refl _)
  have I1 : Inv X pins σ (upd H s.heap.objs.size (.lst [])) { s with heap := s.heap.push { cls := .type "list", data := .seq #[] } } := I.lnew (its := []) (t' := s.toks) .nil (Nat.zero_le _)
  show wpAny _ _ (do let old ← Builtin.List.listItems (.ref s.heap.objs.size); Builtin.List.listUpdate (.ref s.heap.objs.size) (fun _ => #[]); letGo old.toList.reverse; Builtin.List.listExtendWith (.ref s.heap.objs.size) (.ref z) .none) _ _ _
  refine wpAny_bind ?_
  unfold Builtin.List.listItems
  refine wpAny_bind (wpAny_seqItems hS rfl (wpAny_pure ?_))
  show wpAny _ _ (updateSeq s.heap.objs.size (fun _ => #[]) >>= fun _ => letGo (#[] : Array Value).toList.reverse >>= fun _ => Builtin.List.listExtendWith (.ref s.heap.objs.size) (.ref z) .none) _ _ _
  refine wpAny_bind (wpAny_updateSeq hS rfl ?_)
  have I2 := I1.lset (f := fun _ => #[]) (its := []) (its' := []) (ys := []) (t' := s.toks) upd_same hS rfl .nil (Nat.zero_le _)
  rw [upd_upd] at I2
  refine wpAny_bind (wpAny_letGo ?_)
  have nzS : s.heap.objs.size ≠ z := Nat.ne_of_gt (Z.lt z (by simp))
  have nS : ∀ c ∈ [z, TI, TO, i1, i2], c ≠ s.heap.objs.size := fun c hc => Nat.ne_of_lt (Z.lt c hc)
  have sH : Same H (upd H s.heap.objs.size (.lst [])) := same_put (Same.refl _) fr
  generalize hs2 : ({ s with heap := (s.heap.push { cls := .type "list", data := .seq #[] }).update s.heap.objs.size (Obj.mapSeq fun _ => (#[] : Array Value)) } : Shared) = s2
  have kz : ∀ c o, c ≠ s.heap.objs.size → s.heap.get? c = some o → s2.heap.get? c = some o := fun c o hc e => by
    rw [← hs2]
    exact (Heap.get?_update_other _ _ (Ne.symm hc)).trans (Heap.get?_push_of_some _ e)
  have I2' : Inv X pins σ (upd H s.heap.objs.size (.lst [])) s2 := by rw [← hs2]; exact I2
  have sz2 : s2.heap.objs.size = s.heap.objs.size + 1 := by rw [← hs2]; show (Heap.update _ _ _).objs.size = _; rw [Heap.size_update, Heap.size_push]
  have hz2 : IsZip s2.heap z TI TO .none := kz _ _ (nS z (by simp)) hz0
  have hTy : s2.TypeIs (.ref z) "zip" := ⟨_, hz2, rfl⟩
  clear hs2 I2 I1
  unfold Builtin.List.listExtendWith
  refine wpAny_bind (wpAny_typeOf hTy ?_)
  have h1 : Builtin.List.listSameRef (.ref s.heap.objs.size) (.ref z) = false := by simp [Builtin.List.listSameRef, nzS]
  have h2 : (Value.type "zip" == Value.type "list") = false := by decide
  have h3 : (Value.type "zip" == Value.type "tuple") = false := by decide
  simp only [h1, h2, h3, Bool.or_false, Bool.false_eq_true, if_false]
  refine wpAny_bind (wpAny_pyIter_zip hz2 ?_)
  refine wpAny_bind (wpAny_holding ?_)
  unfold Builtin.List.listLengthHint
  refine wpAny_bind (wpAny_specialOf hTy PySem.F.zip_no_len ?_)
  show wpAny _ _ (specialOf (Value.ref z) (Str.ofString "__length_hint__") >>= _) _ _ _
  refine wpAny_bind (wpAny_specialOf hTy PySem.F.zip_no_hint ?_)
  refine wpAny_pure ?_
  show wpAny _ _ (rule "list.extend.makes-room" >>= fun _ => Builtin.List.listTouch (.ref s.heap.objs.size) >>= fun _ =>
    again (.builtin "list.extend.loop" ⟨[.ref s.heap.objs.size, .ref z, .none], []⟩)) _ _ _
  refine wpAny_bind (wpAny_rule ?_)
  refine wpAny_bind ?_
  show wpAny _ _ (updateSeq s.heap.objs.size (·.push .none) >>= fun _ => updateSeq s.heap.objs.size (·.pop)) _ _ _
  obtain ⟨z3, its3, k3, r3, hl3, e3⟩ := I2'.lstM upd_same
  cases r3
  refine wpAny_bind (wpAny_updateSeq e3 rfl ?_)
  have I3 := I2'.lset (f := (·.push Value.none)) (its' := [Value.none]) (ys := [.non]) (t' := s2.toks) upd_same e3 (by simp) (.cons rfl .nil) (by rw [List.length_singleton, sizeLine_eq]; decide)
  rw [upd_upd] at I3
  obtain ⟨z4, its4, k4, r4, hl4, e4⟩ := I3.lstM upd_same
  obtain ⟨u4, rfl, ru4⟩ := r4.one
  refine wpAny_updateSeq e4 rfl ?_ (by show 1 ≤ sizeLine; rw [sizeLine_eq]; decide) (by show 0 ≤ sizeLine + 1; exact Nat.zero_le _)
  have I4 := I3.lset (f := (·.pop)) (its := [u4]) (its' := []) (ys := []) (t' := s2.toks) upd_same e4 (by rfl) .nil (Nat.zero_le _)
  rw [upd_upd] at I4
  have kz2 : ∀ c o, c ≠ s.heap.objs.size → s.heap.get? c = some o → ((s2.heap.update s.heap.objs.size (Obj.mapSeq (·.push Value.none))).update s.heap.objs.size (Obj.mapSeq (·.pop))).get? c = some o := fun c o hc e =>
    (Heap.get?_update_other _ _ (Ne.symm hc)).trans ((Heap.get?_update_other _ _ (Ne.symm hc)).trans (kz c o hc e))
  have hTO : ∃ x y, IsPair s.heap TO x y := by
    rcases Z.zz with ⟨_, h⟩ | ⟨T, f, u, h1, _⟩
    · exact h
    · have e := (show s.heap.get? z = _ from hz0).symm.trans (show s.heap.get? z = _ from h1)
      simp [rawInt] at e
  obtain ⟨x0, y0, hTO⟩ := hTO
  refine wpAny_pure ⟨plainId_quiet PySem.F.plain_extend_loop _, ?_⟩
  refine zl_loop (A1 := X.A.in1) (q := s.heap.objs.size) (H1 := H) (xs := xs) (ys := ys) D hd0 hxs hys hle (fun ts H' s' I' sH' hq' ht' => ⟨rfl, .ref s.heap.objs.size, H', I', rfl, h _ ts H' fr sH' hq' ht'⟩) (xs.zip ys).length 0 [] _ _ (Nat.zero_add _) I4 ?_ sH fr upd_same trivial
  refine ⟨.inl ⟨kz2 _ _ (nS z (by simp)) hz0, x0, y0, kz2 _ _ (nS TO (by simp)) hTO⟩, kz2 _ _ (nS TI (by simp)) Z.ti, Z.h1.at fun o e => kz2 _ o (nS i1 (by simp)) e, Z.h2.at fun o e => kz2 _ o (nS i2 (by simp)) e, fun c hc => fp_up (Z.fp c hc) (nS c hc), fun c hc => ?_⟩
  show c < (Heap.update _ _ _).objs.size
  rw [Heap.size_update, Heap.size_update, sz2]
  exact Nat.lt_succ_of_lt (Z.lt c hc)
end
/-- list(zip(e, e2)) -/
def tListZip (K : PySem.W.Frag) (ta : TA) : TE := fun σ H Q => ta σ H fun vs H1 => ∃ a b xs ys, vs = [.ref a, .ref b] ∧ SqL K H1 a xs ∧ SqL K H1 b ys ∧ (xs.zip ys).length < sizeLine ∧
  ∀ q ts H', H1 q = none → Same H1 H' → H' q = some (.lst (ts.map V.ref)) → TupsAt H' ts ((xs.zip ys).map pr2) → Q (.ref q) H'
theorem pe_listZip {X : Cx} {K : PySem.W.Frag} {e e2 : Expr} {ta : TA} {p pos p' pos' : Pos} (hK : X.K = K) (hc : X.calm = true) (hgl : Gl X "list") (hml : X.mg "list" = none) (hg : Gl X "zip") (hm : X.mg "zip" = none) (ha : PA X [e, e2] ta)
    (hs : starEach [e, e2] X.env = (false, eval e X.env) :: starEach [e2] X.env := by rfl) (hpl : (backTo pos (starEach [e2] X.env)).any (·.1) = false := by rfl)
    (hs2 : starEach [.Call (.Name "zip" p) [e, e2] [] pos] X.env = [(false, eval (.Call (.Name "zip" p) [e, e2] [] pos) X.env)] := by rfl) :
    PE X (.Call (.Name "list" p') [.Call (.Name "zip" p) [e, e2] [] pos] [] pos') (tListZip K ta) := by
  subst hK
  refine ⟨fun pins s σ H Q I h => ?_⟩
  have hbl : bootBuiltins (Str.ofString "list") = some (.type "list") := by decide +kernel
  refine wpAny_Call_Name_kw (ld_blt I hgl hml hbl (PyProof.Rows.callWith_type1 (rest := []) ?_ hs2 rfl))
  rw [hs2]
  show wpAny _ _ (spliced [(false, eval (.Call (.Name "zip" p) [e, e2] [] pos) X.env)]) _ _ _
  refine spliced_cons ?_
  refine Call_ (ld_blt I hg hm PyProof.Rows.boot_zip (PyProof.Rows.callWith_type1 (thn (ha.run pos pins s σ H _ I h) fun us s1 ⟨vs, H1, I1, r1, q1⟩ => ?_) hs hpl))
  obtain ⟨a, b, xs, ys, ex, hqx, hqy, hle, q⟩ := q1
  subst ex
  cases r1 with
  | cons r rr =>
    cases rr with
    | cons r' rr =>
      cases rr
      cases r
      cases r'
      obtain ⟨its, rv, p1, _⟩ := I1.list hqx
      obtain ⟨its2, rv2, p2, _⟩ := I1.list hqy
      have la : a < s1.heap.objs.size := p1.lt
      have lb : b < s1.heap.objs.size := p2.lt
      refine call_zip_2 p1.isList p2.isList fun h' hz hTI hTO h1 h2 hsz hk => ?_
      have I2 : Inv X pins σ H1 { s1 with heap := h' } := I1.kept (t' := s1.toks) hk
      refine spliced_nil ?_
      refine zl_list (z := s1.heap.objs.size + 4) (TI := s1.heap.objs.size + 2) (TO := s1.heap.objs.size + 3) (i1 := s1.heap.objs.size) (i2 := s1.heap.objs.size + 1) hc (PySem.W.ktu_apart s1.heap.objs.size a b la lb) I2 ⟨.inl ⟨hz, _, _, hTO⟩, hTI, h1, h2, fun c hcm => ?_, fun c hcm => ?_⟩ hz hqx hqy hle q
      · have e' : c = s1.heap.objs.size + 4 ∨ c = s1.heap.objs.size + 2 ∨ c = s1.heap.objs.size + 3 ∨ c = s1.heap.objs.size ∨ c = s1.heap.objs.size + 1 := by simpa using hcm
        have hle : s1.heap.objs.size ≤ c := by
          rcases e' with z | z | z | z | z <;> rw [z] <;> first | exact Nat.le_add_right _ _ | exact Nat.le_refl _
        exact I1.fpOk hle (I1.hok.fresh hle)
      · have e' : c = s1.heap.objs.size + 4 ∨ c = s1.heap.objs.size + 2 ∨ c = s1.heap.objs.size + 3 ∨ c = s1.heap.objs.size ∨ c = s1.heap.objs.size + 1 := by simpa using hcm
        show c < h'.objs.size
        rw [hsz]
        rcases e' with z | z | z | z | z <;> rw [z] <;> exact Nat.lt_of_lt_of_le (Nat.lt_succ_self _) (by omega)
end Hk

set_option Elab.async false
set_option linter.all false
set_option maxRecDepth 100000
set_option maxHeartbeats 4000000
/-! sorted(xs, key=f), f a function value; its keys ints or pairs of ints.
The proofs of the end are those of KE.SortKeyed, turned from its frame to Inv. -/
namespace Hk
open PySem PySem.Spec PySem.W PyProof.Rows L2
/-- the key y reads as d -/
def KeyV (H : Hp) (y : V) (d : PyData) : Prop := (∃ n, y = .int n ∧ d = .int n) ∨ ∃ t i j, y = .ref t ∧ H t = some (.tup [.int i, .int j]) ∧ d = .tuple [.int i, .int j]
inductive EachV (H : Hp) : List V → List PyData → Prop
  | nil : EachV H [] []
  | cons {y : V} {d : PyData} {ys : List V} {ds : List PyData} : KeyV H y d → EachV H ys ds → EachV H (y :: ys) (d :: ds)
theorem KeyV.mono {H H' : Hp} {y : V} {d : PyData} (h : ∀ t xs, H t = some (.tup xs) → H' t = some (.tup xs)) (k : KeyV H y d) : KeyV H' y d := by
  rcases k with k | ⟨t, i, j, e, ht, ed⟩
  · exact .inl k
  · exact .inr ⟨t, i, j, e, h _ _ ht, ed⟩
theorem EachV.mono {H H' : Hp} (h : ∀ t xs, H t = some (.tup xs) → H' t = some (.tup xs)) : ∀ {ys : List V} {ds : List PyData}, EachV H ys ds → EachV H' ys ds
  | _, _, .nil => .nil
  | _, _, .cons k r => .cons (k.mono h) (r.mono h)
theorem EachV.snoc {H : Hp} {y : V} {d : PyData} (k : KeyV H y d) : ∀ {ys : List V} {ds : List PyData}, EachV H ys ds → EachV H (ys ++ [y]) (ds ++ [d])
  | _, _, .nil => .cons k .nil
  | _, _, .cons k' r => .cons k' (r.snoc k)
theorem EachV.length {H : Hp} : ∀ {ys : List V} {ds : List PyData}, EachV H ys ds → ys.length = ds.length
  | _, _, .nil => rfl
  | _, _, .cons _ r => by rw [List.length_cons, List.length_cons, r.length]
theorem each_vals : ∀ {us : List Value} {xs : List V}, EachIs (fun u x => RelV x u) us xs → Vals xs us
  | _, _, .nil => .nil
  | _, _, .cons r t => .cons r (each_vals t)
theorem vals_each : ∀ {us : List Value} {xs : List V}, Vals xs us → EachIs (fun u x => RelV x u) us xs
  | _, _, .nil => .nil
  | _, _, .cons r t => .cons r (vals_each t)
section
variable {X : Cx} {pins : List (Addr × Obj)} {σ : L2.St} {H : Hp} {s : Shared} {A : Around} {E : Value → Shared → Prop} {a kS : Addr} {b : Bool} {vs : List Value} {e1 : Nat} {P : PySem.Fin → Shared → Prop} {kvs : List V}
theorem keyV_reads (I : Inv X pins σ H s) {y : V} {d : PyData} {u : Value} (k : KeyV H y d) (r : RelV y u) : ∃ as, Reads s.heap u d as := by
  rcases k with ⟨n, rfl, rfl⟩ | ⟨t, i, j, rfl, ht, rfl⟩
  · exact Dp.reads I (.int n) (.int n) u (.int _) r
  · exact Dp.reads I _ _ u (.tup (.of ht) (.cons (.int _) (.cons (.int _) .nil))) r
theorem eachV_reads (I : Inv X pins σ H s) : ∀ {ys : List V} {ds : List PyData} {us : List Value}, EachV H ys ds → Vals ys us → EachIs (fun v d => ∃ as, Reads s.heap v d as) us ds
  | _, _, _, .nil, .nil => .nil
  | _, _, _, .cons k r, .cons q t => .cons (keyV_reads I k q) (eachV_reads I r t)
theorem key_tailI {st : SortSt} {out : List Value} {outV : List V} (I : Inv X pins σ H s) (hk : H kS = some (.lst kvs)) (ha : H a = some (.frz (seqObj "list" #[] e1) (.lst []))) (hn : ∀ o' u', X.H_0 a ≠ some (.frz o' u'))
    (hv : Vals outV out) (hz : out.length ≤ sizeLine) (hfl : failedOf st = none) (ho : (if b = true then ((arrOf st).map (·.2)).reverse else (arrOf st).map (·.2)) = out.toArray)
    (h : ∀ s', Inv X pins σ (upd (upd H kS (.lst [])) a (.lst outV)) s' → P (.done (.ret .none)) s') :
    wpAny (model X.prog X.w) A (ksk_tail a b e1 (.ref kS) st) P E s := by
  have hka : a ≠ kS := fun z => by rw [z, hk] at ha; cases ha
  obtain ⟨zk, kits, nk, rk, lk, ek⟩ := I.lstM hk
  have I1 : Inv X pins σ (upd H kS (.lst [])) { s with heap := s.heap.update kS (Obj.mapSeq fun _ => #[]), toks := s.toks } := I.lset (its' := []) (f := fun _ => #[]) hk ek rfl .nil (Nat.zero_le _)
  have ha1 : upd H kS (.lst []) a = some (.frz (seqObj "list" #[] e1) (.lst [])) := by rw [upd_ne hka]; exact ha
  have ea := (I1.hok a _ ha1).1
  have I2 := I1.unlock ha1 hn
  have I3 := I2.lset (its := []) (its' := out) (f := fun _ => out.toArray) (t' := s.toks) upd_same ea rfl hv (by rw [hv.length]; exact hz)
  rw [upd_upd] at I3
  have hz2 : out.toArray.size ≤ sizeLine + 1 := by
    rw [List.size_toArray]
    exact Nat.le_succ_of_le hz
  unfold ksk_tail
  try dsimp only
  rw [ho]
  refine wpAny_bind (listUpdate_at ek rfl ?_ (by rw [List.size_toArray, ← lk]; exact zk) (Nat.zero_le _))
  refine wpAny_bind (wpAny_letGo ?_)
  refine wpAny_bind (seqEpoch_at ea rfl ?_)
  refine wpAny_bind (listUpdate_at ea rfl ?_ (Nat.zero_le _) hz2)
  rw [hfl]
  simp only [bne_self_eq_false, Bool.false_eq_true, if_false]
  exact wpAny_pure (h _ I3)
theorem key_endI {κ : PyProof.Rows.KeyKind} {keys : Array Value} {outV : List V} (I : Inv X pins σ H s) (hk : H kS = some (.lst kvs)) (ha : H a = some (.frz (seqObj "list" #[] e1) (.lst []))) (hn : ∀ o' u', X.H_0 a ≠ some (.frz o' u'))
    (S : SortsAt X.prog X.w A s κ keys.toList) (hsz : keys.size = vs.length) (hZ : vs.length ≤ sizeLine) (hv : Vals outV (sortVals κ b keys.toList vs))
    (h : ∀ s', Inv X pins σ (upd (upd H kS (.lst [])) a (.lst outV)) s' → P (.done (.ret .none)) s') :
    wpAny (model X.prog X.w) A (ksk_end a b vs.toArray e1 (.ref kS) keys) P E s := by
  obtain ⟨kd, h1, h2⟩ := S.kind
  have hkl : keys.toList.length = vs.length := by
    rw [Array.length_toList]
    exact hsz
  have hK : PyProof.Rows.KeysOf κ (keys.zip vs.toArray) := keysOf_zip S.keys
  have hol : (sortVals κ b keys.toList vs).length = vs.length := sortVals_length b hkl
  have hstart : (if b = true then (keys.zip vs.toArray).reverse else keys.zip vs.toArray).Perm (keys.zip vs.toArray) := by
    cases b with
    | false => exact Array.Perm.refl _
    | true => exact Array.perm_iff_toList_perm.mpr (by rw [if_pos rfl, Array.toList_reverse]; exact List.reverse_perm _)
  have hss : (if b = true then (keys.zip vs.toArray).reverse else keys.zip vs.toArray).size = vs.length := by rw [hstart.size_eq, Array.size_zip, hsz, List.size_toArray, Nat.min_self]
  have fin : ∀ st' : SortSt, (arrOf st').Perm (if b = true then (keys.zip vs.toArray).reverse else keys.zip vs.toArray) → SortedToK κ (arrOf st') (if b = true then (keys.zip vs.toArray).reverse else keys.zip vs.toArray).size →
      Stable κ (arrOf st') (if b = true then (keys.zip vs.toArray).reverse else keys.zip vs.toArray) → (if b = true then ((arrOf st').map (·.2)).reverse else (arrOf st').map (·.2)) = (sortVals κ b keys.toList vs).toArray := by
    intro st' hp hs ht
    have e := sort_out (rev := b) (keys := keys) (items := vs.toArray) (xs := arrOf st') (κ := κ) hK hp hs ht
    have e' := congrArg List.toArray e
    rw [Array.toArray_toList] at e'
    exact e'
  have step : ∀ t : Sem PySem.Fin, wpAny (model X.prog X.w) A t P E s → wpAny (model X.prog X.w) A (if b = true then (do let _ ← rule "list.sort.reverse"; t) else t) P E s := by
    intro t ht
    split
    · exact wpAny_bind (wpAny_rule ht)
    · exact ht
  unfold ksk_end
  try dsimp only
  refine step _ ?_
  by_cases hl2 : vs.toArray.size < 2
  · rw [if_pos hl2, if_pos hl2]
    refine wpAny_bind (wpAny_pure ?_)
    rw [StateT.run_pure]
    refine wpAny_bind (wpAny_pure ?_)
    try dsimp only
    refine key_tailI (st := SortSt.mk' general' (if b = true then (keys.zip vs.toArray).reverse else keys.zip vs.toArray) #[] 7 none) I hk ha hn hv (by rw [hol]; exact hZ) rfl (fin _ (Array.Perm.refl _) ?_ (Stable.refl _)) h
    intro i j hij hj
    rw [hss] at hj
    rw [List.size_toArray] at hl2
    have : i = j := by omega
    subst this
    exact KeyOrd.kle_refl _
  · rw [if_neg hl2, if_neg hl2]
    rw [List.size_toArray] at hl2
    refine wpAny_bind (h2 (by omega) _ ?_)
    refine wpAny_bind (wpAny_mono (PyProof.Rows.H.wpS_sortRunsSt (κ := κ) (kd := kd) (a₀ := if b = true then (keys.zip vs.toArray).reverse else keys.zip vs.toArray)
      (st := SortSt.mk' kd (if b = true then (keys.zip vs.toArray).reverse else keys.zip vs.toArray) #[] 7 none)
      (Q := fun _ st' => failedOf st' = none ∧ (if b = true then ((arrOf st').map (·.2)).reverse else (arrOf st').map (·.2)) = (sortVals κ b keys.toList vs).toArray)
      h1 (hK.perm hstart) ⟨Array.Perm.refl _, rfl, rfl⟩ rfl (Stable.refl _) (by rw [hss]; omega) fun st' a1 a2 a3 a4 => ⟨a2, fin st' a1 a3 a4⟩) ?_ fun _ _ e => e)
    rintro ⟨⟨⟩, st'⟩ s' ⟨rfl, hf, ho⟩
    try dsimp only at ho ⊢
    exact key_tailI I hk ha hn hv (by rw [hol]; exact hZ) hf ho h
theorem key_restI {f : Value} {xs : List V} {key : V → PyData} (I : Inv X pins σ H s) (hk : H kS = some (.lst [])) (ha : H a = some (.frz (seqObj "list" #[] e1) (.lst []))) (hn : ∀ o' u', X.H_0 a ≠ some (.frz o' u'))
    (rv : Vals xs vs) (hZ : vs.length < sizeLine) (hal : AllAlike (xs.map key)) (hsk : Sortable (xs.map key)) (hu : ∀ d, d ∈ xs.map key → A.units + d.depth < cLine)
    (turn : ∀ x ∈ xs, ∀ (v : Value) (H' : Hp) (s' : Shared), RelV x v → Inv X pins σ H' s' → (∀ b o, b ≠ kS → H b = some o → H' b = some o) →
      wpAny (model X.prog X.w) A (call f [v]) (EP X pins σ fun y H'' => (∀ b o, H' b = some o → H'' b = some o) ∧ KeyV H'' y (key x)) (fun _ _ => False) s')
    (h : ∀ s' H', Inv X pins σ H' s' → (∀ c o, c ≠ kS → c ≠ a → H c = some o → H' c = some o) → H' a = some (.lst (xs.mergeSort (dataLe b key))) → P (.done (.ret .none)) s') :
    wpAny (model X.prog X.w) A (ksk_rest a f b vs.toArray e1 (.ref kS)) P E s := by
  have hxl : xs.length = vs.length := rv.length
  have hka : a ≠ kS := fun z => by rw [z, hk] at ha; cases ha
  unfold ksk_rest
  refine wpAny_bind (wpAny_rule ?_)
  first
    | rw [List.forIn_toArray]
    | (rw [← Array.forIn_toList]; simp only [List.toList_toArray])
    | rw [← Array.forIn_toList]
  refine wpAny_bind (ksk_fold (fun i s' => ∃ (H' : Hp) (kvs : List V), Inv X pins σ H' s' ∧ (∀ b o, b ≠ kS → H b = some o → H' b = some o) ∧ H' kS = some (.lst kvs) ∧ EachV H' kvs ((xs.map key).take i)) vs 0 s
    ⟨H, [], I, fun _ _ _ e => e, hk, by rw [List.take_zero]; exact .nil⟩ ?step ?done)
  case step =>
    rintro j v s' hx ⟨H', kvs, I', kp, hk', hE⟩
    simp only [Nat.zero_add] at hE ⊢
    have hj : j < vs.length := (List.getElem?_eq_some_iff.mp hx).1
    obtain ⟨x, hxj⟩ : ∃ x, xs[j]? = some x := ⟨_, List.getElem?_eq_getElem (by omega)⟩
    obtain ⟨v', hv', rx⟩ := rv.get hxj
    rw [hx] at hv'; cases hv'
    have hkl := hE.length
    rw [List.length_take, List.length_map] at hkl
    refine wpAny_bind (wpAny_attempt (wpAny_mono (turn x (List.mem_of_getElem? hxj) v H' s' rx I' kp) (fun u s'' he => ?_) fun _ _ hF => hF.elim))
    obtain ⟨y, H'', I'', ry, kp2, hy⟩ := he
    try dsimp only
    have hk2 := kp2 _ _ hk'
    obtain ⟨zk, kits, nk, rk, lk, ek⟩ := I''.lstM hk2
    have I3 := I''.lset (its' := kits ++ [u]) (f := (·.push u)) (t' := s''.toks) hk2 ek (by simp) (rk.append (.cons ry .nil)) (by rw [List.length_append, List.length_singleton]; omega)
    refine wpAny_bind (listUpdate_at ek rfl ?_ (by rw [List.size_toArray, ← lk]; exact zk) (by rw [Array.size_push, List.size_toArray, ← lk]; omega))
    have ek2 : (xs.map key).take (j + 1) = (xs.map key).take j ++ [key x] := by rw [List.take_add_one, List.getElem?_map, hxj]; rfl
    have tk : ∀ t zs, H'' t = some (.tup zs) → upd H'' kS (.lst (kvs ++ [y])) t = some (.tup zs) := fun t zs e => by
      rw [upd_ne (fun z => by rw [z, hk2] at e; cases e)]; exact e
    refine wpAny_pure ⟨rfl, _, kvs ++ [y], I3, fun b o nb e => by rw [upd_ne nb]; exact kp2 _ _ (kp _ _ nb e), upd_same, ?_⟩
    rw [ek2]
    exact ((hE.mono fun t zs e => kp2 _ _ e).mono tk).snoc (hy.mono tk)
  case done =>
    rintro s' ⟨H', kvs, I', kp, hk', hE⟩
    have e3 : (xs.map key).take (0 + vs.length) = xs.map key := List.take_of_length_le (by rw [List.length_map]; omega)
    rw [e3] at hE
    obtain ⟨zk, kits, nk, rk, lk, ek⟩ := I'.lstM hk'
    have hkl := hE.length
    rw [List.length_map] at hkl
    have hR := eachV_reads I' hE rk
    try dsimp only
    refine wpAny_bind (listItems_at ek rfl ?_)
    have ha' := kp _ _ hka ha
    have hKO : KeyedOut b (xs.map key) vs (sortVals (dataKind s'.heap (xs.map key)) b kits vs) := ⟨s'.heap, kits, hal, rfl, hR⟩
    have hv : Vals (xs.mergeSort (dataLe b key)) (sortVals (dataKind s'.heap (xs.map key)) b kits vs) := each_vals (keyedOut_each key hKO (vals_each rv))
    refine key_endI (κ := dataKind s'.heap (xs.map key)) (keys := kits.toArray) I' hk' ha' hn (SortsAt.data hR hal hsk hu) (by rw [List.size_toArray]; omega) (Nat.le_of_lt hZ) hv fun s2 I2 => h s2 _ I2 (fun c o n1 n2 e => ?_) upd_same
    rw [upd_ne n2, upd_ne n1]
    exact kp _ _ n1 e
theorem key_treeI {f : Value} {xs : List V} {key : V → PyData} {n : Nat} (I : Inv X pins σ H s) (ha : H a = some (.lst xs)) (ho : s.heap.get? a = some (seqObj "list" vs.toArray n))
    (rv : Vals xs vs) (hZ : vs.length < sizeLine) (hal : AllAlike (xs.map key)) (hsk : Sortable (xs.map key)) (hu : ∀ d, d ∈ xs.map key → A.units + d.depth < cLine)
    (turn : ∀ x ∈ xs, ∀ (v : Value) (H' : Hp) (s' : Shared), RelV x v → Inv X pins σ H' s' → (∀ b o, b ≠ a → H b = some o → H' b = some o) →
      wpAny (model X.prog X.w) A (call f [v]) (EP X pins σ fun y H'' => (∀ b o, H' b = some o → H'' b = some o) ∧ KeyV H'' y (key x)) (fun _ _ => False) s')
    (h : ∀ s' H', Inv X pins σ H' s' → (∀ c o, c ≠ a → H c = some o → H' c = some o) → H' a = some (.lst (xs.mergeSort (dataLe b key))) → P (.done (.ret .none)) s') :
    wpAny (model X.prog X.w) A (ksk_tree a f b) P E s := by
  have I1 : Inv X pins σ (upd H a (.lst [])) { s with heap := s.heap.update a (Obj.mapSeq fun _ => #[]), toks := s.toks } := I.lset (its' := []) (f := fun _ => #[]) ha ho rfl .nil (Nat.zero_le _)
  obtain ⟨e1, ho1⟩ : ∃ e1, (s.heap.update a (Obj.mapSeq fun _ => (#[] : Array Value))).get? a = some (seqObj "list" #[] e1) := ⟨_, get?_update_seq ho fun _ => #[]⟩
  unfold ksk_tree
  refine wpAny_bind (listItems_at ho rfl ?_)
  refine wpAny_bind (listUpdate_at ho rfl ?_ (by rw [List.size_toArray]; exact Nat.le_of_lt hZ) (Nat.zero_le _))
  refine wpAny_bind (seqEpoch_at ho1 rfl ?_)
  refine wpAny_bind (wpAny_newTuple ?_ (by show vs.length ≤ _; exact Nat.le_of_lt hZ))
  refine wpAny_bind (wpAny_newList ?_ (Nat.zero_le _))
  refine wpAny_holding ?_
  have hn1 := I1.nofrz (d := a) (u := .lst []) upd_same trivial
  obtain ⟨od, I2⟩ := I1.lock (d := a) (u := .lst []) upd_same trivial
  rw [upd_upd] at I2
  have eod : od = seqObj "list" #[] e1 := by
    have q := (I2.hok a _ upd_same).1
    have q : (s.heap.update a (Obj.mapSeq fun _ => (#[] : Array Value))).get? a = some od := q
    rw [ho1] at q
    exact (Option.some.inj q).symm
  rw [eod] at I2
  have I3 := I2.kept (t' := s.toks) (h' := (s.heap.update a (Obj.mapSeq fun _ => (#[] : Array Value))).push { cls := .type "tuple", data := .seq vs.toArray }) fun b u e => Heap.get?_push_of_some _ e
  have I4 := I3.laid (t' := s.toks) (a := ((s.heap.update a (Obj.mapSeq fun _ => (#[] : Array Value))).push { cls := .type "tuple", data := .seq vs.toArray }).objs.size) (o := .lst []) (h' := ((s.heap.update a (Obj.mapSeq fun _ => (#[] : Array Value))).push { cls := .type "tuple", data := .seq vs.toArray }).push (seqObj "list" #[] 0)) (fun b u e => Heap.get?_push_of_some _ e) (Nat.le_refl _) ⟨Nat.zero_le _, [], 0, .nil, Heap.get?_push_size _ rfl⟩
  have hfr := I3.hok.fresh (a := ((s.heap.update a (Obj.mapSeq fun _ => (#[] : Array Value))).push { cls := .type "tuple", data := .seq vs.toArray }).objs.size) (Nat.le_refl _)
  generalize ((s.heap.update a (Obj.mapSeq fun _ => (#[] : Array Value))).push { cls := .type "tuple", data := .seq vs.toArray }).objs.size = kS at I4 hfr
  have hka : a ≠ kS := fun z => by rw [← z, upd_same] at hfr; cases hfr
  have nH : ∀ b o, b ≠ a → H b = some o → b ≠ kS := fun b o nb e z => by
    rw [← z, upd_ne nb, e] at hfr; cases hfr
  refine key_restI (kS := kS) (key := key) I4 upd_same (by rw [upd_ne hka, upd_same]) hn1 rv hZ hal hsk hu (fun x hx v H' s' rx I' kp => turn x hx v H' s' rx I' fun b o nb e => kp b o (nH b o nb e) (by rw [upd_ne (nH b o nb e), upd_ne nb]; exact e)) fun s' H' I' kp e => h s' H' I' (fun c o nc e' => kp c o (nH c o nc e') nc (by rw [upd_ne (nH c o nc e'), upd_ne nc]; exact e')) e
end
/-- sorted(xs, key=f) -/
def rSortKey (P : Program) (w : World) (K : PySem.W.Frag) (mg : Str → Option Value) (base : Heap) (k : Nat) : List V → List V → Hp → VK → Prop := fun vs zs H Q => ∃ (l f : Addr) (xs : List V) (sp : Sp) (key : V → PyData), vs = [.ref l] ∧ zs = [.ref f] ∧ SqL K H l xs ∧ xs.length ≤ 100000 ∧ Act P w K mg base k f sp ∧
  ((∀ x ∈ xs, ∃ n, key x = .int n) ∨ ∀ x ∈ xs, ∃ i j, key x = .tuple [.int i, .int j]) ∧
  (∀ x ∈ xs, ∀ (H' : Hp) (Q' : VK), Same H H' → (∀ y H'', Same H' H'' → KeyV H'' y (key x) → Q' y H'') → sp [x] H' Q' fun _ _ _ => False) ∧
  ∀ p H', Same H H' → H p = none → H' p = some (.lst (xs.mergeSort (dataLe false key))) → Q (.ref p) H'
theorem cr_sortKey {X : Cx} {P : Program} {w : World} {K : PySem.W.Frag} {mg : Str → Option Value} {base : Heap} {k : Nat} (hP : X.prog = P) (hw : X.w = w) (hK : X.K = K) (hmg : X.mg = mg) (hb : X.base = base) (hr : Room (k + 2) X.A) (hu : X.A.units + 64 < cLine) :
    CallRK X (.builtin "sorted") [Str.ofString "key"] (rSortKey P w K mg base k) := by
  subst hP hw hK hmg hb
  intro pins s σ H vs zs us ws Q I rv rz h
  obtain ⟨l, f, xs, sp, key, rfl, rfl, hs, hz, ac, hkey, hsp, q⟩ := h
  rw [Vals.ref1 rv, Vals.ref1 rz]
  obtain ⟨its, rx, hl, _⟩ := I.list hs
  have hlen := rx.length
  have hZ : its.length < sizeLine := by rw [← hlen]; exact Nat.lt_of_le_of_lt hz (by decide)
  have hal : AllAlike (xs.map key) := by
    intro d hd d' hd'
    obtain ⟨x, hx, rfl⟩ := List.mem_map.mp hd
    obtain ⟨x', hx', rfl⟩ := List.mem_map.mp hd'
    rcases hkey with hkey | hkey
    · obtain ⟨n, e⟩ := hkey x hx
      obtain ⟨n', e'⟩ := hkey x' hx'
      rw [e, e']; rfl
    · obtain ⟨i, j, e⟩ := hkey x hx
      obtain ⟨i', j', e'⟩ := hkey x' hx'
      rw [e, e']; rfl
  have hsk : PySem.W.Sortable (xs.map key) := by
    rcases hkey with hkey | hkey
    · refine .inr fun d hd => ?_
      obtain ⟨x, hx, rfl⟩ := List.mem_map.mp hd
      obtain ⟨n, e⟩ := hkey x hx
      rw [e]
      exact ⟨(fun z => by cases z), fun xs z => by cases z⟩
    · refine .inl fun d hd => ?_
      obtain ⟨x, hx, rfl⟩ := List.mem_map.mp hd
      obtain ⟨i, j, e⟩ := hkey x hx
      exact ⟨_, _, e⟩
  have hdp : ∀ d, d ∈ xs.map key → X.A.in1.in1.units + d.depth < cLine := fun d hd => by
    obtain ⟨x, hx, rfl⟩ := List.mem_map.mp hd
    show X.A.units + 1 + 1 + _ < _
    rcases hkey with hkey | hkey
    · obtain ⟨n, e⟩ := hkey x hx
      rw [e]; simp only [PyData.depth]; omega
    · obtain ⟨i, j, e⟩ := hkey x hx
      rw [e]; simp only [PyData.depth, PyData.depthAll]; omega
  refine sorted_of_sort hl.isList (Nat.le_of_lt hZ) (ksk_s1 _ _) (fun x => ksk_l1 _ _) fun E' => ?_
  show wpAny _ _ (Builtin.«list.sort» ⟨[.ref (s.heap.objs.size + 1)], [(Str.ofString "key", .ref f)]⟩) _ _ _
  rw [ksk_t1]
  have hfr : H (s.heap.objs.size + 1) = none := I.hok.fresh (Nat.le_succ _)
  have I1 : Inv X pins σ (upd H (s.heap.objs.size + 1) (.lst xs)) { s with heap := copyHeap s.heap its, toks := s.toks } := I.laid (fun _ _ => copyHeap_old) (Nat.le_succ _) ⟨by rw [hlen]; exact Nat.le_of_lt hZ, its, 0, rx, copyHeap_at s.heap its⟩
  refine key_treeI (key := key) I1 upd_same (copyHeap_at s.heap its) rx hZ hal hsk hdp (fun x hx v H' s' rxv I' kp => ?_) fun s' H' I' kp e => ⟨rfl, .ref _, H', I', rfl, q _ H' (fun b o e' => kp b o (ne_of_none e' hfr) (by rw [upd_ne (ne_of_none e' hfr)]; exact e')) hfr e⟩
  have sm : Same H H' := fun b o e' => kp b o (ne_of_none e' hfr) (by rw [upd_ne (ne_of_none e' hfr)]; exact e')
  obtain ⟨_, c⟩ := ac X.A.in1.in1 X.stack s' H' [v] [x] (fun y H'' => (∀ b o, H' b = some o → H'' b = some o) ∧ KeyV H'' y (key x)) (fun _ _ _ => False) hr.in1.in1 I'.env0.in1.in1 (.cons rxv .nil) (hsp x hx H' _ sm fun y H'' s'' hy => ⟨s'', hy⟩)
  refine wpAny_call (codeAny_mono c fun r s2 hq => ?_)
  cases r with
  | error e =>
    obtain ⟨_, _, _, _, _, _, _, _, _, _, _, _, hE⟩ := hq
    exact hE.elim
  | ok fl =>
    cases fl with
    | ret u => exact I'.after hq
    | next => exact False.elim hq
    | brk => exact False.elim hq
    | cont => exact False.elim hq
end Hk

set_option Elab.async false
set_option linter.all false
set_option maxRecDepth 100000
/-! sorted(d), sorted(list of texts), dict(pairs), with K told -/
namespace Hk
open PySem PySem.Spec PyProof.Rows L2
def rSortedD : List V → Hp → VK → Prop := fun xs H Q => ∃ (a : Addr) (kvs : List (Key × V)) (ks : List Str), xs = [.ref a] ∧ Rd H a (.dK kvs) ∧ kvs.map (·.1) = ks.map Sum.inr ∧ ks.length < 64 ∧
    ∀ ys p, ys.Perm ks → sortedS ys = true → H p = none → Q (.ref p) (upd H p (.lst (ys.map V.str)))
theorem cr_sortedD {X : Cx} (hc : X.calm = true) : CallR X (.builtin "sorted") rSortedD := call_sortedD hc
theorem cr_sortedSK {X : Cx} {K : PySem.W.Frag} (hK : X.K = K) : CallR X (.builtin "sorted") (rSortedS K) := by
  subst hK
  exact cr_sortedS
theorem cr_dictP {X : Cx} {K : PySem.W.Frag} (hK : X.K = K) (hc : X.calm = true) : CallR X (.type "dict") (fun xs H Q => ∃ (a : Addr) (ps : List Addr) (kvs : List (Key × V)), xs = [.ref a] ∧ SqL K H a (ps.map V.ref) ∧ Paired (fun p kv => SqT K H p [kV kv.1, kv.2]) ps kvs ∧
  ∀ p, H p = none → Q (.ref p) (upd H p (.dK (mergeK [] kvs)))) := by
  subst hK
  exact call_dictP hc
end Hk

set_option Elab.async false
set_option linter.all false
set_option maxRecDepth 100000
set_option maxHeartbeats 4000000
/-! Methods: calls that are told of the live frame's cells; code that is not reached. -/
namespace Hk
open PySem PySem.Spec PyProof.Rows L2
/-- code that is not reached -/
theorem ps_false {X : Cx} {st : Stmt} : PS X st (fun _ _ _ => False) := ⟨fun pins s σ H D I h => h.elim⟩
theorem pe_false {X : Cx} {e : Expr} : PE X e (fun _ _ _ => False) := ⟨fun pins s σ H Q I h => h.elim⟩
/-- o.m(..), told of the live frame's cells -/
def tMethX (C : Addr) (m : Str) (cm : List (Str × Addr)) (sc : Scope) (N : List Str) (sp : Sp) (dvs : List V) (E : XK) (ta : TE) (t : TA) : TE := fun σ H Q => ta σ H fun x H1 => ∃ a dx fs, x = .ref a ∧ H1 a = some (.ins C dx fs) ∧ fs.lookup m = none ∧
  t σ H1 fun vs H2 => CEnv cm sc N H2 → ∀ obs, sp (.ref a :: vs ++ dvs) (exC cm sc N σ obs H2) (fun v H' => Q v (delC cm H')) (fun cls d H' => E cls d (delC cm H'))
section
variable {X : Cx} {k : Nat} {C f : Addr} {m : Str} {fd : FuncData} {ps : List Str} {ds : List Value} {dvs : List V} {sp : Sp} {E : XK} {apos pos : Pos} {o e : Expr} {es : List Expr} {ta : TE} {t : TA}
theorem pe_methX {pl : Sem Bool} (he : PE X o ta) (c : Cls X.K C) (hm : Meth X.K C m f) (F : FnOk X.prog X.w X.K X.mg X.base (L2.CX X.prog X.w) k f fd ps sp) (hr : Room k X.A) (hb : Binds X.K fd ps ds) (hd : Vals dvs ds) (hx : Passes (L2.CX X.prog X.w) X E) (nd : X.N.Nodup) (hfn : ∀ y c, X.env.cells.lookup y = some c → X.fn y = true) (ha : PA X (e :: es) t)
    (hst : starEach (e :: es) X.env = (false, eval e X.env) :: starEach es X.env := by rfl) (hpl : (backTo pos (starEach es X.env)).any (·.1) = false := by rfl)
    (ht : eval (.Call (.Attribute o m apos) (e :: es) [] pos) X.env = (do
      let ov ← eval o X.env
      standAt apos.atName
      let (f, first) ← holding [ov] (getMethod ov m pl)
      callWith pos f first (backTo pos (starEach (e :: es) X.env)) (backToKw pos (keywordEach [] X.env))) := by rfl) :
    PE X (.Call (.Attribute o m apos) (e :: es) [] pos) (tMethX C m X.env.cells X.env.scope X.N sp dvs E ta t) := by
  refine ⟨fun pins s σ H Q I h => ?_⟩
  refine PySem.W.methodCall_KW (pl := pl) (thn (he.run pins s σ H _ I h) fun u s1 ⟨x, H1, I1, rx, a, dx, fs, ex, ea, l, q⟩ => ?_) ht
  subst ex
  obtain rfl : u = Value.ref a := rx
  refine getmeth_ok I1 ea c hm l ?_
  refine PySem.W.callWith_K (first := [.ref a]) (h₀ := X.base) I.ok.mod.kin hm.kp (thn (ha.run pos pins s1 σ H1 _ I1 q) fun us s2 ⟨vs, H2, I2, r, q2⟩ => ⟨I2.kIn, ?_⟩) hst hpl
  refine wpAny_call (codeAny_mono (run_exp (Q := Q) (E := E) I2 nd hfn hx fun obs e0 => ?_) fun r s' hq => ?_)
  · have r2 : Vals (.ref a :: vs ++ dvs) (.ref a :: us ++ ds) := (L2.Vals.append (.cons rfl r) hd)
    have q3 := q2 (cenv_of I2 nd) obs
    have hl : (Value.ref a :: us ++ ds).length = ps.length := by rw [← r2.length]; exact F.len _ _ _ _ q3
    exact F.run X.A X.stack s2 _ ⟨.ref a :: us, []⟩ (.ref a :: us ++ ds) (.ref a :: vs ++ dvs) _ _ hr e0 (hb s2 (.ref a :: us) I2.kIn hl) r2 q3
  · cases r with
    | error e => exact hq
    | ok fl =>
      cases fl with
      | ret u => exact hq
      | next => exact False.elim hq
      | brk => exact False.elim hq
      | cont => exact False.elim hq
end
/-! ### methods and makers by their promises -/
structure MethG (P : Program) (w : World) (K : PySem.W.Frag) (mg : Str → Option Value) (base : Heap) (CX : CXT) (k : Nat) (C : Addr) (m : Str) (ps : List Str) (dvs : List V) (sp : Sp) : Prop where
  ex : ∃ f fd ds, Cls K C ∧ Meth K C m f ∧ FnOk P w K mg base CX k f fd ps sp ∧ Vals dvs ds ∧ Binds K fd ps ds
structure MakeG (P : Program) (w : World) (K : PySem.W.Frag) (mg : Str → Option Value) (base : Heap) (CX : CXT) (k : Nat) (C : Addr) (ps : List Str) (dvs : List V) (sp : Sp) : Prop where
  ex : ∃ f fd ds, Mk K C f ∧ FnOk P w K mg base CX k f fd ps sp ∧ Vals dvs ds ∧ Binds K fd ps ds
section
variable {X : Cx} {CX : CXT} {k : Nat} {C : Addr} {m x : Str} {ps : List Str} {dvs : List V} {sp : Sp} {E : XK} {apos pos p : Pos} {o e : Expr} {es : List Expr} {ta : TE} {t : TA}
theorem pe_methG {pl : Sem Bool} (he : PE X o ta) (G : MethG X.prog X.w X.K X.mg X.base CX k C m ps dvs sp) (hr : Room k X.A) (hx : Passes CX X E) (ha : PA X (e :: es) t)
    (hst : starEach (e :: es) X.env = (false, eval e X.env) :: starEach es X.env := by rfl) (hpl : (backTo pos (starEach es X.env)).any (·.1) = false := by rfl)
    (ht : eval (.Call (.Attribute o m apos) (e :: es) [] pos) X.env = (do
      let ov ← eval o X.env
      standAt apos.atName
      let (f, first) ← holding [ov] (getMethod ov m pl)
      callWith pos f first (backTo pos (starEach (e :: es) X.env)) (backToKw pos (keywordEach [] X.env))) := by rfl) :
    PE X (.Call (.Attribute o m apos) (e :: es) [] pos) (tMeth C m sp dvs E ta t) := by
  refine ⟨fun pins s σ H Q I h => ?_⟩
  obtain ⟨f, fd, ds, c, hm, F, vd, hb⟩ := G.ex
  exact (pe_meth he c hm F hr hb vd hx ha hst hpl ht).run pins s σ H Q I h
theorem pe_methG0 {pl : Sem Bool} (he : PE X o ta) (G : MethG X.prog X.w X.K X.mg X.base CX k C m ps dvs sp) (hr : Room k X.A) (hx : Passes CX X E)
    (ht : eval (.Call (.Attribute o m apos) [] [] pos) X.env = (do
      let ov ← eval o X.env
      standAt apos.atName
      let (f, first) ← holding [ov] (getMethod ov m pl)
      callWith pos f first (backTo pos (starEach [] X.env)) (backToKw pos (keywordEach [] X.env))) := by rfl) :
    PE X (.Call (.Attribute o m apos) [] [] pos) (tMeth C m sp dvs E ta tNil) := by
  refine ⟨fun pins s σ H Q I h => ?_⟩
  obtain ⟨f, fd, ds, c, hm, F, vd, hb⟩ := G.ex
  exact (pe_meth0 he c hm F hr hb vd hx ht).run pins s σ H Q I h
theorem pe_methXG {pl : Sem Bool} (he : PE X o ta) (G : MethG X.prog X.w X.K X.mg X.base (L2.CX X.prog X.w) k C m ps dvs sp) (hr : Room k X.A) (hx : Passes (L2.CX X.prog X.w) X E) (nd : X.N.Nodup) (hfn : ∀ y c, X.env.cells.lookup y = some c → X.fn y = true) (ha : PA X (e :: es) t)
    (hst : starEach (e :: es) X.env = (false, eval e X.env) :: starEach es X.env := by rfl) (hpl : (backTo pos (starEach es X.env)).any (·.1) = false := by rfl)
    (ht : eval (.Call (.Attribute o m apos) (e :: es) [] pos) X.env = (do
      let ov ← eval o X.env
      standAt apos.atName
      let (f, first) ← holding [ov] (getMethod ov m pl)
      callWith pos f first (backTo pos (starEach (e :: es) X.env)) (backToKw pos (keywordEach [] X.env))) := by rfl) :
    PE X (.Call (.Attribute o m apos) (e :: es) [] pos) (tMethX C m X.env.cells X.env.scope X.N sp dvs E ta t) := by
  refine ⟨fun pins s σ H Q I h => ?_⟩
  obtain ⟨f, fd, ds, c, hm, F, vd, hb⟩ := G.ex
  exact (pe_methX he c hm F hr hb vd hx nd hfn ha hst hpl ht).run pins s σ H Q I h
theorem pe_makeG (G : MakeG X.prog X.w X.K X.mg X.base CX k C ps dvs sp) (hr : Room (k + 1) X.A) (hg : Gl X x) (hm : X.mg x = some (.ref C)) (hx : Passes CX X E) (ha : PA X (e :: es) t) (hdb : (x == ("__debug__" : Str)) = false := by decide)
    (he : starEach (e :: es) X.env = (false, eval e X.env) :: starEach es X.env := by rfl) (hpl : (backTo pos (starEach es X.env)).any (·.1) = false := by rfl) : PE X (.Call (.Name x p) (e :: es) [] pos) (tMake C sp dvs E t) := by
  refine ⟨fun pins s σ H Q I h => ?_⟩
  obtain ⟨f, fd, ds, M, F, vd, hb⟩ := G.ex
  exact (pe_make M F hr hg hm hb vd hx ha hdb he hpl).run pins s σ H Q I h
theorem pe_makeG0 (G : MakeG X.prog X.w X.K X.mg X.base CX k C ps dvs sp) (hr : Room (k + 1) X.A) (hg : Gl X x) (hm : X.mg x = some (.ref C)) (hx : Passes CX X E) (hdb : (x == ("__debug__" : Str)) = false := by decide) :
    PE X (.Call (.Name x p) [] [] pos) (tMake C sp dvs E tNil) := by
  refine ⟨fun pins s σ H Q I h => ?_⟩
  obtain ⟨f, fd, ds, M, F, vd, hb⟩ := G.ex
  exact (pe_make0 M F hr hg hm hb vd hx hdb).run pins s σ H Q I h
end
/-! ### fields of an instance of a class that is known -/
def tFldC (C : Addr) (ta : TE) (f : Str) : TE := fun σ H Q => ta σ H fun x H1 => ∃ a dx fs v, x = .ref a ∧ H1 a = some (.ins C dx fs) ∧ fs.lookup f = some v ∧ Q v H1
def sFldC (C : Addr) (ta tv : TE) (f : Str) : TS := fun D σ H => tv σ H fun y H1 => ta σ H1 fun x H2 => ∃ a dx fs, x = .ref a ∧ H2 a = some (.ins C dx fs) ∧ fs.length < 1000 ∧ D.nx σ (upd H2 a (.ins C dx (putF f y fs)))
def sFldAugC (C : Addr) (ta tv : TE) (rd : V → V → Hp → VK → Prop) (f : Str) : TS := fun D σ H => ta σ H fun x H1 => ∃ a dx fs v, x = .ref a ∧ H1 a = some (.ins C dx fs) ∧ fs.lookup f = some v ∧
  tv σ H1 fun y H2 => rd v y H2 fun z H3 => ∃ dx' fs', H3 a = some (.ins C dx' fs') ∧ fs'.length < 1000 ∧ D.nx σ (upd H3 a (.ins C dx' (putF f z fs')))
section
variable {X : Cx} {K : PySem.W.Frag} {C : Addr} {o e value : Expr} {f : Str} {pos pos' tpos : Pos} {ta tv : TE}
theorem pe_fldC (hK : X.K = K) (he : PE X e ta) (c : Cls K C) (n : NoAttr K C f) (hb : attributeBase e f X.env (eval e X.env) = eval e X.env := by rfl) : PE X (.Attribute e f pos) (tFldC C ta f) := by
  subst hK
  refine ⟨fun pins s σ H Q I h => ?_⟩
  refine attr_of hb (thn (he.run pins s σ H _ I h) fun u s1 ⟨x, H1, I1, rx, a, dx, fs, v, ex, ea, l, q⟩ => ?_)
  subst ex
  obtain rfl : u = Value.ref a := rx
  exact getattr_ok I1 ea c n l fun u' s2 I2 ru => ⟨v, H1, I2, ru, q⟩
theorem ps_fldC (hK : X.K = K) (ha : PE X o ta) (hv : PE X value tv) (c : Cls K C) (n : NoAttr K C f) (hs : swapsWith value (some (.Attribute o f pos')) pos.line X.env = pure false := by rfl) : PS X (.Assign [.Attribute o f pos'] value pos) (sFldC C ta tv f) := by
  subst hK
  refine ⟨fun pins s σ H D I h => ?_⟩
  refine plainObj_wpAny_Assign_Attribute (thn (hv.run pins s σ H _ I h) fun u s1 ⟨y, H1, I1, ry, q⟩ => thn (ha.run pins s1 σ H1 _ I1 q) fun ov s2 ⟨x, H2, I2, rx, a, dx, fs, ex, ea, l, q2⟩ => ?_) hs
  subst ex
  obtain rfl : ov = Value.ref a := rx
  exact setattr_ok I2 ea c n l ry fun s3 I3 => ⟨σ, _, I3, q2⟩
theorem ps_fldaugC {op : Operator} {rd : V → V → Hp → VK → Prop} (hK : X.K = K) (ha : PE X o ta) (hv : PE X value tv) (c : Cls K C) (n : NoAttr K C f) (hop : InOp X op rd) : PS X (.AugAssign (.Attribute o f tpos) op value pos) (sFldAugC C ta tv rd f) := by
  subst hK
  refine ⟨fun pins s σ H D I h => ?_⟩
  refine wpAny_AugAssign_AttributeAny (thn (ha.run pins s σ H _ I h) fun ov s1 ⟨x, H1, I1, rx, a, dx, fs, v, ex, ea, l, q⟩ => ?_)
  subst ex
  obtain rfl : ov = Value.ref a := rx
  refine getattr_ok I1 ea c n l fun u s2 I2 ru => thn (hv.run pins s2 σ H1 _ I2 q) fun w3 s3 ⟨y, H2, I3, ry, q3⟩ => thn (hop pins s3 σ H2 v y u w3 _ I3 ru ry q3) fun w4 s4 ⟨z, H3, I4, rz, dx', fs', ea', l', q4⟩ => ?_
  exact setattr_ok I4 ea' c n l' rz fun s5 I5 => ⟨σ, _, I5, q4⟩
end
/-- o.f = .., among the targets of an assignment -/
def gFldC (C : Addr) (ta : TE) (f : Str) : TG := fun v σ H Q => ta σ H fun x H2 => ∃ a dx fs, x = .ref a ∧ H2 a = some (.ins C dx fs) ∧ fs.length < 1000 ∧ Q σ (upd H2 a (.ins C dx (putF f v fs)))
theorem pg_fldC {X : Cx} {K : PySem.W.Frag} {C : Addr} {o : Expr} {f : Str} {pos : Pos} {ta : TE} (hK : X.K = K) (ho : PE X o ta) (c : Cls K C) (n : NoAttr K C f) : PG X (.Attribute o f pos) (gFldC C ta f) := by
  subst hK
  refine ⟨fun pins s σ H v u Q I r h => ?_⟩
  rw [PySem.assign_Attribute]
  refine wpAny_bind (wpAny_holding (thn (ho.run pins s σ H _ I h) fun ov s1 ⟨x, H1, I1, rx, a, dx, fs, ex, ea, l, q⟩ => ?_))
  subst ex
  obtain rfl : ov = Value.ref a := rx
  refine wpAny_bind (wpAny_standAt (wpAny_bind (wpAny_holding (setattr_ok I1 ea c n l r fun s3 I3 => ?_))))
  exact wpAny_release ⟨σ, _, I3, q⟩
/-! ### a tuple of texts among the globals -/
def strsB : List Value → List Str → Bool
  | [], [] => true
  | .str z _ :: r, y :: q => decide (z = y) && strsB r q
  | _, _ => false
def tupB (K : PySem.W.Frag) (x : Str) (zs : List Str) : Bool := match K.lookup (He.ga K x) with
  | some o => decide (o.cls = .type "tuple") && (match o.data with | .seq its n => decide (its.size ≤ 100) && strsB its.toList zs | _ => false)
  | none => false
theorem strsB_ok : ∀ {us : List Value} {zs : List Str}, strsB us zs = true → Vals (zs.map V.str) us
  | [], [], _ => .nil
  | .str z t :: r, y :: q, h => by
    unfold strsB at h
    obtain ⟨h1, h2⟩ := Bool.and_eq_true_iff.mp h
    rw [of_decide_eq_true h1]
    exact .cons ⟨t, rfl⟩ (strsB_ok h2)
theorem tupB_ok {K : PySem.W.Frag} {x : Str} {zs : List Str} (h : tupB K x zs = true) (H : Hp) : SqT K H (He.ga K x) (zs.map V.str) := by
  unfold tupB at h
  cases e : K.lookup (He.ga K x) with
  | none => rw [e] at h; cases h
  | some o =>
    rw [e] at h
    obtain ⟨h1, h2⟩ := Bool.and_eq_true_iff.mp h
    cases e2 : o.data with
    | seq its n =>
      rw [e2] at h2
      obtain ⟨h3, h4⟩ := Bool.and_eq_true_iff.mp h2
      exact .inr ⟨o, its, n, e, of_decide_eq_true h1, e2, small (Nat.le_trans (of_decide_eq_true h3) (by decide)), strsB_ok h4⟩
    | _ => rw [e2] at h2; cases h2
end Hk

set_option Elab.async false
set_option linter.all false
set_option maxRecDepth 100000
set_option maxHeartbeats 4000000
/-! A nested def whose body calls what may call it again: its captured cells are shown to the callee. -/
namespace Hk
open PySem PySem.Spec PySem.Calls PyProof.Rows L2 LamX NdefX
/-- the cells stand outside of the module's heap and of the frames -/
def CellsOut (base : Heap) (outer : List Env) (cl : List (Str × Addr)) : Prop := ∀ a, InC cl a → base.get? a = none ∧ a ∉ frs outer
structure NOkE (P : Program) (w : World) (K : PySem.W.Frag) (mg : Str → Option Value) (base : Heap) (k : Nat) (f : Addr) (F : NF) (ps fr : List Str) (sp : List (Option V) → Sp) : Prop where
  len : ∀ ws vs H Q E, sp ws vs H Q E → vs.length = ps.length
  run : ∀ (A : Around) (outer : List Env) (s : Shared) (H : Hp) (us : List Value) (vs : List V) (ws : List (Option V)) (Q : VK) (E : XK), Room k A → Env0 P w K mg base A outer s H → H f = some (FnO f F) → H F.c = some (CodeO F.c F.qual) → CellsOut base outer F.cl →
    CellsAt F.cl fr ws s.heap H → Vals vs us → sp ws vs H Q E → codeAny (model P w) A (.call (.ref f) ⟨us, []⟩) (CR (L2.CX P w) outer P w H s Q E) s
section
variable {P : Program} {w : World} {K : PySem.W.Frag} {mg : Str → Option Value} {base : Heap} {N ps fr : List Str} {F : NF} {f : Addr} {k j : Nat} {sp : List (Option V) → Sp}
/-- by its body -/
theorem nok_ofE (S : NScope N ps fr F.scope) (hb : ∀ (doc pm ctv : Value) (us : List Value), us.length = ps.length → bindArgs (F.fd doc pm ctv) ⟨us, []⟩ = pure (ps.zip us)) (len : ∀ ws vs H Q E, sp ws vs H Q E → vs.length = ps.length)
    (body : ∀ (A : Around) (outer : List Env) (s : Shared) (H : Hp) (vs : List V) (ws : List (Option V)) (Q : VK) (E : XK), Room k (A.deeper (envF F f s.heap.objs.size)) → H f = some (FnO f F) → H F.c = some (CodeO F.c F.qual) → CellsOut base outer F.cl → (∀ a, InC F.cl a → H a = none) → ws.length = fr.length → sp ws vs H Q E →
      ∃ t, PSs (ncx (L2.CX P w) P w K mg base N F f A outer s H E) F.body t ∧ t { nx := fun _ H2 => Q .non H2, rt := Q } (startF N vs ws) H) :
    NOkE P w K mg base (k + 1) f F ps fr sp := by
  refine ⟨len, fun A outer s H us vs ws Q E hr e0 hf hc ho C rv h => ?_⟩
  have el := len _ _ _ _ _ h
  have nolim : s.heap.NoLimit := e0.mod.nolimit.keeps fun b o z => (e0.bs b o z).1
  obtain ⟨od, sl, doc, pm, ctv, at_⟩ := fnO_at e0.hok hf
  refine codeAny_call_function hr.depth at_ rfl S.co S.gen rfl (codeO_at e0.hok hc) ?_
  rw [hb doc pm ctv us (rv.length ▸ el)]
  refine wpAny_pure (wpAny_newFunctionEnv S.nocell (fun ⟨y, _⟩ hy => S.par y (List.of_mem_zip hy).1) (fun g hns hsb => ⟨nolim.fresh _ hsb, ?_⟩) S.kind)
  show codeAny _ _ (.func F.body (envF F f s.heap.objs.size)) _ _
  have kp : ∀ b o, s.heap.get? b = some o → g.get? b = some o := fun b o z => hsb.extBut b o (Nat.ne_of_lt (Heap.lt_size z)) (Heap.get?_push_of_some _ z)
  obtain ⟨t, ht, hq⟩ := body A outer s H vs ws Q E (hr.deeper _) hf hc ho (fun a ⟨y, z⟩ => (C.all y a z).1) C.len h
  have I : Inv (ncx (L2.CX P w) P w K mg base N F f A outer s H E) [] (startF N vs ws) H { s with heap := g, toks := s.toks + (ps.zip us).length } := inv_startN S hr.hd e0 el rv C hns kp
  refine codeAny_func (wpAny_mono (ht.run [] _ (startF N vs ws) H _ I hq) (fun fl s2 hs => ?_) fun e s2 hs => hs)
  cases fl with
  | ret u =>
    obtain ⟨v, σ2, H2, J, r2, q⟩ := hs
    exact ⟨v, H2, J.os, J.bare, J.base, J.hok, r2, q⟩
  | next =>
    obtain ⟨σ2, H2, J, q⟩ := hs
    exact ⟨V.non, H2, J.os, J.bare, J.base, J.hok, rfl, q⟩
  | brk => exact hs.elim fun _ z => z.elim fun _ y => y.2.elim
  | cont => exact hs.elim fun _ z => z.elim fun _ y => y.2.elim
theorem act_cloE (O : NOkE P w K mg base k f F ps fr sp) : Act P w K mg base k f (spClo f F fr sp) := fun A outer s H us vs Q E hr e0 r h => by
  obtain ⟨ws, hf, hc, C, q⟩ := h
  obtain ⟨od, sl, doc, pm, ctv, ho⟩ := fnO_at e0.hok hf
  have out : CellsOut base outer F.cl := fun a z => by
    obtain ⟨v, ob, e⟩ := C.tr z
    refine ⟨?_, fun hb => by rw [e0.frf a hb] at e; cases e⟩
    cases y : base.get? a with
    | none => rfl
    | some o => rw [(e0.bs a o y).2] at e; cases e
  refine ⟨⟨_, od, _, sl, ho⟩, capsRun C e0 fun e1 C1 => ?_⟩
  exact O.run A outer s (delC F.cl H) us vs (ws.map some) _ _ hr e1 (C.del hf fnO_nf) (C.del hc codeO_nf) out C1 r q
end
section
variable {X : Cx} {k : Nat} {C : Addr} {m : Str} {ps : List Str} {dvs : List V} {sp : Sp} {E : XK} {apos pos : Pos} {o e : Expr} {es : List Expr} {ta : TE} {t : TA}
/-- o.m(..), the callee told of the frame's cells, captured or its own -/
theorem pe_methXO {pl : Sem Bool} (he : PE X o ta) (G : MethG X.prog X.w X.K X.mg X.base (L2.CX X.prog X.w) k C m ps dvs sp) (hr : Room k X.A) (hx : Passes (L2.CX X.prog X.w) X E) (nd : X.N.Nodup) (hout : ∀ a, InC X.env.cells a → X.base.get? a = none ∧ a ∉ X.fs) (ha : PA X (e :: es) t)
    (hst : starEach (e :: es) X.env = (false, eval e X.env) :: starEach es X.env := by rfl) (hpl : (backTo pos (starEach es X.env)).any (·.1) = false := by rfl)
    (ht : eval (.Call (.Attribute o m apos) (e :: es) [] pos) X.env = (do
      let ov ← eval o X.env
      standAt apos.atName
      let (f, first) ← holding [ov] (getMethod ov m pl)
      callWith pos f first (backTo pos (starEach (e :: es) X.env)) (backToKw pos (keywordEach [] X.env))) := by rfl) :
    PE X (.Call (.Attribute o m apos) (e :: es) [] pos) (tMethX C m X.env.cells X.env.scope X.N sp dvs E ta t) := by
  refine ⟨fun pins s σ H Q I h => ?_⟩
  obtain ⟨f, fd, ds, c, hm, F, vd, hb⟩ := G.ex
  refine PySem.W.methodCall_KW (pl := pl) (thn (he.run pins s σ H _ I h) fun u s1 ⟨x, H1, I1, rx, a, dx, fs, ex, ea, l, q⟩ => ?_) ht
  subst ex
  obtain rfl : u = Value.ref a := rx
  refine getmeth_ok I1 ea c hm l ?_
  refine PySem.W.callWith_K (first := [.ref a]) (h₀ := X.base) I.ok.mod.kin hm.kp (thn (ha.run pos pins s1 σ H1 _ I1 q) fun us s2 ⟨vs, H2, I2, r, q2⟩ => ⟨I2.kIn, ?_⟩) hst hpl
  refine wpAny_call (codeAny_mono (run_expO (Q := Q) (E := E) I2 nd hout hx fun obs e0 => ?_) fun r s' hq => ?_)
  · have r2 : Vals (.ref a :: vs ++ dvs) (.ref a :: us ++ ds) := (L2.Vals.append (.cons rfl r) vd)
    have q3 := q2 (cenv_of I2 nd) obs
    have hl : (Value.ref a :: us ++ ds).length = ps.length := by rw [← r2.length]; exact F.len _ _ _ _ q3
    exact F.run X.A X.stack s2 _ ⟨.ref a :: us, []⟩ (.ref a :: us ++ ds) (.ref a :: vs ++ dvs) _ _ hr e0 (hb s2 (.ref a :: us) I2.kIn hl) r2 q3
  · cases r with
    | error e => exact hq
    | ok fl =>
      cases fl with
      | ret u => exact hq
      | next => exact False.elim hq
      | brk => exact False.elim hq
      | cont => exact False.elim hq
end
section
variable {X : Cx} {k : Nat} {x : Str} {ps : List Str} {dvs : List V} {sp : Sp} {E : XK} {p pos : Pos} {e : Expr} {es : List Expr} {t : TA}
/-- f(..) of a def of the top, told of the frame's cells, captured or its own -/
theorem pe_callXO (G : Glob X.prog X.w X.K X.mg X.base (L2.CX X.prog X.w) k x ps dvs sp) (hr : Room k X.A) (hg : Gl X x) (hx : Passes (L2.CX X.prog X.w) X E) (nd : X.N.Nodup) (hout : ∀ a, InC X.env.cells a → X.base.get? a = none ∧ a ∉ X.fs) (ha : PA X (e :: es) t)
    (hdb : (x == ("__debug__" : Str)) = false := by decide) (he : starEach (e :: es) X.env = (false, eval e X.env) :: starEach es X.env := by rfl) (hpl : (backTo pos (starEach es X.env)).any (·.1) = false := by rfl) :
    PE X (.Call (.Name x p) (e :: es) [] pos) (tCallX X.env.cells X.env.scope X.N sp dvs E t) := by
  refine ⟨fun pins s σ H Q I h => ?_⟩
  obtain ⟨f, fd, ds, F, hm, kp, vd, hb⟩ := G.ex
  refine wpAny_Call_Name_kw (ld_glob I hg hm ?_ hdb)
  refine PySem.W.callWith_K (h₀ := X.base) I.ok.mod.kin kp (thn (ha.run pos pins s σ H _ I h) fun us s1 ⟨vs, H1, I1, r, q⟩ => ⟨I1.kIn, ?_⟩) he hpl
  refine wpAny_call (codeAny_mono (run_expO (Q := Q) (E := E) I1 nd hout hx fun obs e0 => ?_) fun r s' hq => ?_)
  · have r2 : Vals (vs ++ dvs) (us ++ ds) := r.append vd
    have q2 := q (cenv_of I1 nd) obs
    have hl : (us ++ ds).length = ps.length := by rw [← r2.length]; exact F.len _ _ _ _ q2
    exact F.run X.A X.stack s1 _ ⟨us, []⟩ (us ++ ds) (vs ++ dvs) _ _ hr e0 (hb s1 us I1.kIn hl) r2 q2
  · cases r with
    | error e => exact hq
    | ok fl =>
      cases fl with
      | ret u => exact hq
      | next => exact False.elim hq
      | brk => exact False.elim hq
      | cont => exact False.elim hq
end
/-! ### the captured cells, shown again -/
section
variable {cl : List (Str × Addr)} {sc : Scope} {N ps fr : List Str} {σ : L2.St} {obs : Addr → Obj} {H H' : Hp} {ws : List V}
/-- where the frame's names hold the captured things, the cells shown hold them, too -/
theorem caps_ex (S : NScope N ps fr sc) (hlen : ws.length = fr.length) (inj : ∀ x y c, cl.lookup x = some c → cl.lookup y = some c → x = y) (only : ∀ y c, cl.lookup y = some c → y ∈ fr) (has : ∀ y ∈ fr, ∃ c, cl.lookup y = some c)
    (hσ : ∀ (i : Nat) v, ws[i]? = some v → σ[ps.length + i]? = some (some v)) : CapsAt cl fr ws (exC cl sc N σ obs H) := by
  refine ⟨hlen, inj, only, fun i y hi => ?_⟩
  obtain ⟨c, hc⟩ := has y (List.mem_of_getElem? hi)
  have hil : i < fr.length := (List.getElem?_eq_some_iff.mp hi).1
  obtain ⟨v, hv⟩ : ∃ v, ws[i]? = some v := ⟨_, List.getElem?_eq_getElem (by omega)⟩
  refine ⟨c, v, hc, hv, obs c, exC_some (cellV_at S.nd inj ⟨ps.length + i, y, ?_, hc, hσ i v hv, .inr (S.frk y (List.mem_of_getElem? hi))⟩)⟩
  have e : (N.take (ps.length + fr.length))[ps.length + i]? = (ps ++ fr)[ps.length + i]? := congrArg (fun l => l[ps.length + i]?) S.pre
  rw [List.getElem?_append_right (by omega), Nat.add_sub_cancel_left, hi, List.getElem?_take_of_lt (by omega)] at e
  exact e
end
end Hk

set_option Elab.async false
set_option linter.all false
set_option maxRecDepth 100000
set_option maxHeartbeats 4000000
/-! try: .. except x: a suite that may raise again what it handles; else. -/
namespace Hk
open PySem PySem.Spec PyProof.Rows L2 L2H
section
variable {X : Cx} {x : Str} {c : Value} {body suite orelse : List Stmt} {b₀ : Stmt} {np pos pos' : Pos} {tb : WX → TS} {ts : Addr → Value → Option Addr → TS} {u : TS} {Wout : WX}
/-- the bare raise in the suite: what is handled flies on -/
theorem bare_raise {a T : Addr} {oe oT : Obj} {vs tv : Array Value} {cls : Value} {d : Option Addr} {pins : List (Addr × Obj)} {rp : Pos} (hs : X.stack = X.env :: X.outer) (hf : X.env.frame = some X.env.locals) (ok : X.Ok) (tk : Takes X Wout)
    (hz : Zc cls d oe) (hd : oe.data = .fields vs) (hv1 : vs[1]? = some (.ref T)) (hTe : T ≠ a) (hdT : oT.data = .fields tv) (ht3 : tv[3]? = some .none) (far0 : ∀ b o, X.s_0.heap.get? b = some o → b ≠ a ∧ b ≠ T) (farP : ∀ p ∈ X.pn ++ pins, p.1 ≠ a ∧ p.1 ≠ T) :
    PS (suiteX X a ((a, oe) :: (T, oT) :: (X.pn ++ pins))) (.Raise none none rp) (fun _ σ H => Wout cls d σ H) := by
  refine ⟨fun pn2 s6 σ6 H6 D S6 q6 => ?_⟩
  have J6 : Inv X pins σ6 H6 s6 := ⟨ok, S6.os, S6.bare, S6.base, S6.loc, S6.cell, S6.free, S6.freeC, fun p hp => S6.pin p (List.mem_append_left _ (List.mem_cons_of_mem _ (List.mem_cons_of_mem _ hp))), S6.hok, S6.len⟩
  have pa := S6.pin (a, oe) (List.mem_append_left _ List.mem_cons_self)
  have pT := S6.pin (T, oT) (List.mem_append_left _ (List.mem_cons_of_mem _ List.mem_cons_self))
  have ga : s6.heap.get? a = some oe := pa.1
  have gT : s6.heap.get? T = some oT := pT.1
  have na6 : H6 a = none := pa.2.1
  have nT6 : H6 T = none := pT.2.1
  obtain ⟨G, g1, g2⟩ := restrict s6.heap fun b => !(decide (b = a) || decide (b = T))
  have gIn : ∀ b o, G.get? b = some o → s6.heap.get? b = some o ∧ b ≠ a ∧ b ≠ T := fun b o e => by
    cases q : (!(decide (b = a) || decide (b = T))) with
    | false =>
      rw [g2 b q] at e
      cases e
    | true =>
      rw [g1 b q] at e
      simp only [Bool.not_eq_true', Bool.or_eq_false_iff, decide_eq_false_iff_not] at q
      exact ⟨e, q.1, q.2⟩
  have gOf : ∀ b o, b ≠ a → b ≠ T → s6.heap.get? b = some o → G.get? b = some o := fun b o h1 h2 e => by
    rw [g1 b (by simp [h1, h2])]
    exact e
  have I6 : Inv X pins σ6 H6 { s6 with heap := G } := J6.less (fun b o e => (gIn b o e).1) gOf ⟨oe, vs, ga, hd⟩ ⟨oT, tv, gT, hdT⟩ na6 nT6 far0 farP
  have B6in : ∀ b o, (PySem.W.hideAll G (frs X.stack)).get? b = some o → s6.heap.get? b = some o := fun b o e => (gIn b o (PySem.W.of_hideAll _ e)).1
  have Bno : ∀ b, (b = a ∨ b = T) → (PySem.W.hideAll G (frs X.stack)).get? b = none := fun b hb => by
    cases q : (PySem.W.hideAll G (frs X.stack)).get? b with
    | none => rfl
    | some o =>
      obtain ⟨_, n1, n2⟩ := gIn b o (PySem.W.of_hideAll _ q)
      rcases hb with z | z
      · exact absurd z n1
      · exact absurd z n2
  have fl6 : HandSPX.FlyingZ (PySem.W.hideAll G (frs X.stack)) (X.env :: X.outer) a (Zc cls d) s6.heap := by
    refine ⟨B6in, Bno a (.inl rfl), ?_, oe, vs, T, oT, tv, ga, hz, hd, hv1, Bno T (.inr rfl), hTe, gT, hdT, ht3⟩
    have ff := funFrames_none (B := PySem.W.hideAll G (frs X.stack)) J6.stack fun b hb => PySem.W.hideAll_none _ hb
    rw [← hs]
    exact ff
  refine wpAny_Raise_bare ?_
  unfold raiseBare raiseStmt
  dsimp only
  refine wpAny_bind (wpAny_handled ?_)
  have hh : (X.A.mark (some (Value.ref a))).handled = some (Value.ref a) := rfl
  rw [hh]
  dsimp only
  refine wpAny_bind (wpAny_rule ?_)
  refine wpAny_bind (wpAny_field ga hd hv1 ?_)
  rw [if_neg (show ¬ ((Value.ref T == Value.none) = true) from by simp)]
  have goOn : wpAny (model X.prog X.w) (X.A.mark (some (.ref a))) (setFlight (.ref a) X.env.frame) (fun _ s7 => wpAny (model X.prog X.w) (X.A.mark (some (.ref a))) (throw (.ref a) : Sem Flow) (SP (suiteX X a ((a, oe) :: (T, oT) :: (X.pn ++ pins))) pn2 D) X.xe s7) X.xe s6 := by
    rw [hf]
    refine HandSPX.setFlight_upZ fl6 fun h7 hh7 up7 => wpAny_throw (tk _ _ ?_)
    refine ⟨a, PySem.W.hideAll G (frs X.stack), { s6 with heap := G }, pins, σ6, H6, cls, d, rfl, I6, fun b o e hb => PySem.W.hideAll_get _ e hb, ?_, .inr (.inr (by rw [← hs] at hh7; exact hh7)), na6, rfl, J6.bare, q6⟩
    exact Heap.UpToSlots.trans (Heap.UpToSlots.of_keeps fun b o e => (gIn b o e).1) up7
  first
    | exact wpAny_bind goOn
    | exact wpAny_bind (wpAny_pure (wpAny_bind goOn))
theorem ps_try_bare (ho : PSs X orelse u) (hs : X.stack = X.env :: X.outer) (hf : X.env.frame = some X.env.locals) (hex : X.ex = []) (hc : Names X x c) (hpa : ∀ hd : Option Value, PassesOwnAt (model X.prog X.w) (X.A.mark hd) X.A X.env X.xe) (tk : L2.Takes X Wout)
    (hb : ∀ (W : WX) (pn : List (Addr × Obj)) (xe : Value → Shared → Prop), L2.Takes (X.tr pn xe) W → PassesOwn (model X.prog X.w) X.A X.env xe → PSs (X.tr pn xe) body (tb W))
    (hsu : ∀ (a : Addr) (cls : Value) (d : Option Addr) (pn : List (Addr × Obj)), (∀ rp, PS (suiteX X a pn) (.Raise none none rp) (fun _ σ H => Wout cls d σ H)) → PSs (suiteX X a pn) (b₀ :: suite) (ts a cls d)) :
    PS X (.Try body [.ExceptHandler (some (.Name x np)) none (b₀ :: suite) pos'] orelse [] pos) (fun D σ H => tb (wOnly X.K c ts Wout D) { D with nx := u D } σ H) := by
  refine ⟨fun pins s σ H D I h => ?_⟩
  have ok := I.ok
  have hfr : X.A.frames = some (X.env :: X.outer) := by rw [ok.frames, hs]
  refine wpAny_Try_except ?_
  refine wpAny_mono ((hb (wOnly X.K c ts Wout D) (X.pn ++ pins) (fun e s₁ => wpAny (model X.prog X.w) X.A (noteFrame e X.env) (fun _ s₂ => wpAny (model X.prog X.w) X.A (setFlight e none) (fun _ s₃ =>
    wpAny (model X.prog X.w) X.A (handleBy e X.env [.ExceptHandler (some (.Name x np)) none (b₀ :: suite) pos']) (SP X pins D) X.xe s₃) X.xe s₂) X.xe s₁) (fun u s' xx => ?_) PassesOwn.looking).run [] s σ H { D with nx := u D } (I.toTry _) h) (fun f s1 hsp => ?_) (fun e s1 he => he)
  · obtain ⟨a, B, sI, pins', σ', H', cls, d, rfl, J', nb, up, sky, na, os, ag, b, hb1, hyes, hno⟩ := xx
    have J : Inv X pins σ' H' sI := J'.ofTry ok
    have sky' : Sky B (X.env :: X.outer) a (Zc cls d) X.env.locals s'.heap := by rw [← hs]; exact sky
    show wpAny (model X.prog X.w) X.A (noteFrame (.ref a) X.env) _ _ _
    refine L2.Sky.land Zc.steady hfr hf sky' fun h3 fl3 up3 => ?_
    have J3 : Inv X pins σ' H' { s' with heap := h3 } := J.landed nb fl3.1 (up.trans up3) os ag
    obtain ⟨oe3, vs3, he3, hz3, hd3⟩ := fl3.there
    have notFr : ∀ {h : Heap} {b : Addr} {o : Obj} {vs : Array Value}, h.FunFrames B (X.env :: X.outer) → h.get? b = some o → o.data = .fields vs → b ∉ frs (X.env :: X.outer) := fun {h b o vs} ff e dd hm => by
      obtain ⟨_, o', e', hnf⟩ := ff.mem hm
      rw [e] at e'; cases e'
      exact hnf _ dd
    have locF : X.env.locals ∈ frs (X.env :: X.outer) := List.mem_filterMap.mpr ⟨X.env, List.mem_cons_self, hf⟩
    have fsF : ∀ b, b ∈ X.fs → b ∈ frs (X.env :: X.outer) := fun b hm => by
      obtain ⟨e, he, q⟩ := List.mem_filterMap.mp hm
      exact List.mem_filterMap.mpr ⟨e, List.mem_cons_of_mem _ he, q⟩
    have nfr := notFr fl3.2.2.1 he3 hd3
    have nL : a ≠ X.env.locals := fun z => nfr (by rw [z]; exact locF)
    have nF : a ∉ X.fs := fun hm => nfr (fsF _ hm)
    have S3 := J3.suite he3 hd3 na nL nF
    refine wpAny_handleBy_cons (codeAny_handlers_test ?_) (by intro q; cases q)
    have LT : PySem.W.Looks (model X.prog X.w) h3 (typeOf (.ref a)) cls := fun A Q E s k q => wpAny_typeOf_ref (k _ _ he3) (by rw [hz3.1]; exact q)
    have LM := PySem.W.exm_one (M := model X.prog X.w) (J3.kIn) LT hb1
    have test : ∀ {Q : Value → Shared → Prop} {E : Value → Shared → Prop}, Q c { s' with heap := h3 } → wpAny (model X.prog X.w) (X.A.mark (some (.ref a))) (eval (.Name x np) X.env) Q E { s' with heap := h3 } := fun {Q E} q => by
      obtain ⟨hg, hdbg, hm | ⟨hm, hv, hnn⟩⟩ := hc
      · exact ld_glob (X := X.suite a ((a, oe3) :: (X.pn ++ pins))) S3 hg hm q hdbg
      · exact ld_blt (X := X.suite a ((a, oe3) :: (X.pn ++ pins))) S3 hg hm hv q hnn hdbg
    refine test (LM.here ?_)
    cases b with
    | true =>
      refine codeAny_handlers_suite ?_
      refine HandSPX.lands_againZ fl3 fun h4 fl4 up4 => ?_
      have J4 : Inv X pins σ' H' { s' with heap := h4 } := J.landed nb fl4.1 ((up.trans up3).trans up4) os ag
      obtain ⟨k1, k2, k3, oe, vs, T, oT, tv, he4, hz, hd, hv1, hnT, hTe, hT, hdT, ht3⟩ := id fl4
      have nT : H' T = none := (J.inGround nb).gone hnT
      have fa := notFr k3 he4 hd
      have fT := notFr k3 hT hdT
      have S4 : Inv (suiteX X a ((a, oe) :: (T, oT) :: (X.pn ++ pins))) [] σ' H' { s' with heap := h4 } :=
        suiteX_of ⟨J4.ok.suite _ _, J4.os, J4.bare, J4.base, J4.loc, J4.cell, J4.free, J4.freeC, fun p hp => by
          rw [List.append_nil] at hp
          rcases List.mem_cons.mp hp with z | hp
          · rw [z]
            exact ⟨he4, na, fun z2 => fa (by rw [show a = X.env.locals from z2]; exact locF), fun z2 => fa (fsF _ z2), fun v z2 => by
              have z3 : oe.data = .cell v := z2
              rw [hd] at z3
              cases z3⟩
          · rcases List.mem_cons.mp hp with z | hp
            · rw [z]
              exact ⟨hT, nT, fun z2 => fT (by rw [show T = X.env.locals from z2]; exact locF), fun z2 => fT (fsF _ z2), fun v z2 => by
                have z3 : oT.data = .cell v := z2
                rw [hdT] at z3
                cases z3⟩
            · exact J4.pin p hp, J4.hok, J4.len⟩
      have far : ∀ b o, sI.heap.get? b = some o → b ≠ a ∧ b ≠ T := fun b o e => by
        by_cases hb : b ∈ frs X.stack
        · rw [hs] at hb
          exact ⟨fun z => fa (by rw [← z]; exact hb), fun z => fT (by rw [← z]; exact hb)⟩
        · have q := nb b o e hb
          exact ⟨fun z => by
            rw [z, k2] at q
            exact (nomatch q), fun z => by
            rw [z, hnT] at q
            cases q⟩
      have far0 : ∀ b o, X.s_0.heap.get? b = some o → b ≠ a ∧ b ≠ T := fun b o e => by
        obtain ⟨o', q⟩ := J.base.there b o e (by rw [hex]; simp)
        exact far b o' q
      have farP : ∀ p ∈ X.pn ++ pins, p.1 ≠ a ∧ p.1 ≠ T := fun p hp => far p.1 p.2 (J.pin p hp).1
      have un : ∀ {σ6 : L2.St} {H6 : Hp} {s6 : Shared}, Inv (suiteX X a ((a, oe) :: (T, oT) :: (X.pn ++ pins))) [] σ6 H6 s6 → Inv X pins σ6 H6 s6 := fun {σ6 H6 s6} S6 =>
        ⟨ok, S6.os, S6.bare, S6.base, S6.loc, S6.cell, S6.free, S6.freeC, fun p hp => S6.pin p (List.mem_append_left _ (List.mem_cons_of_mem _ (List.mem_cons_of_mem _ hp))), S6.hok, S6.len⟩
      refine wpAny_mono ((hsu a cls d ((a, oe) :: (T, oT) :: (X.pn ++ pins)) (fun rp => bare_raise hs hf ok tk hz hd hv1 hTe hdT ht3 far0 farP)).run [] _ _ H' _ S4 (hyes rfl a na)) (fun f s6 hsp => ?_) (fun e6 s6 z => hpa (some (.ref a)) e6 s6 z)
      cases f with
      | next =>
        obtain ⟨σ6, H6, S6, q6⟩ := hsp
        exact ⟨_, _, un S6, q6⟩
      | brk =>
        obtain ⟨σ6, H6, S6, q6⟩ := hsp
        exact ⟨_, _, un S6, q6⟩
      | cont =>
        obtain ⟨σ6, H6, S6, q6⟩ := hsp
        exact ⟨_, _, un S6, q6⟩
      | ret u =>
        obtain ⟨v6, σ6, H6, S6, r6, q6⟩ := hsp
        exact ⟨_, _, _, un S6, r6, q6⟩
    | false =>
      show wpAny _ X.A (handleBy (.ref a) X.env []) _ _ _
      refine wpAny_handleBy_nil ?_
      obtain ⟨k1, k2, k3, oe, vs, T, oT, ts', he, hz, hd, h1, hr⟩ := id fl3
      unfold PySem.passOn
      refine wpAny_bind (wpAny_field he hd h1 ?_)
      rw [if_neg (show ¬ ((Value.ref T == Value.none) = true) from by simp)]
      have fin : wpAny (model X.prog X.w) X.A (setFlight (.ref a) X.env.frame) (fun _ s4 => wpAny (model X.prog X.w) X.A (throw (.ref a) : Sem Flow) (SP X pins D) X.xe s4) X.xe { s' with heap := h3 } := by
        rw [hf]
        refine HandSPX.setFlight_upZ fl3 fun h4 hh4 up4 => wpAny_throw (tk _ _ ?_)
        exact ⟨a, B, sI, pins, σ', H', cls, d, rfl, J, nb, (up.trans up3).trans up4, .inr (.inr (by rw [hs]; exact hh4)), na, os, ag, hno rfl⟩
      first
        | exact wpAny_bind (wpAny_pure (wpAny_bind fin))
        | exact wpAny_bind fin
  · cases f with
    | next =>
      obtain ⟨σ', H', J', q⟩ := hsp
      exact ho.run pins s1 σ' H' D (J'.ofTry ok) q
    | brk =>
      obtain ⟨σ', H', J', q⟩ := hsp
      exact ⟨σ', H', J'.ofTry ok, q⟩
    | cont =>
      obtain ⟨σ', H', J', q⟩ := hsp
      exact ⟨σ', H', J'.ofTry ok, q⟩
    | ret u =>
      obtain ⟨v, σ', H', J', r, q⟩ := hsp
      exact ⟨v, σ', H', J'.ofTry ok, r, q⟩
end
theorem MethG.framed {P : Program} {w : World} {K : PySem.W.Frag} {mg : Str → Option Value} {base : Heap} {k : Nat} {C : Addr} {m : Str} {ps : List Str} {dvs : List V} {sp : Sp} (G : MethG P w K mg base (L2.CX P w) k C m ps dvs sp) : MethG P w K mg base (L2.CX P w) k C m ps dvs (spF sp) := by
  obtain ⟨f, fd, ds, c, hm, F, r⟩ := G.ex
  exact ⟨f, fd, ds, c, hm, FnOk.framed F, r⟩
/-! ### methods and function values in a try's body -/
def tMethS (C : Addr) (m : Str) (sp : Sp) (dvs : List V) (E : L2.St → XK) (ta : TE) (t : TA) : TE := fun σ H Q => ta σ H fun x H1 => ∃ a dx fs, x = .ref a ∧ H1 a = some (.ins C dx fs) ∧ fs.lookup m = none ∧
  t σ H1 fun vs H2 => sp (.ref a :: vs ++ dvs) H2 Q (E σ)
section
variable {X : Cx} {CX : CXT} {k i : Nat} {C f : Addr} {m x : Str} {fd : FuncData} {ps : List Str} {ds : List Value} {dvs : List V} {sp : Sp} {E : L2.St → XK} {apos pos p : Pos} {o e : Expr} {es : List Expr} {ta : TE} {t : TA}
theorem pe_methGS {pl : Sem Bool} (he : PE X o ta) (G : MethG X.prog X.w X.K X.mg X.base CX k C m ps dvs sp) (hr : Room k X.A) (hx : ∀ σ, PassesAt CX X σ (E σ)) (ha : PA X (e :: es) t)
    (hst : starEach (e :: es) X.env = (false, eval e X.env) :: starEach es X.env := by rfl) (hpl : (backTo pos (starEach es X.env)).any (·.1) = false := by rfl)
    (ht : eval (.Call (.Attribute o m apos) (e :: es) [] pos) X.env = (do
      let ov ← eval o X.env
      standAt apos.atName
      let (f, first) ← holding [ov] (getMethod ov m pl)
      callWith pos f first (backTo pos (starEach (e :: es) X.env)) (backToKw pos (keywordEach [] X.env))) := by rfl) :
    PE X (.Call (.Attribute o m apos) (e :: es) [] pos) (tMethS C m sp dvs E ta t) := by
  refine ⟨fun pins s σ H Q I h => ?_⟩
  obtain ⟨f, fd, ds, c, hm, F, vd, hb⟩ := G.ex
  refine PySem.W.methodCall_KW (pl := pl) (thn (he.run pins s σ H _ I h) fun u s1 ⟨x, H1, I1, rx, a, dx, fs, ex, ea, l, q⟩ => ?_) ht
  subst ex
  obtain rfl : u = Value.ref a := rx
  refine getmeth_ok I1 ea c hm l ?_
  refine PySem.W.callWith_K (first := [.ref a]) (h₀ := X.base) I.ok.mod.kin hm.kp (thn (ha.run pos pins s1 σ H1 _ I1 q) fun us s2 ⟨vs, H2, I2, r, q2⟩ => ⟨I2.kIn, ?_⟩) hst hpl
  have r2 : Vals (.ref a :: vs ++ dvs) (.ref a :: us ++ ds) := (L2.Vals.append (.cons rfl r) vd)
  have hl : (Value.ref a :: us ++ ds).length = ps.length := by rw [← r2.length]; exact F.len _ _ _ _ q2
  refine wpAny_call (codeAny_mono (F.run X.A X.stack s2 H2 ⟨.ref a :: us, []⟩ (.ref a :: us ++ ds) (.ref a :: vs ++ dvs) Q (E σ) hr I2.env0 (hb s2 (.ref a :: us) I2.kIn hl) r2 q2) fun r s' hq => ?_)
  cases r with
  | error e => exact hx σ pins H2 s2 e s' I2 hq
  | ok fl =>
    cases fl with
    | ret u => exact I2.after hq
    | next => exact False.elim hq
    | brk => exact False.elim hq
    | cont => exact False.elim hq
theorem pe_callVS {P : Program} {w : World} {K : PySem.W.Frag} {mg : Str → Option Value} {base : Heap} (e1 : X.prog = P) (e2 : X.w = w) (e3 : X.K = K) (e4 : X.mg = mg) (e5 : X.base = base) (hr : Room k X.A) (hx : ∀ σ, PassesAt (L2.CX X.prog X.w) X σ (E σ)) (hN : X.N[i]? = some x) (hv : Vis X.env.scope x) (ha : PA X (e :: es) t)
    (hd : (x == ("__debug__" : Str)) = false := by decide) (hcd : (x == ("__classdict__" : Str)) = false := by decide)
    (he : starEach (e :: es) X.env = (false, eval e X.env) :: starEach es X.env := by rfl) (hpl : (backTo pos (starEach es X.env)).any (·.1) = false := by rfl) :
    PE X (.Call (.Name x p) (e :: es) [] pos) (tCallVS P w K mg base k i E t) := by
  subst e1 e2 e3 e4 e5
  refine ⟨fun pins s σ H Q I h => ?_⟩
  obtain ⟨f, sp, hs, ac, ht⟩ := h
  refine wpAny_Call_Name_kw (thn ((pe_var (pos := p) hN hv hd hcd).run pins s σ H (fun v H1 => v = .ref f ∧ H1 = H) I ⟨.ref f, hs, rfl, rfl⟩) fun u s1 ⟨v, H1, I1, r1, q1⟩ => ?_)
  obtain ⟨ev, eH⟩ := q1
  subst ev
  rw [eH] at I1
  obtain rfl : u = Value.ref f := r1
  have h := thn (ha.run pos pins s1 σ H _ I1 ht) fun us s2 ⟨vs, H2, I2, r, q⟩ => run_actS ac hr (hx σ) I2 r q
  show wpAny _ _ (callWith pos (.ref f) [] (backTo pos (starEach (e :: es) X.env)) []) _ _ _
  rw [he] at h ⊢
  exact PySem.W.callWith_of (by show ((false || (backTo pos (starEach es X.env)).any (·.1)) || false) = false; rw [hpl]; rfl) PySem.W.keeps_F (PySem.Calls.evalArgs_plain h)
end
end Hk

set_option Elab.async false
set_option linter.all false
set_option maxRecDepth 100000
set_option maxHeartbeats 4000000
/-! Exceptions whose own __init__ calls that of an own class above. -/
namespace Hk
open PySem PySem.Spec PyProof.Rows L2
/-- D.__init__(self, ..), D an own class that inherits it of ValueError -/
structure Inh (K : PySem.W.Frag) (D : Addr) : Prop where
  ga : PySem.W.specialIn K (.ref D) "__getattribute__" = some (some (.builtin "type.__getattribute__"))
  rd : PySem.W.readsIn K D (.type "type") = true
  fc : PySem.W.findCls K (.ref D) (.type "type") "__init__" = some (.val (.builtin "ValueError.__init__"))
def inhB (K : PySem.W.Frag) (x : Str) : Bool := He.eqO (PySem.W.specialIn K (.ref (He.ga K x)) "__getattribute__") (some (some (.builtin "type.__getattribute__"))) && (PySem.W.readsIn K (He.ga K x) (.type "type") && (match PySem.W.findCls K (.ref (He.ga K x)) (.type "type") "__init__" with
  | some (.val (.builtin n)) => n == "ValueError.__init__"
  | _ => false))
theorem inhB_ok {K : PySem.W.Frag} {x : Str} (h : inhB K x = true) : Inh K (He.ga K x) := by
  obtain ⟨h1, h⟩ := He.ba h
  obtain ⟨h2, h3⟩ := He.ba h
  refine ⟨He.eqO_ok h1, h2, ?_⟩
  split at h3
  · rename_i n e
    rw [e, beq_iff_eq.mp h3]
  · cases h3
section
variable {X : Cx} {K : PySem.W.Frag} {o e : Expr} {es : List Expr} {to te : TE} {ta : TA} {f x : Str} {D : Addr} {p p' p1 p2 pos : Pos}
theorem pe_heinit {pl : Sem Bool} (hK : X.K = K) (hg : Gl X x) (hm : X.mg x = some (.ref D)) (I0 : Inh K D) (ha : PA X (e :: es) ta) (hdb : (x == ("__debug__" : Str)) = false := by decide)
    (hc : eval (.Call (.Attribute (.Name x p1) "__init__" p2) (e :: es) [] pos) X.env = (do
      let ov ← eval (.Name x p1) X.env
      standAt p2.atName
      let (f, first) ← holding [ov] (getMethod ov "__init__" pl)
      callWith pos f first (backTo pos (starEach (e :: es) X.env)) (backToKw pos (keywordEach [] X.env))) := by rfl)
    (he : starEach (e :: es) X.env = (false, eval e X.env) :: starEach es X.env := by rfl) (hpl : (backTo pos (starEach es X.env)).any (·.1) = false := by rfl) :
    PE X (.Call (.Attribute (.Name x p1) "__init__" p2) (e :: es) [] pos) (tVeI K ta) := by
  subst hK
  refine ⟨fun pins s σ H Q I h => ?_⟩
  refine PySem.W.methodCall_KW (ld_glob I hg hm ?_ hdb) hc
  refine PySem.W.method_cls I.kIn I0.ga (PySem.W.cls_value I.kIn I0.rd I0.fc (by decide +kernel) ?_)
  show wpAny _ _ (callWith pos (Value.builtin "ValueError.__init__") [] (backTo pos (starEach (e :: es) X.env)) []) _ _ _
  refine PyProof.Rows.callWith_method1 (thn (ha.run pos pins _ σ H _ (I.tok _) h) fun us s1 ⟨vs, H1, I1, r1, a, C, ws, ev, hl, T, ea, q⟩ => ?_) he hpl
  subst ev
  cases r1 with
  | @cons _ u0 _ ur ra rw' =>
    obtain rfl : u0 = Value.ref a := ra
    have hlen : ur.length ≤ sizeLine := by
      rw [← Paired.length rw', sizeLine_eq]
      omega
    exact oinit_ok T I1 ea hlen fun s' J => ⟨.non, H1, J, rfl, q⟩
theorem ps_ostK (hK : X.K = K) (ho : PE X o to) (he : PE X e te) (hs : swapsWith e (some (.Attribute o f p')) pos.line X.env = pure false := by rfl) : PS X (.Assign [.Attribute o f p'] e pos) (tOst K f to te) := by
  subst hK; exact ps_ost ho he hs
end
/-! ### the class's facts by one Bool -/
def oexB (K : PySem.W.Frag) (x : Str) (f : Str) : Bool :=
  (match K.lookup (He.ga K x) with
  | some ⟨.type "type", _, .cls cd, sl⟩ => (match cd.mro, sl.toList with
    | .ref C' :: bm, [_, _, _, _, some (.builtin n), _] => C' == He.ga K x && n == "ValueError.__new__" && !cd.hasDel && PySem.HandSPX.refsVE bm && cd.hasDict
    | _, _ => false)
  | _ => false) && (He.eqO (PySem.W.findIn K (.ref (He.ga K x)) "__setattr__") (some (some (.builtin "object.__setattr__"))) && (decide (PySem.W.subIn K (.ref (He.ga K x)) (.type "BaseException") = some true) && (decide (PySem.W.typeIn K (.ref (He.ga K x)) = some (.type "type")) && (PySem.W.keepIn K (.ref (He.ga K x)) &&
  (He.eqO (PySem.W.findIn K (.ref (He.ga K x)) f) (some none) && (He.eqO (PySem.W.findIn K (.ref (He.ga K x)) "__init__") (some (some (.ref (He.fAd K (x, some "__init__"))))) && (decide (PySem.W.typeIn K (.ref (He.fAd K (x, some "__init__"))) = some (.type "function")) && xfB K (He.ga K x))))))))
structure OwnX (K : PySem.W.Frag) (x f : Str) : Prop where
  oex : OexC K (He.ga K x)
  no : PySem.W.findIn K (.ref (He.ga K x)) f = some none
  iC : PySem.W.findIn K (.ref (He.ga K x)) "__init__" = some (some (.ref (He.fAd K (x, some "__init__"))))
  tI : PySem.W.typeIn K (.ref (He.fAd K (x, some "__init__"))) = some (.type "function")
  xf : XfC K (He.ga K x)
theorem oexB_ok {K : PySem.W.Frag} {x f : Str} (h : oexB K x f = true) : OwnX K x f := by
  obtain ⟨h0, h⟩ := He.ba h
  obtain ⟨h1, h⟩ := He.ba h
  obtain ⟨h2, h⟩ := He.ba h
  obtain ⟨h3, h⟩ := He.ba h
  obtain ⟨h4, h⟩ := He.ba h
  obtain ⟨h5, h⟩ := He.ba h
  obtain ⟨h6, h⟩ := He.ba h
  obtain ⟨h7, h8⟩ := He.ba h
  refine ⟨⟨?_, He.eqO_ok h1, of_decide_eq_true h2, of_decide_eq_true h3, h4⟩, He.eqO_ok h5, He.eqO_ok h6, of_decide_eq_true h7, xfB_ok h8⟩
  split at h0
  · rename_i dd cd sl ho
    split at h0
    · rename_i C' bm k0 k1 k2 k3 n k5 hm hs
      simp only [Bool.and_eq_true, beq_iff_eq, Bool.not_eq_true'] at h0
      obtain ⟨⟨⟨⟨rfl, rfl⟩, hdel⟩, ht⟩, hdc⟩ := h0
      obtain ⟨nm, bs, mro, ns, qn, hd, sn, sub, ab, col, del⟩ := cd
      dsimp only at hm hdel hdc
      subst hm hdel hdc
      have hsl : sl = #[k0, k1, k2, k3, some (.builtin "ValueError.__new__"), k5] := by
        obtain ⟨l⟩ := sl
        simp only at hs
        rw [hs]
      subst hsl
      exact ⟨nm, qn, ns, bs, bm, sn, sub, ab, col, dd, k0, k1, k2, k3, k5, ho, ht⟩
    · cases h0
  · cases h0
/-! ### what __init__ promises; C(e) -/
def sp_oinit (K : PySem.W.Frag) (x f : Str) : Sp := fun vs H Q _ => ∃ (a : Addr) (v : V), vs = [.ref a, v] ∧ H a = some (exo a (He.ga K x) none) ∧ ∀ dx, H dx = none → dx ≠ a → Q .non (upd (upd H dx (exd dx [(f, v)])) a (exo a (He.ga K x) (some dx)))
/-- the promise of x's __init__ -/
structure InitG (P : Program) (w : World) (K : PySem.W.Frag) (mg : Str → Option Value) (base : Heap) (x f : Str) (ps : List Str) : Prop where
  own : OwnX K x f
  ex : ∃ fd, FnOk P w K mg base CX0 1 (He.fAd K (x, some "__init__")) fd ps (sp_oinit K x f) ∧ Binds K fd ps []
def tWhy (C : Addr) (f : Str) (ta : TA) : L2.St → Hp → XK → Prop := fun σ H Q => ta σ H fun vs H1 => ∃ v, vs = [v] ∧ ∀ d, H1 d = none → Q (.ref C) (some d) (upd H1 d (.xd [(f, v)]))
def taM (ta : TA) : TA := fun σ H Q => ∃ K1 : List V → Hp → Prop, ta σ H K1 ∧ ∀ vs H1, K1 vs H1 → Q vs H1
theorem pa_M {X : Cx} {es : List Expr} {ta : TA} (ha : PA X es ta) : PA X es (taM ta) := ⟨fun pos pins s σ H Q I ⟨K1, h, m⟩ => wpAny_mono (ha.run pos pins s σ H K1 I h) (fun us s' ⟨vs, H', I', r, q⟩ => ⟨vs, H', I', r, m _ _ q⟩) fun _ _ z => z⟩
theorem pmk_why {X : Cx} {x f : Str} {ps : List Str} {e : Expr} {ta : TA} {p pos : Pos} (G : InitG X.prog X.w X.K X.mg X.base x f ps) (hr : Room 2 X.A) (hg : Gl X x) (hm : X.mg x = some (.ref (He.ga X.K x))) (ha : PA X [e] ta)
    (hdb : (x == ("__debug__" : Str)) = false := by decide) (he : starEach [e] X.env = (false, eval e X.env) :: starEach [] X.env := by rfl) (hpl : (backTo pos (starEach [] X.env)).any (·.1) = false := by rfl) :
    PMk X (.Call (.Name x p) [e] [] pos) (tWhy (He.ga X.K x) f ta) := by
  intro pins s σ H Q I h
  obtain ⟨fd, F, hb⟩ := G.ex
  refine pmk_oex (CX := CX0) (dvs := []) (ds := []) G.own.oex G.own.iC G.own.tI F hr hb .nil pass0 hg hm (pa_M ha) hdb he hpl pins s σ H Q I ⟨_, h, fun vs H1 ⟨v, ev, q⟩ => ?_⟩
  subst ev
  refine ⟨by simp, fun a na => ⟨a, v, rfl, upd_same, fun dx nd ne => ⟨rfl, dx, [(f, v)], upd_same, ?_, ?_, ?_⟩⟩⟩
  · rw [upd_ne ne, upd_same]
  · rw [upd_ne ne] at nd; exact nd
  · rw [upd_ne ne] at nd
    have e : upd (del (upd (upd (upd H1 a (exo a (He.ga X.K x) none)) dx (exd dx [(f, v)])) a (exo a (He.ga X.K x) (some dx))) a) dx (.xd [(f, v)]) = upd H1 dx (.xd [(f, v)]) := funext fun b => by
      by_cases z : b = dx
      · rw [z, upd_same, upd_same]
      · rw [upd_ne z, upd_ne z]
        by_cases y : b = a
        · rw [y, del_same, na]
        · rw [del_ne y, upd_ne y, upd_ne z, upd_ne y]
    rw [e]
    exact q dx nd
theorem pmk_whyK {P : Program} {w : World} {K : PySem.W.Frag} {mg : Str → Option Value} {base : Heap} {X : Cx} {x f : Str} {ps : List Str} {e : Expr} {ta : TA} {p pos : Pos} (e1 : X.prog = P) (e2 : X.w = w) (e3 : X.K = K) (e4 : X.mg = mg) (e5 : X.base = base) (G : InitG P w K mg base x f ps) (hr : Room 2 X.A) (hg : Gl X x) (hm : mg x = some (.ref (He.ga K x))) (ha : PA X [e] ta)
    (hdb : (x == ("__debug__" : Str)) = false := by decide) (he : starEach [e] X.env = (false, eval e X.env) :: starEach [] X.env := by rfl) (hpl : (backTo pos (starEach [] X.env)).any (·.1) = false := by rfl) :
    PMk X (.Call (.Name x p) [e] [] pos) (tWhy (He.ga K x) f ta) := by
  subst e1 e2 e3 e4 e5
  exact pmk_why G hr hg hm ha hdb he hpl
theorem pe_xfK {X : Cx} {K : PySem.W.Frag} {a C : Addr} {oe : Obj} {cls : Value} {d : Option Addr} {pn : List (Addr × Obj)} {e : Expr} {te : TE} {pos : Pos} {n : Str} (hK : X.K = K) (T : XfC K C) (hno : PySem.W.findIn K (.ref C) n = some none)
    (hz : Zc cls d oe) (hf : ∃ vs, oe.data = .fields vs) (he : PE (X.suite a ((a, oe) :: pn)) e te) (hb : attributeBase e n X.env (eval e X.env) = eval e X.env := by rfl) :
    PE (X.suite a ((a, oe) :: pn)) (.Attribute e n pos) (tXf a cls d C n te) := by
  subst hK; exact pe_xf T hno hz hf he hb
end Hk

set_option Elab.async false
set_option linter.all false
set_option maxRecDepth 100000
set_option maxHeartbeats 4000000
/-! isinstance of a caught exception, with a dict of its own or none. -/
namespace Hk
open PySem PySem.Spec PyProof.Rows L2
def XdAt (H : Hp) (d : Option Addr) : Prop := ∀ dd, d = some dd → ∃ fs, H dd = some (.xd fs)
theorem XdAt.none {H : Hp} : XdAt H none := fun _ z => by cases z
theorem XdAt.same {H H' : Hp} {d : Option Addr} (h : XdAt H d) (s : Same H H') : XdAt H' d := fun dd e => (h dd e).elim fun fs q => ⟨fs, s _ _ q⟩
def rIsED (K : PySem.W.Frag) (D a : Addr) (d : Option Addr) : List V → Hp → VK → Prop := fun xs H Q => ∃ (c : V) (cv : Value) (b : Bool), xs = [.ref a, c] ∧ (∀ u, RelV c u → u = cv) ∧ PySem.W.kitOne K (.ref D) cv = some b ∧ XdAt H d ∧ Q (.bl b) H
theorem call_isED {X : Cx} {K : PySem.W.Frag} {a D : Addr} {oe : Obj} {pn : List (Addr × Obj)} {cls : Value} {d : Option Addr} (hK : X.K = K) (C : ExcC K D) (e1 : cls = .ref D) (hz : Zc cls d oe) (hf : ∃ vs, oe.data = .fields vs) : CallR (X.suite a ((a, oe) :: pn)) (.builtin "isinstance") (rIsED K D a d) := by
  subst hK; subst e1
  intro pins s σ H xs us Q I r h
  obtain ⟨c, cv, b, rfl, hcv, e, hd, q⟩ := h
  cases r with
  | cons rx rr =>
    cases rr with
    | cons rt rr =>
      cases rr
      cases rx
      have ec := hcv _ rt
      subst ec
      obtain ⟨hget, _⟩ := I.pin (a, oe) (List.mem_append.mpr (.inl List.mem_cons_self))
      obtain ⟨vs, hv⟩ := hf
      have hn : PySem.W.notCls oe = true := by unfold PySem.W.notCls; rw [hv] <;> rfl
      have J : ∃ od, PySem.W.InstAt s.heap a oe D od := by
        cases d with
        | none => exact ⟨none, hget, hz.1, hn, by rw [hz.2]; trivial⟩
        | some dd =>
          obtain ⟨fs, ea⟩ := hd dd rfl
          have hx : ObjOk X.prog X.w H s.heap dd (.xd fs) := I.hok dd _ ea
          obtain ⟨mA, hns, hr⟩ := hx
          obtain ⟨od, ho, hl⟩ := lookIn_ns hns
          exact ⟨some od, hget, hz.1, hn, by rw [hz.2]; exact ho⟩
      obtain ⟨od, J⟩ := J
      have hcl : (PySem.W.clsIn X.K D).isSome = true := by
        obtain ⟨cd, hc, _⟩ := PySem.W.any_some C.hd
        rw [hc]; rfl
      exact PySem.W.kia_one (PySem.W.kitx_exc hcl C.hg C.hk C.hs C.ha C.hn C.ht C.hm) I.kIn J e (fun z => nomatch z) fun tk => ⟨.bl b, H, I.kept (t' := tk) fun _ _ z => z, rfl, q⟩
def tClsD (K : PySem.W.Frag) (cls : Value) (t : Addr → TS) : TS := fun Dn σ H => ∃ D, cls = .ref D ∧ ExcC K D ∧ t D Dn σ H
theorem pss_clsD {X : Cx} {cls : Value} {ss : List Stmt} {t : Addr → TS} {K : PySem.W.Frag} (h : ∀ D, cls = .ref D → ExcC K D → PSs X ss (t D)) : PSs X ss (tClsD K cls t) :=
  ⟨fun pins s σ H Dn I ⟨D, e1, C, q⟩ => (h D e1 C).run pins s σ H Dn I q⟩
theorem rIsED_ref {K : PySem.W.Frag} {D a C : Addr} {d : Option Addr} {b : Bool} {H : Hp} {Q : VK} (h : PySem.W.kitOne K (.ref D) (.ref C) = some b) (hx : XdAt H d) (q : Q (.bl b) H) : rIsED K D a d [.ref a, .ref C] H Q := ⟨_, _, b, rfl, fun u hu => hu, h, hx, q⟩
theorem rIsED_ty {K : PySem.W.Frag} {D a : Addr} {n : String} {d : Option Addr} {b : Bool} {H : Hp} {Q : VK} (h : PySem.W.kitOne K (.ref D) (.type n) = some b) (hx : XdAt H d) (q : Q (.bl b) H) : rIsED K D a d [.ref a, .ty n] H Q := ⟨_, _, b, rfl, fun u hu => hu, h, hx, q⟩
end Hk

set_option Elab.async false
set_option linter.all false
set_option maxRecDepth 100000
set_option maxHeartbeats 4000000
/-! try .. except x as n: .., other clauses behind it, where the first one takes all that is raised. -/
namespace Hk
open PySem PySem.Spec PyProof.Rows L2
def wAs1 (K : PySem.W.Frag) (c : Value) (i : Nat) (ts : Addr → Value → Option Addr → TS) (D : Ends) : WX := fun cls d σ H =>
  PySem.W.exmOne K cls c = some true ∧ ∀ a, H a = none → ts a cls d ⟨fun σ2 H2 => D.nx (σ2.set i none) H2, D.rt, fun σ2 H2 => D.bk (σ2.set i none) H2, fun σ2 H2 => D.ct (σ2.set i none) H2⟩ (σ.set i (some (.ref a))) H
section
variable {X : Cx} {x n : Str} {c : Value} {i : Nat} {body suite : List Stmt} {b0 : Stmt} {np pos pos2 : Pos} {tb : WX → TS} {ts : Addr → Value → Option Addr → TS} {hds : List ExceptHandler}
theorem ps_try_as1 (h1 : X.stack = X.env :: X.outer) (h2 : X.env.frame = some X.env.locals) (hN : X.N.Nodup) (hi : X.N[i]? = some n) (hl : X.env.kindOf n = some .local) (hc : Names X x c)
    (hb : ∀ (W : WX) (pn : List (Addr × Obj)) (xe : Value → Shared → Prop), Takes (X.tr pn xe) W → PassesOwn (model X.prog X.w) X.A X.env xe → PSs (X.tr pn xe) body (tb W))
    (hsu : ∀ (a : Addr) (oe : Obj) (cls : Value) (d : Option Addr) (pn : List (Addr × Obj)), Zc cls d oe → (∃ vs, oe.data = .fields vs) → PSs (X.suite a ((a, oe) :: pn)) (b0 :: suite) (ts a cls d)) :
    PS X (.Try body (.ExceptHandler (some (.Name x np)) (some n) (b0 :: suite) pos2 :: hds) [] [] pos) (fun D σ H => tb (wAs1 X.K c i ts D) D σ H) := by
  refine ⟨fun pins s σ H D I h => ?_⟩
  have ok := I.ok
  have hfr : X.A.frames = some (X.env :: X.outer) := by rw [ok.frames, h1]
  refine wpAny_Try_except ?_
  refine wpAny_mono ((hb (wAs1 X.K c i ts D) (X.pn ++ pins) (fun e sa => wpAny (model X.prog X.w) X.A (noteFrame e X.env) (fun _ sb => wpAny (model X.prog X.w) X.A (setFlight e none) (fun _ sc =>
    wpAny (model X.prog X.w) X.A (handleBy e X.env (.ExceptHandler (some (.Name x np)) (some n) (b0 :: suite) pos2 :: hds)) (SP X pins D) X.xe sc) X.xe sb) X.xe sa) (fun u s1 xx => ?_) PassesOwn.looking).run [] s σ H D (I.toTry _) h) (fun f s1 r => ?_) (fun e s1 he => he)
  · obtain ⟨a, B, sI, pinz, σ1, H1, cls, d, rfl, J0, nb, up, sky, na, os, ag, hm1, hyes⟩ := xx
    have J : Inv X pins σ1 H1 sI := J0.ofTry ok
    have sky2 : Sky B (X.env :: X.outer) a (Zc cls d) X.env.locals s1.heap := by rw [← h1]; exact sky
    show wpAny (model X.prog X.w) X.A (noteFrame (.ref a) X.env) _ _ _
    refine Sky.land Zc.steady hfr h2 sky2 fun g3 fl3 up3 => ?_
    have J3 : Inv X pins σ1 H1 { s1 with heap := g3 } := J.landed nb fl3.1 (up.trans up3) os ag
    obtain ⟨o3, vs3, at3, hz3, hd3⟩ := fl3.there
    have nfr : a ∉ frs (X.env :: X.outer) := fun hm => by
      obtain ⟨_, o', e', hnf⟩ := fl3.2.2.1.mem hm
      rw [at3] at e'; cases e'
      exact hnf _ hd3
    have nL : a ≠ X.env.locals := fun z => nfr (List.mem_filterMap.mpr ⟨X.env, List.mem_cons_self, by rw [h2, z]⟩)
    have nF : a ∉ X.fs := fun hm => by
      obtain ⟨e, he, q⟩ := List.mem_filterMap.mp hm
      exact nfr (List.mem_filterMap.mpr ⟨e, List.mem_cons_of_mem _ he, q⟩)
    have S3 := J3.suite at3 hd3 na nL nF
    refine wpAny_handleBy_cons (codeAny_handlers_test ?_) (by intro q; cases q)
    have LT : PySem.W.Looks (model X.prog X.w) g3 (typeOf (.ref a)) cls := fun A Q E s k q => wpAny_typeOf_ref (k _ _ at3) (by rw [hz3.1]; exact q)
    have LM := PySem.W.exm_one (M := model X.prog X.w) (J3.kIn) LT hm1
    have look : ∀ {Q : Value → Shared → Prop} {E : Value → Shared → Prop}, Q c { s1 with heap := g3 } → wpAny (model X.prog X.w) (X.A.mark (some (.ref a))) (eval (.Name x np) X.env) Q E { s1 with heap := g3 } := fun {Q E} q => by
      obtain ⟨hg, hdbg, hm | ⟨hm, hv, hnn⟩⟩ := hc
      · exact ld_glob (X := X.suite a ((a, o3) :: (X.pn ++ pins))) S3 hg hm q hdbg
      · exact ld_blt (X := X.suite a ((a, o3) :: (X.pn ++ pins))) S3 hg hm hv q hnn hdbg
    refine look (LM.here (codeAny_handlers_suite_as (HandSPX.lands_againZ fl3 fun g4 fl4 up4 => ?_)))
    have J4 : Inv X pins σ1 H1 { s1 with heap := g4 } := J.landed nb fl4.1 ((up.trans up3).trans up4) os ag
    obtain ⟨o4, vs4, at4, hz4, hd4⟩ := fl4.there
    refine store_ok (X := X.suite a ((a, o4) :: (X.pn ++ pins))) (v := .ref a) (J4.suite at4 hd4 na nL nF) hN hi (.inl hl) rfl (fun s5 S5 => ?_) (.inr hl)
    refine wpAny_mono ((hsu a o4 cls d (X.pn ++ pins) hz4 ⟨_, hd4⟩).run [] s5 _ H1 _ S5 (hyes a na)) (fun f s6 r => ?_) (fun _ _ z => False.elim z)
    have fin : ∀ {σ6 : L2.St} {H6 : Hp} {Q : Shared → Prop}, Inv (X.suite a ((a, o4) :: (X.pn ++ pins))) [] σ6 H6 s6 → (∀ s7, Inv X pins (σ6.set i none) H6 s7 → Q s7) →
        wpAny (model X.prog X.w) X.A (do bindName X.env n .none; unbindBehindTheSuite X.env n pos2) (fun _ s7 => Q s7) X.xe s6 := fun S6 hq => gone_ok (S6.unsuite ok) hN hi hl hq
    cases f with
    | ret u =>
      obtain ⟨v6, σ6, H6, S6, r6, q6⟩ := r
      exact fin S6 fun s7 J7 => ⟨_, _, _, J7, r6, q6⟩
    | next => exact r.elim fun σ6 z => z.elim fun H6 y => fin y.1 fun s7 J7 => ⟨_, _, J7, y.2⟩
    | brk => exact r.elim fun σ6 z => z.elim fun H6 y => fin y.1 fun s7 J7 => ⟨_, _, J7, y.2⟩
    | cont => exact r.elim fun σ6 z => z.elim fun H6 y => fin y.1 fun s7 J7 => ⟨_, _, J7, y.2⟩
  · cases f with
    | next => exact r.elim fun σ6 z => z.elim fun H6 y => wpAny_execs_nil ⟨σ6, H6, y.1.ofTry ok, y.2⟩
    | brk => exact r.elim fun σ6 z => z.elim fun H6 y => ⟨σ6, H6, y.1.ofTry ok, y.2⟩
    | cont => exact r.elim fun σ6 z => z.elim fun H6 y => ⟨σ6, H6, y.1.ofTry ok, y.2⟩
    | ret u =>
      obtain ⟨v, σ6, H6, J6, rv, q⟩ := r
      exact ⟨v, σ6, H6, J6.ofTry ok, rv, q⟩
end
end Hk

set_option Elab.async false
set_option linter.all false
set_option maxRecDepth 100000
set_option maxHeartbeats 4000000
/-! A def of the top that may raise, called within try. -/
namespace Hk
open PySem PySem.Spec PyProof.Rows L2
section
variable {X : Cx} {CX : CXT} {k : Nat} {x : Str} {ps : List Str} {sp : Sp} {E : L2.St → XK} {pos p : Pos} {e : Expr} {es : List Expr} {t : TA}
theorem pe_callGS (G : Glob X.prog X.w X.K X.mg X.base CX k x ps [] sp) (hr : Room k X.A) (hg : Gl X x) (hx : ∀ σ, PassesAt CX X σ (E σ)) (ha : PA X (e :: es) t)
    (hdb : (x == ("__debug__" : Str)) = false := by decide) (he : starEach (e :: es) X.env = (false, eval e X.env) :: starEach es X.env := by rfl) (hpl : (backTo pos (starEach es X.env)).any (·.1) = false := by rfl) :
    PE X (.Call (.Name x p) (e :: es) [] pos) (tCallS sp E t) := by
  refine ⟨fun pins s σ H Q I h => ?_⟩
  obtain ⟨f, fd, ds, F, hm, kp, vd, hb⟩ := G.ex
  cases vd
  exact (pe_callS F hr hg hm kp hb hx ha hdb he hpl).run pins s σ H Q I h
end
end Hk

set_option Elab.async false
set_option linter.all false
set_option maxRecDepth 100000
set_option maxHeartbeats 4000000
/-! Frames: what a call may change. -/
namespace Hk
open PySem PySem.Spec PySem.W PyProof.Rows L2 LamX NdefX
/-- what never changes -/
def Imm : HO → Prop
  | .tup _ => True
  | .frz _ _ => True
  | .ext _ => True
  | _ => False
theorem imm_fn {f : Addr} {F : NF} : Imm (FnO f F) := by unfold FnO; trivial
theorem imm_lam {f : Addr} {F : LF} : Imm (LamO f F) := by unfold LamO; trivial
theorem imm_code {f : Addr} {q : Str} : Imm (CodeO f q) := by unfold CodeO; trivial
theorem imm_cell {c : Addr} {v : V} {ob : Obj} : Imm (CellO c v ob) := by unfold CellO; trivial
/-- changed at most where S is and at the tables; what never changes stands; the tables are as they should -/
structure Fw (Ts : List Addr) (nm : Nat → Nat → Str) (S : Addr → Prop) (H H' : Hp) : Prop where
  keep : ∀ b o, H b = some o → (Imm o ∨ (¬ S b ∧ b ∉ Ts)) → H' b = some o
  dom : ∀ b, H' b = none → H b = none
  tab : Tabs1 Ts nm H'
section
variable {Ts : List Addr} {nm : Nat → Nat → Str} {S S' : Addr → Prop} {H H1 H2 : Hp} {a b p : Addr} {o : HO} {xs : List V}
theorem Fw.refl (t : Tabs1 Ts nm H) : Fw Ts nm S H H := ⟨fun _ _ h _ => h, fun _ h => h, t⟩
theorem Fw.trans (x : Fw Ts nm S H H1) (y : Fw Ts nm S H1 H2) : Fw Ts nm S H H2 := ⟨fun b o h z => y.keep b o (x.keep b o h z) z, fun b h => x.dom b (y.dom b h), y.tab⟩
theorem Fw.mono (x : Fw Ts nm S H H1) (h : ∀ b, S b → S' b) : Fw Ts nm S' H H1 := ⟨fun b o e z => x.keep b o e (z.imp id fun n => ⟨fun q => n.1 (h b q), n.2⟩), x.dom, x.tab⟩
theorem Fw.of_same (s : Same H H1) (t : Tabs1 Ts nm H) : Fw Ts nm S H H1 := ⟨fun b o h _ => s b o h, fun b h => s.free h, t.ext s⟩
/-- tables alone -/
theorem Fw.of_off (t : Tabs1 Ts nm H) (e : ∀ b o, H b = some o → b ∉ Ts → H1 b = some o) (d : ∀ b, H1 b = none → H b = none) (t1 : Tabs1 Ts nm H1) : Fw Ts nm S H H1 :=
  ⟨fun b o h z => e b o h (z.elim (fun i hb => by
    obtain ⟨ps, e, _⟩ := t b hb
    rw [h] at e; cases e; exact i) fun n => n.2), d, t1⟩
theorem Tabs1.put {o' : HO} (t : Tabs1 Ts nm H) (h : H a = some o') (n1 : ∀ ps, o' ≠ .tbl ps) (n2 : ¬ Imm o') : Tabs1 Ts nm (upd H a o) := t.ext2
  (fun b ps e => by rw [upd_ne (fun z => by rw [z, h] at e; exact n1 ps (Option.some.inj e))]; exact e) (fun c q e => by rw [upd_ne (fun z => by rw [z, h] at e; exact n2 (Option.some.inj e ▸ imm_code))]; exact e)
theorem Tabs1.new (t : Tabs1 Ts nm H) (h : H a = none) : Tabs1 Ts nm (upd H a o) := t.ext fun b u e => by rw [upd_ne (ne_of_none e h)]; exact e
theorem upd_dom {e : upd H a o b = none} : H b = none := by
  unfold upd at e; split at e
  · cases e
  · exact e
/-- a store to what may change -/
theorem Fw.put {o' : HO} (x : Fw Ts nm S H H1) (h : H1 a = some o') (n1 : ∀ ps, o' ≠ .tbl ps) (n2 : ¬ Imm o') (hS : S a ∨ H a = none) : Fw Ts nm S H (upd H1 a o) := by
  refine ⟨fun b u e z => ?_, fun b e => x.dom b (upd_dom (e := e)), x.tab.put h n1 n2⟩
  have e1 := x.keep b u e z
  rw [upd_ne (fun q => ?_)]
  · exact e1
  · subst q
    rw [h] at e1; cases e1
    rcases hS with hS | hS
    · exact z.elim n2 fun n => n.1 hS
    · rw [hS] at e; cases e
theorem Fw.new (x : Fw Ts nm S H H1) (h : H1 p = none) : Fw Ts nm S H (upd H1 p o) :=
  x.trans ⟨fun b u e _ => by rw [upd_ne (ne_of_none e h)]; exact e, fun b e => upd_dom (e := e), x.tab.new h⟩
theorem Fw.same (x : Fw Ts nm S H H1) (s : Same H1 H2) : Fw Ts nm S H H2 := x.trans (.of_same s x.tab)
theorem Fw.free (x : Fw Ts nm S H H1) (h : H1 p = none) : H p = none := x.dom p h
theorem Fw.imm (x : Fw Ts nm S H H1) (h : H b = some o) (i : Imm o) : H1 b = some o := x.keep b o h (.inl i)
theorem Fw.at_ (x : Fw Ts nm S H H1) (t : Tabs1 Ts nm H) (h : H b = some o) (n1 : ∀ ps, o ≠ .tbl ps) (n : ¬ S b) : H1 b = some o := x.keep b o h (.inr ⟨n, t.nt h n1⟩)
theorem Fw.lst (x : Fw Ts nm S H H1) (t : Tabs1 Ts nm H) (h : H b = some (.lst xs)) (n : ¬ S b) : H1 b = some (.lst xs) := x.at_ t h (fun _ z => by cases z) n
theorem Fw.tup (x : Fw Ts nm S H H1) (h : H b = some (.tup xs)) : H1 b = some (.tup xs) := x.imm h trivial
end
theorem inC_nil {a : Addr} : ¬ InC [] a := fun ⟨y, e⟩ => by cases e
theorem delC_nil {H : Hp} : delC [] H = H := funext fun a => delC_out inC_nil
theorem putC_nil {G H : Hp} : putC [] G H = H := funext fun a => putC_out inC_nil
theorem capsNil {H : Hp} : CapsAt [] [] [] H := ⟨rfl, (fun x y c e => by cases e), (fun y c e => by cases e), (fun i y e => by simp at e)⟩
theorem TupsAt.app {H : Hp} : ∀ {ts us : List Addr} {xs ys : List (List V)}, TupsAt H ts xs → TupsAt H us ys → TupsAt H (ts ++ us) (xs ++ ys)
  | [], _, [], _, _, h => h
  | _ :: _, _, _ :: _, _, h, g => ⟨h.1, TupsAt.app h.2 g⟩
  | [], _, _ :: _, _, h, _ => h.elim
  | _ :: _, _, [], _, h, _ => h.elim
theorem TupsAt.put {H : Hp} {p : Addr} {o u : HO} {ts : List Addr} {xs : List (List V)} (h : TupsAt H ts xs) (e : H p = some u) (n : ∀ ys, u ≠ .tup ys) : TupsAt (upd H p o) ts xs := h.mono fun t x q => by
  rw [upd_ne (fun z => by rw [z, e] at q; exact n _ (Option.some.inj q))]; exact q
/-- the promise sp brings, from vs and H, to R, or raises to RE -/
def Runs (sp : Sp) (vs : List V) (H : Hp) (R : VK) (RE : XK) : Prop := ∀ (Q : VK) (E : XK), (∀ v H', R v H' → Q v H') → (∀ c d H', RE c d H' → E c d H') → sp vs H Q E
theorem Runs.mono {sp : Sp} {vs : List V} {H : Hp} {R R' : VK} {RE RE' : XK} (h : Runs sp vs H R RE) (a : ∀ v H', R v H' → R' v H') (b : ∀ c d H', RE c d H' → RE' c d H') : Runs sp vs H R' RE' := fun Q E q e => h Q E (fun v H' r => q v H' (a v H' r)) (fun c d H' r => e c d H' (b c d H' r))
theorem Runs.at0 {sp : Sp} {vs : List V} {H : Hp} {R : VK} {Q : VK} {E : XK} (h : Runs sp vs H R E0) (a : ∀ v H', R v H' → Q v H') : sp vs H Q E := h Q E a fun _ _ _ z => z.elim
/-! ### closures at the heap -/
/-- at f a function whose words are mk, its captured names fr holding ws -/
def CloAt (H : Hp) (f : Addr) (mk : List (Str × Addr) → Addr → NF) (fr : List Str) (ws : List V) : Prop := ∃ cl c, H f = some (FnO f (mk cl c)) ∧ (mk cl c).cl = cl ∧ (mk cl c).c = c ∧ H c = some (CodeO c (mk cl c).qual) ∧ CapsAt cl fr ws H
theorem CloAt.mono {H H' : Hp} {f : Addr} {mk : List (Str × Addr) → Addr → NF} {fr : List Str} {ws : List V} (h : CloAt H f mk fr ws) (e : ∀ b o, H b = some o → Imm o → H' b = some o) : CloAt H' f mk fr ws := by
  obtain ⟨cl, c, h1, h2, h3, h4, h5⟩ := h
  exact ⟨cl, c, e _ _ h1 imm_fn, h2, h3, e _ _ h4 imm_code, h5.mono fun a _ v ⟨ob, q⟩ => ⟨ob, e _ _ q imm_cell⟩⟩
theorem CloAt.fw {Ts : List Addr} {nm : Nat → Nat → Str} {S : Addr → Prop} {H H' : Hp} {f : Addr} {mk : List (Str × Addr) → Addr → NF} {fr : List Str} {ws : List V} (h : CloAt H f mk fr ws) (e : Fw Ts nm S H H') : CloAt H' f mk fr ws := h.mono fun b o q i => e.imm q i
theorem CloAt.same {H H' : Hp} {f : Addr} {mk : List (Str × Addr) → Addr → NF} {fr : List Str} {ws : List V} (h : CloAt H f mk fr ws) (e : Same H H') : CloAt H' f mk fr ws := h.mono fun b o q _ => e b o q
/-- behind its maker -/
theorem made_clo {cm : List (Str × Addr)} {sc : Scope} {N : List Str} {σ : L2.St} {obs : Addr → Obj} {H : Hp} {f c : Addr} {F : NF} {mk : List (Str × Addr) → Addr → NF} {fr N' ps' : List Str} {ws : List V} (C : CEnv cm sc N H) (hf : H f = some (FnO f F)) (hc : H c = some (CodeO c F.qual)) (hF : F = mk (cloFrom cm F.scope.names []) c) (hcl : F.cl = cloFrom cm F.scope.names []) (hcc : F.c = c)
    (js : List Nat) (hb : ndefB sc F.scope fr = true) (S : NScope N' ps' fr F.scope) (hjs : js.map (fun j => N[j]?) = fr.map some) (hws : js.map (fun j => σ[j]?) = ws.map (fun v => some (some v))) : CloAt (exC cm sc N σ obs H) f mk fr ws :=
  ⟨cloFrom cm F.scope.names [], c, hF ▸ C.same _ _ hf, hF ▸ hcl, hF ▸ hcc, hF ▸ C.same _ _ hc, C.caps hb S.free hjs hws (fun a o h _ => h)⟩
theorem putC_upd {cl : List (Str × Addr)} {G H : Hp} {p : Addr} {o : HO} (n : ¬ InC cl p) : putC cl G (upd H p o) = upd (putC cl G H) p o := funext fun b => by
  by_cases e : b = p
  · subst e; rw [putC_out n, upd_same, upd_same]
  · rw [upd_ne e]
    by_cases z : InC cl b
    · rw [putC_in z, putC_in z]
    · rw [putC_out z, putC_out z, upd_ne e]
theorem putC_del {cl : List (Str × Addr)} {H : Hp} : putC cl H (delC cl H) = H := funext fun b => by
  by_cases z : InC cl b
  · rw [putC_in z]
  · rw [putC_out z, delC_out z]
/-- a closure is called -/
theorem clo_runs {P : Program} {w : World} {K : PySem.W.Frag} {mg : Str → Option Value} {base : Heap} {k : Nat} {H : Hp} {f : Addr} {mk : List (Str × Addr) → Addr → NF} {ps fr : List Str} {ws vs : List V} {spN : List (Option V) → Sp} {R : VK} {RE : XK} (C : CloAt H f mk fr ws) (nok : ∀ f cl c, NOk P w K mg base (L2.CX P w) k f (mk cl c) ps fr spN)
    (body : ∀ cl, (∀ b, InC cl b → ∃ v ob, H b = some (CellO b v ob)) → Runs (spN (ws.map some)) vs (delC cl H) (fun v H' => (∀ b, InC cl b → H' b = none) → R v (putC cl H H')) (fun c d H' => (∀ b, InC cl b → H' b = none) → RE c d (putC cl H H'))) : ∃ sp, Act P w K mg base k f sp ∧ Runs sp vs H R RE := by
  obtain ⟨cl, c, h1, h2, h3, h4, h5⟩ := C
  refine ⟨_, act_clo (nok f cl c), fun Q E hq he => ⟨ws, h1, by rw [h3]; exact h4, by rw [h2]; exact h5, ?_⟩⟩
  rw [h2]
  exact body cl (fun b z => (h5.tr z).elim fun v ⟨ob, e⟩ => ⟨v, ob, e⟩) _ _ (fun v H' r z => hq _ _ (r z)) (fun c d H' r z => he _ _ _ (r z))
theorem if_wait3 {c1 c2 c3 W G : Prop} [Decidable c1] [Decidable c2] [Decidable c3] (h : c1 ∨ (c2 ∧ c3)) (x : W) : if c1 then W else if c2 then (if c3 then W else G) else G := by
  rcases h with h | ⟨h, g⟩
  · exact ifP h x
  · by_cases z : c1
    · exact ifP z x
    · exact ifN z (ifP h (ifP g x))
theorem if_go3 {c1 c2 c3 W G : Prop} [Decidable c1] [Decidable c2] [Decidable c3] (h : ¬ (c1 ∨ (c2 ∧ c3))) (x : G) : if c1 then W else if c2 then (if c3 then W else G) else G := by
  refine ifN (fun z => h (.inl z)) ?_
  by_cases z : c2
  · exact ifP z (ifN (fun y => h (.inr ⟨z, y⟩)) x)
  · exact ifN z x
theorem inV_strs {z : Str} : ∀ {zs : List Str}, inV (.str z) (zs.map V.str) = decide (z ∈ zs)
  | [] => rfl
  | y :: r => by
    have ih := inV_strs (z := z) (zs := r)
    unfold inV at ih ⊢
    rw [List.map_cons, List.any_cons, ih]
    unfold eqV
    simp only [List.mem_cons, beq_dec]
    by_cases h : z = y <;> simp [h]
theorem inV_ints {z : Int} : ∀ {zs : List Int}, inV (.int z) (zs.map V.int) = decide (z ∈ zs)
  | [] => rfl
  | y :: r => by
    have ih := inV_ints (z := z) (zs := r)
    unfold inV at ih ⊢
    rw [List.map_cons, List.any_cons, ih]
    unfold eqV
    by_cases h : z = y
    · subst h; simp
    · simp [h, Ne.symm h]
theorem del_ex {cm : List (Str × Addr)} {sc : Scope} {N : List Str} {σ : L2.St} {obs : Addr → Obj} {H : Hp} (C : CEnv cm sc N H) : delC cm (exC cm sc N σ obs H) = H := funext fun b => by
  by_cases z : InC cm b
  · rw [delC_in z, C.free b z]
  · rw [delC_out z, exC_out z]
/-! ### words for simp -/
def isL : Option HO → Bool
  | some (.lst _) => true
  | _ => false
theorem isL_lst {xs : List V} : isL (some (.lst xs)) = true := rfl
theorem tyV_lst {K : PySem.W.Frag} {p : Addr} {H : Hp} (h : isL (H p) = true) : tyV K "list" (.ref p) H = True := by
  cases e : H p with
  | none => rw [e] at h; cases h
  | some o =>
    rw [e] at h
    cases o with
    | lst xs => exact propext ⟨fun _ => trivial, fun _ => .inl ⟨rfl, _, .of e⟩⟩
    | _ => cases h
theorem rAppend_ref {l : Addr} {y : V} {H : Hp} {Q : VK} : rAppend (.ref l) [y] H Q = ∃ xs, H l = some (.lst xs) ∧ xs.length < sizeLine ∧ Q .non (upd H l (.lst (xs ++ [y]))) := by
  unfold rAppend; simp
theorem rExtend_ref {l b : Addr} {H : Hp} {Q : VK} : rExtend (.ref l) [.ref b] H Q = ∃ xs zs, H l = some (.lst xs) ∧ H b = some (.lst zs) ∧ xs.length + zs.length ≤ sizeLine ∧ Q .non (upd H l (.lst (xs ++ zs))) := by
  unfold rExtend; simp
theorem rClear_ref {l : Addr} {H : Hp} {Q : VK} : rClear (.ref l) [] H Q = ∃ xs, H l = some (.lst xs) ∧ Q .non (upd H l (.lst [])) := by
  unfold rClear; simp
theorem rAdd_int {i j : Int} {H : Hp} {Q : VK} : rAdd (.int i) (.int j) H Q = Q (.int (i + j)) H := by unfold rAdd; simp
theorem rSub_int {i j : Int} {H : Hp} {Q : VK} : rSub (.int i) (.int j) H Q = Q (.int (i - j)) H := by unfold rSub; simp
theorem shaped_nil : SeqAt.shaped (.list []) = true := shaped_list 0 (by decide) (fun d hd => nomatch hd)
theorem lt_line {n : Nat} (h : n ≤ 100000) : (n < sizeLine) = True := eq_true (Nat.lt_of_le_of_lt h (by decide))
/-- a comprehension of new tuples -/
theorem lc_tups {α : Type} (xs : List α) (f : α → List V) {J : It} {G : Hp → Prop} {Y : Nat → Hp → V → Hp → Prop} (w : Walk J xs.length G Y) {g : TG} {te : TE} {vs : List Nat} {σ : L2.St} {H1 : Hp} {Q : VK}
    (hn : xs.length ≤ 100000) (hG : ∀ H, Same H1 H → G H)
    (hs : ∀ i a x H H' (R : V → Hp → Prop), xs[i]? = some a → Same H1 H → Y i H x H' → (∀ t H2, H2 t = none → Same H H2 → R (.ref t) (upd H2 t (.tup (f a)))) → g x (wipe σ vs) H' fun σ2 H2 => wipe σ2 vs = wipe σ vs ∧ te σ2 H2 (fun y H4 => R y H4))
    (hd : ∀ D H ts, H1 D = none → Same H1 H → H D = some (.lst (ts.map V.ref)) → TupsAt H ts (xs.map f) → Q (.ref D) H) : LcG J g tYes te vs σ H1 Q := by
  refine lc_accH w No (fun i acc H => Same H1 H ∧ ∃ ts, acc = ts.map V.ref ∧ TupsAt H ts ((xs.take i).map f)) (Nat.lt_of_le_of_lt hn (by decide)) (fun _ _ z => z) ⟨Same.refl _, [], rfl, trivial⟩ (fun H D i acc nD e _ => hG H e.same)
    (fun D i x H H' acc R nD hD hi e hJ hy r0 r1 => ?_) (fun D acc H nD hl e hJ hD => ?_)
  · obtain ⟨s1, ts, rfl, ht⟩ := hJ
    have hx : xs[i]? = some xs[i] := List.getElem?_eq_getElem hi
    have key := hs i xs[i] x H H' (fun y H4 => R (some y) H4) hx e.same hy (fun t H2 nt s2 => ?_)
    · simp only [tYes, if_true]
      exact key
    refine r1 _ _ (.of_same (same_new s2 nt)) ⟨?_, ts ++ [t], by simp, ?_⟩
    · refine s1.trans ((offA_mono (same_new s2 nt)))
    · rw [List.take_add_one, hx, List.map_append]
      have ne : t ≠ D := fun z => by rw [z, s2 _ _ hD] at nt; cases nt
      refine TupsAt.snoc (by rw [offA_ne ne]; exact upd_same) (TupsAt.mono (fun t x h => offA_mono (same_new s2 nt) _ _ h) ht)
  · obtain ⟨s1, ts, rfl, ht⟩ := hJ
    rw [List.take_length] at ht
    exact hd D H ts nD e.same hD (TupsAt.mono (fun t x h => offA_same _ _ h) ht)
/-- sorted by a lambda that captures nothing -/
theorem sort_lam {P : Program} {w : World} {K : PySem.W.Frag} {mg : Str → Option Value} {base : Heap} {k : Nat} {H : Hp} {Q : VK} {l f : Addr} {L : LF} {xs : List V} {spN : List (Option V) → Sp} (hf : H f = some (LamO f L)) (hc : H L.c = some (CodeO L.c L.qual)) (hcl : L.cl = []) (hd : L.dT = none)
    (ac : Act P w K mg base k f (spLam f L [] [] spN)) (hs : SqL K H l xs) (hlen : xs.length ≤ 100000) (key : V → PyData) (hkey : (∀ x ∈ xs, ∃ n, key x = .int n) ∨ ∀ x ∈ xs, ∃ i j, key x = .tuple [.int i, .int j])
    (hsp : ∀ x ∈ xs, ∀ (H' : Hp) (Q' : VK) (E' : XK), Same H H' → (∀ y H'', Same H' H'' → KeyV H'' y (key x) → Q' y H'') → spN [] [x] H' Q' E')
    (q : ∀ p H', Same H H' → H p = none → H' p = some (.lst (xs.mergeSort (dataLe false key))) → Q (.ref p) H') : rSortKey P w K mg base k [.ref l] [.ref f] H Q := by
  refine ⟨l, f, xs, _, key, rfl, rfl, hs, hlen, ac, hkey, fun x hx H' Q' s r => ?_, q⟩
  refine ⟨[], s _ _ hf, s _ _ hc, by rw [hcl]; exact capsNil, by rw [hd]; rfl, ?_⟩
  rw [hcl, delC_nil]
  exact hsp x hx H' _ _ s fun y H'' s2 kv _ => by rw [putC_nil]; exact r y H'' s2 kv
end Hk

set_option Elab.async false
set_option linter.all false
set_option maxRecDepth 100000
set_option maxHeartbeats 4000000
/-! Lambdas that outlive the frame that made them. -/
namespace Hk
open PySem PySem.Spec PySem.W PyProof.Rows L2 LamX NdefX
section
variable {P : Program} {w : World} {K : PySem.W.Frag} {mg : Str → Option Value} {base : Heap} {k : Nat} {H H' : Hp} {f : Addr} {fr : List Str} {ws : List V} {spN : List (Option V) → Sp}
/-- at f a lambda; its captured names fr hold ws; called, it keeps the promise spN -/
def LamR (P : Program) (w : World) (K : PySem.W.Frag) (mg : Str → Option Value) (base : Heap) (k : Nat) (H : Hp) (f : Addr) (fr : List Str) (ws : List V) (spN : List (Option V) → Sp) : Prop :=
  ∃ L : LF, H f = some (LamO f L) ∧ H L.c = some (CodeO L.c L.qual) ∧ L.dT = none ∧ CapsAt L.cl fr ws H ∧ Act P w K mg base k f (spLam f L fr [] spN)
theorem LamR.mono (h : LamR P w K mg base k H f fr ws spN) (e : ∀ b o, H b = some o → Imm o → H' b = some o) : LamR P w K mg base k H' f fr ws spN := by
  obtain ⟨L, h1, h2, h3, h4, h5⟩ := h
  exact ⟨L, e _ _ h1 imm_lam, e _ _ h2 imm_code, h3, h4.mono fun a _ v ⟨ob, q⟩ => ⟨ob, e _ _ q imm_cell⟩, h5⟩
theorem LamR.fw {Ts : List Addr} {nm : Nat → Nat → Str} {S : Addr → Prop} (h : LamR P w K mg base k H f fr ws spN) (e : Fw Ts nm S H H') : LamR P w K mg base k H' f fr ws spN := h.mono fun b o q i => e.imm q i
theorem LamR.same (h : LamR P w K mg base k H f fr ws spN) (e : Same H H') : LamR P w K mg base k H' f fr ws spN := h.mono fun b o q _ => e b o q
theorem LamR.lift {j : Nat} (h : LamR P w K mg base j H f fr ws spN) (l : j ≤ k) : LamR P w K mg base k H f fr ws spN := by
  obtain ⟨L, h1, h2, h3, h4, h5⟩ := h
  exact ⟨L, h1, h2, h3, h4, h5.mono l⟩
/-- behind its maker, or within it, the maker's cells told -/
theorem made_lam {cm : List (Str × Addr)} {sc : Scope} {N : List Str} {σ : L2.St} {obs : Addr → Obj} {L : LF} {N' ps' : List Str} (C : CEnv cm sc N H) (hf : H f = some (LamO f L)) (hc : H L.c = some (CodeO L.c L.qual)) (hcl : L.cl = cloFrom cm L.scope.names []) (hd : L.dT = none)
    (js : List Nat) (hb : ndefB sc L.scope fr = true) (S : NScope N' ps' fr L.scope) (hjs : js.map (fun j => N[j]?) = fr.map some) (hws : js.map (fun j => σ[j]?) = ws.map (fun v => some (some v))) (ac : Act P w K mg base k f (spLam f L fr [] spN)) : LamR P w K mg base k (exC cm sc N σ obs H) f fr ws spN :=
  ⟨L, C.same _ _ hf, C.same _ _ hc, hd, hcl ▸ C.caps hb S.free hjs hws (fun a o h _ => h), ac⟩
theorem LamR.runs {vs : List V} {R : VK} {RE : XK} (C : LamR P w K mg base k H f fr ws spN)
    (body : ∀ cl, (∀ b, InC cl b → ∃ v ob, H b = some (CellO b v ob)) → Runs (spN (ws.map some)) vs (delC cl H) (fun v H' => (∀ b, InC cl b → H' b = none) → R v (putC cl H H')) (fun c d H' => (∀ b, InC cl b → H' b = none) → RE c d (putC cl H H'))) : ∃ sp, Act P w K mg base k f sp ∧ Runs sp vs H R RE := by
  obtain ⟨L, h1, h2, h3, h4, h5⟩ := C
  refine ⟨_, h5, fun Q E hq he => ⟨ws, h1, h2, h4, by unfold DtOk; rw [h3], ?_⟩⟩
  rw [List.append_nil]
  exact body L.cl (fun b z => (h4.tr z).elim fun v ⟨ob, e⟩ => ⟨v, ob, e⟩) _ _ (fun v H' r z => hq _ _ (r z)) (fun c d H' r z => he _ _ _ (r z))
end
/-! ### a lambda whose body shows its cells to what it calls -/
section
variable {P : Program} {w : World} {K : PySem.W.Frag} {mg : Str → Option Value} {base : Heap} {N ps fr : List Str} {L : LF} {f : Addr} {k : Nat} {spN : List (Option V) → Sp}
theorem act_lamE (S : NScope N ps fr L.scope) (hdT : L.dT = none) (len : ∀ ws vs H Q E, spN ws vs H Q E → vs.length = ps.length)
    (hb : ∀ (pm ctv : Value) (us : List Value), us.length = ps.length → bindArgs (L.fd pm ctv) ⟨us, []⟩ = pure (ps.zip us))
    (hbody : NScope N ps fr L.scope → ∀ (A : Around) (outer : List Env) (s : Shared) (H : Hp) (vs : List V) (ws : List (Option V)) (Q : VK) (E : XK), Room k (A.deeper (envF L.nf f s.heap.objs.size)) → CellsOut base outer L.cl → (∀ a, InC L.cl a → H a = none) → ws.length = fr.length → spN ws vs H Q E →
      ∃ te, PE (ncx (L2.CX P w) P w K mg base N L.nf f A outer s H E) L.body te ∧ te (startF N vs ws) H Q) :
    Act P w K mg base (k + 1) f (spLam f L fr [] spN) := fun A outer s H us vs Q E hr e0 r h => by
  obtain ⟨ws, hf, hc, C, hd, q⟩ := h
  rw [List.append_nil] at q
  have lim : s.heap.NoLimit := e0.mod.nolimit.keeps fun b o e => (e0.bs b o e).1
  obtain ⟨od, sl, pm, ctv, ho⟩ := lamO_at e0.hok hf
  have out : CellsOut base outer L.cl := fun a z => by
    obtain ⟨v, ob, e⟩ := C.tr z
    refine ⟨?_, fun hb => by rw [e0.frf a hb] at e; cases e⟩
    cases y : base.get? a with
    | none => rfl
    | some o => rw [(e0.bs a o y).2] at e; cases e
  refine ⟨⟨_, od, _, sl, ho⟩, capsRun C e0 fun e1 C1 => ?_⟩
  have hl := len _ _ _ _ _ q
  have bd : BindsTo s (L.fd pm ctv) ⟨us, []⟩ (ps.zip us) := .of_eq (hb pm ctv us (by rw [← r.length, hl]))
  refine kla_callFunE hr.depth ho rfl S.co S.gen rfl (codeO_at e0.hok hc) (bd _ _ _ _ ?_)
  refine wpAny_newFunctionEnv S.nocell (fun ⟨n, _⟩ hy => S.par n (List.of_mem_zip hy).1) (fun h₁ hns hsb => ⟨lim.fresh _ hsb, ?_⟩) S.kind
  show codeAny _ _ (.expr L.body (envF L.nf f s.heap.objs.size)) _ _
  have kp : ∀ b o, s.heap.get? b = some o → h₁.get? b = some o := fun b o e => hsb.extBut b o (Nat.ne_of_lt (Heap.lt_size e)) (Heap.get?_push_of_some _ e)
  obtain ⟨te, ht, hq⟩ := hbody S A outer s (delC L.cl H) vs (ws.map some) _ _ (hr.deeper _) out (fun a z => delC_in z) C1.len q
  have I := inv_startN (CX := L2.CX P w) (F := L.nf) (f := f) (A := A) (E := fun cls d H' => (∀ a, InC L.cl a → H' a = none) → E cls d (putC L.cl H H')) (tk := s.toks + (ps.zip us).length) S hr.hd e1 hl r C1 hns kp
  refine kla_codeExpr (wpAny_mono (ht.run [] _ _ _ _ I hq) (fun v s' hs => ?_) fun e s' hs => hs)
  obtain ⟨v, H', J, rv, q⟩ := hs
  exact ⟨v, H', J.os, J.bare, J.base, J.hok, rv, q⟩
end
/-! ### behind a frame whose cells were told -/
/-- what stands behind a frame whose cells were told and are gone, or are told again -/
structure Unx (H H2 H3 : Hp) : Prop where
  one : ∀ b o, H2 b = some o → (∀ ob u, o ≠ .frz ob u) → H3 b = some o
  two : ∀ b o, H b = some o → H2 b = some o → H3 b = some o
  dom : ∀ b, H3 b = none → H b = none
structure Aft (H1 H2 : Hp) : Prop where
  imm : ∀ b o, H1 b = some o → Imm o → H2 b = some o
  dom : ∀ b, H2 b = none → H1 b = none
theorem Fw.aft {Ts : List Addr} {nm : Nat → Nat → Str} {S : Addr → Prop} {H H1 : Hp} (w : Fw Ts nm S H H1) : Aft H H1 := ⟨fun b o h i => w.imm h i, w.dom⟩
theorem Aft.upd {H H1 : Hp} {c : Addr} {o o' : HO} (A : Aft H H1) (h : H c = some o') (n : ¬ Imm o') : Aft H (upd H1 c o) := ⟨fun b u e i => by
  rw [upd_ne (fun z => by rw [z, h] at e; exact n (Option.some.inj e ▸ i))]; exact A.imm b u e i, fun b e => A.dom b (upd_dom (e := e))⟩
theorem delC_upd {cl : List (Str × Addr)} {H : Hp} {p : Addr} {o : HO} (n : ¬ InC cl p) : delC cl (upd H p o) = upd (delC cl H) p o := funext fun b => by
  by_cases e : b = p
  · subst e; rw [delC_out n, upd_same, upd_same]
  · rw [upd_ne e]
    by_cases z : InC cl b
    · rw [delC_in z, delC_in z]
    · rw [delC_out z, delC_out z, upd_ne e]
section
variable {cm : List (Str × Addr)} {sc : Scope} {N : List Str} {σ σ' : L2.St} {obs obs' : Addr → Obj} {H H2 H3 : Hp}
theorem unx_nin (C : CEnv cm sc N H2) (tr : ∀ b, InC cm b → ∃ v ob, exC cm sc N σ obs H2 b = some (CellO b v ob)) (A : Aft (exC cm sc N σ obs H2) H3) {b : Addr} {o : HO} (h : H3 b = some o) (n : ∀ ob u, o ≠ .frz ob u) : ¬ InC cm b := fun z => by
  obtain ⟨v, ob, e⟩ := tr b z
  rw [A.imm _ _ e imm_cell] at h
  exact n _ _ (Option.some.inj h).symm
theorem unx_ex (C : CEnv cm sc N H2) (tr : ∀ b, InC cm b → ∃ v ob, exC cm sc N σ obs H2 b = some (CellO b v ob)) (w : ∀ b, H2 b = none → H b = none) (A : Aft (exC cm sc N σ obs H2) H3) : Unx H H3 (exC cm sc N σ' obs' (delC cm H3)) ∧ Unx H H3 (delC cm H3) := by
  have nin : ∀ b o, H b = some o → ¬ InC cm b := fun b o h z => by rw [w b (C.free b z)] at h; cases h
  have dm : ∀ b, ¬ InC cm b → H3 b = none → H b = none := fun b z h => w b (by have := A.dom b h; rw [exC_out z] at this; exact this)
  refine ⟨⟨fun b o h n => ?_, fun b o h h3 => ?_, fun b h => ?_⟩, ⟨fun b o h n => ?_, fun b o h h3 => ?_, fun b h => ?_⟩⟩
  · have z := unx_nin C tr A h n
    rw [exC_out z, delC_out z]; exact h
  · have z := nin b o h
    rw [exC_out z, delC_out z]; exact h3
  · by_cases z : InC cm b
    · exact w b (C.free b z)
    · rw [exC_out z, delC_out z] at h
      exact dm b z h
  · rw [delC_out (unx_nin C tr A h n)]; exact h
  · rw [delC_out (nin b o h)]; exact h3
  · by_cases z : InC cm b
    · exact w b (C.free b z)
    · rw [delC_out z] at h
      exact dm b z h
/-- what was there and is as it was is as it was -/
theorem Unx.fw {Ts : List Addr} {nm : Nat → Nat → Str} {S : Addr → Prop} (U : Unx H H2 H3) (w : Fw Ts nm S H H2) : Fw Ts nm S H H3 :=
  ⟨fun b o h z => U.two b o h (w.keep b o h z), U.dom, w.tab.ext2 (fun b ps e => U.one _ _ e (fun _ _ z => by cases z)) (fun c q e => U.one _ _ e codeO_nf)⟩
end
end Hk

set_option Elab.async false
set_option linter.all false
set_option maxRecDepth 100000
set_option maxHeartbeats 4000000
/-! Defs without a return at the end whose functions outlive them: at the end their cells are told. -/
namespace Hk
open PySem PySem.Spec PyProof.Rows L2 LamX NdefX
def EndN (X : Cx) (Q : VK) (fl : Flow) (s' : Shared) : Prop := ∃ v H', ((fl = .next ∧ v = .non) ∨ ∃ u, fl = .ret u ∧ L2.RelV v u) ∧ s'.os = X.s_0.os ∧ AllBare s'.gens ∧ Un X.fs X.ex X.H_0 H' X.s_0.heap s'.heap ∧ HOk X.prog X.w H' s'.heap ∧ Q v H'
structure PMN (X : Cx) (ss : List Stmt) (t : TM) : Prop where
  run : ∀ (pins : List (Addr × Obj)) (s : Shared) (σ : L2.St) (H : Hp) (Q : VK), Inv X pins σ H s → t Q σ H → wpAny (model X.prog X.w) X.A (execs ss X.env) (EndN X Q) X.xe s
def tMnil (cm : List (Str × Addr)) (sc : Scope) (N : List Str) : TM := fun Q σ H => CEnv cm sc N H → ∀ obs, Q .non (exC cm sc N σ obs H)
section
variable {X : Cx}
theorem pmn_cons {st : Stmt} {ss : List Stmt} {t : TS} {u : TM} (h1 : PS X st t) (h2 : PMN X ss u) : PMN X (st :: ss) (tMseq t u) := by
  refine ⟨fun pins s σ H Q I h => ?_⟩
  refine wpAny_execs_cons (thn (h1.run pins s σ H _ I h) fun f s1 q => ?_)
  cases f with
  | next =>
    obtain ⟨σ', H', I', q⟩ := q
    exact h2.run pins s1 σ' H' Q I' q
  | ret u =>
    obtain ⟨v, σ', H', J, rv, q⟩ := q
    exact ⟨v, H', .inr ⟨u, rfl, rv⟩, J.os, J.bare, J.base, J.hok, q⟩
  | brk =>
    obtain ⟨_, _, _, q⟩ := q
    exact False.elim q
  | cont =>
    obtain ⟨_, _, _, q⟩ := q
    exact False.elim q
theorem pmn_nil (nd : X.N.Nodup) (hfn : ∀ y c, X.env.cells.lookup y = some c → X.fn y = true) : PMN X [] (tMnil X.env.cells X.env.scope X.N) := by
  refine ⟨fun pins s σ H Q I h => ?_⟩
  refine wpAny_execs_nil ?_
  obtain ⟨obs, hok⟩ := exp_facts I nd
  exact ⟨.non, _, .inl ⟨rfl, rfl⟩, I.os, I.bare, un_ex I nd hfn, hok, h (cenv_of I nd) obs⟩
end
section
variable {P : Program} {w : World} {K : PySem.W.Frag} {mg : Str → Option Value} {base : Heap} {k : Nat} {fd : FuncData} {ps : List Str} {sp : Sp} {x : Str} {dvs : List V}
theorem okMN {CX : CXT} {qual : Str} {params : Arguments} {body : List Stmt} {scope : Scope} {kws : List (Str × V)} {N : List Str} {p : Str × Option Str} (F : FunD K x qual params body scope dvs kws (He.fAd K p) fd) (S : FnScope N ps scope) (len : ∀ vs H Q E, sp vs H Q E → vs.length = ps.length)
    (hbody : ∀ (A : Around) (outer : List Env) (s : Shared) (H : Hp) (vs : List V) (Q : VK) (E : XK), Room k (A.deeper (envOfC qual scope s.heap.objs.size (He.fAd K p) (.ref (He.codeOf K p)))) → sp vs H Q E →
      ∃ t, PMN (cxOf CX P w K mg base N qual scope (He.fAd K p) (.ref (He.codeOf K p)) A outer s H E) body t ∧ t Q (start N vs) H) : FnOk P w K mg base CX (k + 1) (He.fAd K p) fd ps sp := by
  obtain ⟨oc, od, dV, kV, doc, pm, an, cdv, ct, osl, rfl, lk, hcd, _, _⟩ := F.ex
  obtain ⟨c, rfl⟩ := He.codeIn_ref hcd
  have ec := He.codeOf_eq lk rfl
  rw [ec] at hbody
  refine ⟨len, fun A outer s H args us vs Q E hr e0 hb r hsp => ?_⟩
  have hl := len _ _ _ _ hsp
  have KX : K.In s.heap := e0.mod.kin.keeps fun b o e => (e0.bs b o e).1
  have lim : s.heap.NoLimit := e0.mod.nolimit.keeps fun b o e => (e0.bs b o e).1
  have hkind : ∀ y ∈ ps.zip us, scope.names.lookup y.1 = some .local ∨ (scope.names.lookup y.1 = some .cell ∧ ((cellsFrom (s.heap.objs.size + 1) scope.names []).lookup y.1).isSome = true) := fun ⟨n, v⟩ hy => by
    rcases S.par n (List.of_mem_zip hy).1 with q | q
    · exact .inl q
    · exact .inr ⟨q, PySem.W.cellsFrom_some _ _ _ (.inl q)⟩
  refine codeAny_call_function hr.depth (KX _ _ lk) rfl S.co S.gen rfl (PySem.W.codeRec_of KX hcd) (hb _ _ _ _ ?_)
  refine wpAny_newFunctionEnv_cells S.kind hkind fun env he s1 x => ?_
  subst he
  refine ⟨lim.keeps x.toInCall.keep, codeAny_func ?_⟩
  obtain ⟨t, ht, hq⟩ := hbody A outer s H vs Q E (hr.deeper _) hsp
  have I : Inv (cxOf CX P w K mg base N qual scope (He.fAd K p) (.ref c) A outer s H E) [] (L2.start N vs) H s1 := inv_start S hr.hd e0 hl r x
  refine wpAny_mono (ht.run [] s1 (L2.start N vs) H Q I hq) (fun fl s' hs => ?_) fun e s' hs => hs
  obtain ⟨v, H', hfl, os, bare, un, hok, q⟩ := hs
  rcases hfl with ⟨rfl, rfl⟩ | ⟨u, rfl, rv⟩
  · exact ⟨.non, H', os, bare, un, hok, rfl, q⟩
  · exact ⟨v, H', os, bare, un, hok, rv, q⟩
end
end Hk

set_option Elab.async false
set_option linter.all false
set_option maxRecDepth 100000
set_option maxHeartbeats 4000000
/-! Calls with keywords: methods, defs, new instances; the callee told of the live frame's cells or not. -/
namespace Hk
open PySem PySem.Spec PyProof.Rows L2
structure MethKG (P : Program) (w : World) (K : PySem.W.Frag) (mg : Str → Option Value) (base : Heap) (CX : CXT) (k : Nat) (C : Addr) (m : Str) (ps : List Str) (n : Nat) (ks : List Str) (gV : List V → List V → List V) (sp : Sp) : Prop where
  ex : ∃ f fd g, Cls K C ∧ Meth K C m f ∧ FnOk P w K mg base CX k f fd ps sp ∧ KBn K fd ps (n + 1) ks g gV
structure GlobK (P : Program) (w : World) (K : PySem.W.Frag) (mg : Str → Option Value) (base : Heap) (CX : CXT) (k : Nat) (x : Str) (ps : List Str) (n : Nat) (ks : List Str) (gV : List V → List V → List V) (sp : Sp) : Prop where
  ex : ∃ f fd g, FnOk P w K mg base CX k f fd ps sp ∧ mg x = some (.ref f) ∧ PySem.W.keepIn K (.ref f) = true ∧ KBn K fd ps n ks g gV
structure MakeKG (P : Program) (w : World) (K : PySem.W.Frag) (mg : Str → Option Value) (base : Heap) (CX : CXT) (k : Nat) (C : Addr) (ps : List Str) (n : Nat) (ks : List Str) (gV : List V → List V → List V) (sp : Sp) : Prop where
  ex : ∃ f fd g, Mk K C f ∧ FnOk P w K mg base CX k f fd ps sp ∧ KBn K fd ps (n + 1) ks g gV
/-- no defaults: all the rest is named -/
theorem FunD.kbindsN {K : PySem.W.Frag} {x qual : Str} {params : Arguments} {body : List Stmt} {scope : Scope} {kws : List (Str × V)} {f : Addr} {fd : FuncData} {ps : List Str} (F : FunD K x qual params body scope [] kws f fd) (n : Nat) (ks : List Str) (g : {α : Type} → List α → List α → List α)
    (hrel : ∀ {vs zs : List V} {us ws : List Value}, Vals vs us → Vals zs ws → Vals (g vs zs) (g us ws))
    (h : ∀ (kV doc pm : Value) (an : Option Addr) (cdv ct : Value) (us ws : List Value), us.length = n → ws.length = ks.length →
      bindArgs (PySem.W.fnOf x qual params body scope .none kV doc pm an cdv ct) ⟨us, ks.zip ws⟩ = pure (ps.zip (g us ws))) : KBn K fd ps n ks (fun us ws => g us ws) (fun vs zs => g vs zs) := by
  obtain ⟨oc, od, dV, kV, doc, pm, an, cdv, ct, osl, rfl, lk, hcd, hD, hK⟩ := F.ex
  rcases hD with ⟨_, rfl⟩ | ⟨e, _⟩
  · exact ⟨fun s us ws X l1 l2 => .of_eq (h kV doc pm an cdv ct us ws l1 l2), fun r1 r2 => hrel r1 r2⟩
  · exact absurd rfl e
theorem Vals.take {vs : List V} {us : List Value} (h : Vals vs us) : ∀ n, Vals (vs.take n) (us.take n) := by
  induction h with
  | nil => intro n; simp only [List.take_nil]; exact .nil
  | cons r _ ih =>
    intro n
    cases n with
    | zero => exact .nil
    | succ n => exact .cons r (ih n)
theorem Vals.drp {vs : List V} {us : List Value} (h : Vals vs us) : ∀ n, Vals (vs.drop n) (us.drop n) := by
  induction h with
  | nil => intro n; simp only [List.drop_nil]; exact .nil
  | cons r t ih =>
    intro n
    cases n with
    | zero => exact .cons r t
    | succ n => exact ih n
/-- o.m(.., k = v) -/
def tMethK (C : Addr) (m : Str) (n nk : Nat) (sp : Sp) (gV : List V → List V → List V) (E : XK) (ta : TE) (t tk : TA) : TE := fun σ H Q => ta σ H fun x H1 => ∃ a dx fs, x = .ref a ∧ H1 a = some (.ins C dx fs) ∧ fs.lookup m = none ∧
  t σ H1 fun vs H2 => tk σ H2 fun zs H3 => vs.length = n ∧ zs.length = nk ∧ sp (gV (.ref a :: vs) zs) H3 Q E
/-- .. the callee told of the frame's cells -/
def tMethKX (C : Addr) (m : Str) (n nk : Nat) (cm : List (Str × Addr)) (sc : Scope) (N : List Str) (sp : Sp) (gV : List V → List V → List V) (E : XK) (ta : TE) (t tk : TA) : TE := fun σ H Q => ta σ H fun x H1 => ∃ a dx fs, x = .ref a ∧ H1 a = some (.ins C dx fs) ∧ fs.lookup m = none ∧
  t σ H1 fun vs H2 => tk σ H2 fun zs H3 => vs.length = n ∧ zs.length = nk ∧ (CEnv cm sc N H3 → ∀ obs, sp (gV (.ref a :: vs) zs) (exC cm sc N σ obs H3) (fun v H' => Q v (delC cm H')) (fun cls d H' => E cls d (delC cm H')))
section
variable {X : Cx} {CX : CXT} {k n : Nat} {C : Addr} {m x : Str} {ps ks : List Str} {gV : List V → List V → List V} {sp : Sp} {E : XK} {apos pos p : Pos} {o e : Expr} {es : List Expr} {kws : List Keyword} {ta : TE} {t tk : TA}
theorem run_kx {pins : List (Addr × Obj)} {σ : L2.St} {H : Hp} {s : Shared} {Q : VK} {f : Addr} {fd : FuncData} {us ws : List Value} {vs zs : List V} {g : List Value → List Value → List Value} (F : FnOk X.prog X.w X.K X.mg X.base (L2.CX X.prog X.w) k f fd ps sp) (hr : Room k X.A) (hb : KBn X.K fd ps n ks g gV)
    (hx : Passes (L2.CX X.prog X.w) X E) (nd : X.N.Nodup) (hfn : ∀ y c, X.env.cells.lookup y = some c → X.fn y = true) (I : Inv X pins σ H s) (r : Vals vs us) (rz : Vals zs ws) (l1 : vs.length = n) (l2 : zs.length = ks.length)
    (q : CEnv X.env.cells X.env.scope X.N H → ∀ obs, sp (gV vs zs) (exC X.env.cells X.env.scope X.N σ obs H) (fun v H' => Q v (delC X.env.cells H')) (fun cls d H' => E cls d (delC X.env.cells H'))) :
    wpAny (model X.prog X.w) X.A (call (.ref f) us (ks.zip ws)) (EP X pins σ Q) X.xe s := by
  refine wpAny_call (codeAny_mono (run_exp (Q := Q) (E := E) I nd hfn hx fun obs e0 => ?_) fun r s' hq => ?_)
  · have q3 := q (cenv_of I nd) obs
    exact F.run X.A X.stack s _ ⟨us, ks.zip ws⟩ (g us ws) (gV vs zs) _ _ hr e0 (hb.to _ us ws I.kIn (r.length.symm.trans l1) (rz.length.symm.trans l2)) (hb.rel r rz) q3
  · cases r with
    | error e => exact hq
    | ok fl =>
      cases fl with
      | ret u => exact hq
      | next => exact False.elim hq
      | brk => exact False.elim hq
      | cont => exact False.elim hq
theorem pe_methKX {pl : Sem Bool} (he : PE X o ta) (G : MethKG X.prog X.w X.K X.mg X.base (L2.CX X.prog X.w) k C m ps n ks gV sp) (hr : Room k X.A) (hx : Passes (L2.CX X.prog X.w) X E) (nd : X.N.Nodup) (hfn : ∀ y c, X.env.cells.lookup y = some c → X.fn y = true) (ha : PA X (e :: es) t) (hkw : PK X kws tk)
    (hall : (backToKw pos (keywordEach kws X.env)).all (·.1.isSome) = true := by rfl) (hks : (backToKw pos (keywordEach kws X.env)).filterMap (·.1) = ks := by rfl)
    (hst : starEach (e :: es) X.env = (false, eval e X.env) :: starEach es X.env := by rfl)
    (hpl : ((backTo pos (starEach (e :: es) X.env)).any (·.1) || (backToKw pos (keywordEach kws X.env)).any (·.1.isNone)) = false := by rfl)
    (ht : eval (.Call (.Attribute o m apos) (e :: es) kws pos) X.env = (do
      let ov ← eval o X.env
      standAt apos.atName
      let (f, first) ← holding [ov] (getMethod ov m pl)
      callWith pos f first (backTo pos (starEach (e :: es) X.env)) (backToKw pos (keywordEach kws X.env))) := by rfl) :
    PE X (.Call (.Attribute o m apos) (e :: es) kws pos) (tMethKX C m n ks.length X.env.cells X.env.scope X.N sp gV E ta t tk) := by
  refine ⟨fun pins s σ H Q I h => ?_⟩
  obtain ⟨f, fd, g, c, hm, F, hb⟩ := G.ex
  refine PySem.W.methodCall_KW (pl := pl) (thn (he.run pins s σ H _ I h) fun u s1 ⟨x, H1, I1, rx, a, dx, fs, ex, ea, l, q⟩ => ?_) ht
  subst ex
  obtain rfl : u = Value.ref a := rx
  refine getmeth_ok I1 ea c hm l ?_
  refine PySem.W.callWith_KW (first := [.ref a]) (h₀ := X.base) I.ok.mod.kin hm.kp hall (thn (ha.run pos pins s1 σ H1 _ I1 q) fun us s2 ⟨vs, H2, I2, r, q2⟩ => ?_) hpl hst
  refine thn (hkw.run pos pins s2 σ H2 _ I2 q2) fun ws s3 ⟨zs, H3, I3, rz, l1, l2, q3⟩ => ⟨I3.kIn, ?_⟩
  rw [hks]
  exact run_kx (vs := .ref a :: vs) (us := .ref a :: us) F hr hb hx nd hfn I3 (.cons rfl r) rz (by rw [List.length_cons, l1]) l2 q3
theorem pe_methKX0 {pl : Sem Bool} (he : PE X o ta) (G : MethKG X.prog X.w X.K X.mg X.base (L2.CX X.prog X.w) k C m ps 0 ks gV sp) (hr : Room k X.A) (hx : Passes (L2.CX X.prog X.w) X E) (nd : X.N.Nodup) (hfn : ∀ y c, X.env.cells.lookup y = some c → X.fn y = true) (hkw : PK X kws tk)
    (hall : (backToKw pos (keywordEach kws X.env)).all (·.1.isSome) = true := by rfl) (hks : (backToKw pos (keywordEach kws X.env)).filterMap (·.1) = ks := by rfl)
    (hpl : ((backTo pos (starEach [] X.env)).any (·.1) || (backToKw pos (keywordEach kws X.env)).any (·.1.isNone)) = false := by rfl)
    (ht : eval (.Call (.Attribute o m apos) [] kws pos) X.env = (do
      let ov ← eval o X.env
      standAt apos.atName
      let (f, first) ← holding [ov] (getMethod ov m pl)
      callWith pos f first (backTo pos (starEach [] X.env)) (backToKw pos (keywordEach kws X.env))) := by rfl) :
    PE X (.Call (.Attribute o m apos) [] kws pos) (tMethKX C m 0 ks.length X.env.cells X.env.scope X.N sp gV E ta tNil tk) := by
  refine ⟨fun pins s σ H Q I h => ?_⟩
  obtain ⟨f, fd, g, c, hm, F, hb⟩ := G.ex
  refine PySem.W.methodCall_KW (pl := pl) (thn (he.run pins s σ H _ I h) fun u s1 ⟨x, H1, I1, rx, a, dx, fs, ex, ea, l, q⟩ => ?_) ht
  subst ex
  obtain rfl : u = Value.ref a := rx
  refine getmeth_ok I1 ea c hm l ?_
  refine PySem.W.callWith_KW0 (first := [.ref a]) (h₀ := X.base) I.ok.mod.kin hm.kp hall (thn (hkw.run pos pins s1 σ H1 _ I1 q) fun ws s3 ⟨zs, H3, I3, rz, l1, l2, q3⟩ => ⟨I3.kIn, ?_⟩) hpl
  rw [hks]
  exact run_kx (vs := [.ref a]) (us := [.ref a]) F hr hb hx nd hfn I3 (.cons rfl .nil) rz rfl l2 q3
end
section
variable {X : Cx} {CX : CXT} {k n : Nat} {C : Addr} {m x : Str} {ps ks : List Str} {gV : List V → List V → List V} {sp : Sp} {E : XK} {apos pos p : Pos} {o e : Expr} {es : List Expr} {kws : List Keyword} {ta : TE} {t tk : TA}
theorem run_k {pins : List (Addr × Obj)} {σ : L2.St} {H : Hp} {s : Shared} {Q : VK} {f : Addr} {fd : FuncData} {us ws : List Value} {vs zs : List V} {g : List Value → List Value → List Value} (F : FnOk X.prog X.w X.K X.mg X.base CX k f fd ps sp) (hr : Room k X.A) (hb : KBn X.K fd ps n ks g gV)
    (hx : Passes CX X E) (I : Inv X pins σ H s) (r : Vals vs us) (rz : Vals zs ws) (l1 : vs.length = n) (l2 : zs.length = ks.length) (q : sp (gV vs zs) H Q E) :
    wpAny (model X.prog X.w) X.A (call (.ref f) us (ks.zip ws)) (EP X pins σ Q) X.xe s := by
  refine wpAny_call (codeAny_mono (F.run X.A X.stack s _ ⟨us, ks.zip ws⟩ (g us ws) (gV vs zs) _ _ hr I.env0 (hb.to _ us ws I.kIn (r.length.symm.trans l1) (rz.length.symm.trans l2)) (hb.rel r rz) q) fun r s' hq => ?_)
  cases r with
  | error e => exact hx pins σ H s e s' I hq
  | ok fl =>
    cases fl with
    | ret u => exact I.after hq
    | next => exact False.elim hq
    | brk => exact False.elim hq
    | cont => exact False.elim hq
theorem pe_methK {pl : Sem Bool} (he : PE X o ta) (G : MethKG X.prog X.w X.K X.mg X.base CX k C m ps n ks gV sp) (hr : Room k X.A) (hx : Passes CX X E) (ha : PA X (e :: es) t) (hkw : PK X kws tk)
    (hall : (backToKw pos (keywordEach kws X.env)).all (·.1.isSome) = true := by rfl) (hks : (backToKw pos (keywordEach kws X.env)).filterMap (·.1) = ks := by rfl)
    (hst : starEach (e :: es) X.env = (false, eval e X.env) :: starEach es X.env := by rfl)
    (hpl : ((backTo pos (starEach (e :: es) X.env)).any (·.1) || (backToKw pos (keywordEach kws X.env)).any (·.1.isNone)) = false := by rfl)
    (ht : eval (.Call (.Attribute o m apos) (e :: es) kws pos) X.env = (do
      let ov ← eval o X.env
      standAt apos.atName
      let (f, first) ← holding [ov] (getMethod ov m pl)
      callWith pos f first (backTo pos (starEach (e :: es) X.env)) (backToKw pos (keywordEach kws X.env))) := by rfl) :
    PE X (.Call (.Attribute o m apos) (e :: es) kws pos) (tMethK C m n ks.length sp gV E ta t tk) := by
  refine ⟨fun pins s σ H Q I h => ?_⟩
  obtain ⟨f, fd, g, c, hm, F, hb⟩ := G.ex
  refine PySem.W.methodCall_KW (pl := pl) (thn (he.run pins s σ H _ I h) fun u s1 ⟨x, H1, I1, rx, a, dx, fs, ex, ea, l, q⟩ => ?_) ht
  subst ex
  obtain rfl : u = Value.ref a := rx
  refine getmeth_ok I1 ea c hm l ?_
  refine PySem.W.callWith_KW (first := [.ref a]) (h₀ := X.base) I.ok.mod.kin hm.kp hall (thn (ha.run pos pins s1 σ H1 _ I1 q) fun us s2 ⟨vs, H2, I2, r, q2⟩ => ?_) hpl hst
  refine thn (hkw.run pos pins s2 σ H2 _ I2 q2) fun ws s3 ⟨zs, H3, I3, rz, l1, l2, q3⟩ => ⟨I3.kIn, ?_⟩
  rw [hks]
  exact run_k (vs := .ref a :: vs) (us := .ref a :: us) F hr hb hx I3 (.cons rfl r) rz (by rw [List.length_cons, l1]) l2 q3
theorem pe_methK0 {pl : Sem Bool} (he : PE X o ta) (G : MethKG X.prog X.w X.K X.mg X.base CX k C m ps 0 ks gV sp) (hr : Room k X.A) (hx : Passes CX X E) (hkw : PK X kws tk)
    (hall : (backToKw pos (keywordEach kws X.env)).all (·.1.isSome) = true := by rfl) (hks : (backToKw pos (keywordEach kws X.env)).filterMap (·.1) = ks := by rfl)
    (hpl : ((backTo pos (starEach [] X.env)).any (·.1) || (backToKw pos (keywordEach kws X.env)).any (·.1.isNone)) = false := by rfl)
    (ht : eval (.Call (.Attribute o m apos) [] kws pos) X.env = (do
      let ov ← eval o X.env
      standAt apos.atName
      let (f, first) ← holding [ov] (getMethod ov m pl)
      callWith pos f first (backTo pos (starEach [] X.env)) (backToKw pos (keywordEach kws X.env))) := by rfl) :
    PE X (.Call (.Attribute o m apos) [] kws pos) (tMethK C m 0 ks.length sp gV E ta tNil tk) := by
  refine ⟨fun pins s σ H Q I h => ?_⟩
  obtain ⟨f, fd, g, c, hm, F, hb⟩ := G.ex
  refine PySem.W.methodCall_KW (pl := pl) (thn (he.run pins s σ H _ I h) fun u s1 ⟨x, H1, I1, rx, a, dx, fs, ex, ea, l, q⟩ => ?_) ht
  subst ex
  obtain rfl : u = Value.ref a := rx
  refine getmeth_ok I1 ea c hm l ?_
  refine PySem.W.callWith_KW0 (first := [.ref a]) (h₀ := X.base) I.ok.mod.kin hm.kp hall (thn (hkw.run pos pins s1 σ H1 _ I1 q) fun ws s3 ⟨zs, H3, I3, rz, l1, l2, q3⟩ => ⟨I3.kIn, ?_⟩) hpl
  rw [hks]
  exact run_k (vs := [.ref a]) (us := [.ref a]) F hr hb hx I3 (.cons rfl .nil) rz rfl l2 q3
end
end Hk

set_option Elab.async false
set_option linter.all false
set_option maxRecDepth 100000
set_option maxHeartbeats 4000000
/-! Closures that can be seen through: what their bodies call is told of the heap as it is. -/
namespace Hk
open PySem PySem.Spec PySem.W PySem.Calls PyProof.Rows L2 LamX NdefX
theorem CR.imp {P : Program} {w : World} {outer : List Env} {H : Hp} {s s' : Shared} {Q Q' : VK} {E E' : XK} {r : Result} (hq : ∀ v H', Q v H' → Q' v H') (he : ∀ c d H', E c d H' → E' c d H') (h : CR (L2.CX P w) outer P w H s Q E r s') : CR (L2.CX P w) outer P w H s Q' E' r s' := by
  cases r with
  | ok fl =>
    cases fl with
    | ret u =>
      obtain ⟨v, H', os, bare, un, hok, rv, q⟩ := (show CE outer P w H s Q u s' from h)
      exact (show CE outer P w H s Q' u s' from ⟨v, H', os, bare, un, hok, rv, hq _ _ q⟩)
    | next => exact False.elim h
    | brk => exact False.elim h
    | cont => exact False.elim h
  | error e =>
    obtain ⟨a, B, H', cls, d, ea, fl, hok, ub, na, os, bare, q⟩ := (show L2.CX P w outer H s E e s' from h)
    exact (show L2.CX P w outer H s E' e s' from ⟨a, B, H', cls, d, ea, fl, hok, ub, na, os, bare, he _ _ _ q⟩)
section
variable {X : Cx} {pins : List (Addr × Obj)} {σ : L2.St} {H : Hp} {s : Shared}
theorem run_expFU {Q : VK} {E : XK} {c : Code} (I : Inv X pins σ H s) (nd : X.N.Nodup) (hout : ∀ a, InC X.env.cells a → X.base.get? a = none ∧ a ∉ X.fs) (hx : Passes (L2.CX X.prog X.w) X E)
    (h : ∀ obs, (∀ a, InC X.env.cells a → s.heap.get? a = some (obs a)) → Env0 X.prog X.w X.K X.mg X.base X.A X.stack s (exC X.env.cells X.env.scope X.N σ obs H) → codeAny (model X.prog X.w) X.A c (CR (L2.CX X.prog X.w) X.stack X.prog X.w (exC X.env.cells X.env.scope X.N σ obs H) s (fun v H' => (∀ b o u, exC X.env.cells X.env.scope X.N σ obs H b = some (.frz o u) → H' b = some (.frz o u)) → (∀ a, InC X.env.cells a → exC X.env.cells X.env.scope X.N σ obs H a = none → H' a = none) → Q v (delC X.env.cells H')) (fun cls d H' => (∀ b o u, exC X.env.cells X.env.scope X.N σ obs H b = some (.frz o u) → H' b = some (.frz o u)) → (∀ a, InC X.env.cells a → exC X.env.cells X.env.scope X.N σ obs H a = none → H' a = none) → E cls d (delC X.env.cells H'))) s) :
    codeAny (model X.prog X.w) X.A c (fun r s' => match r with
      | .ok (.ret u) => EP X pins σ Q u s'
      | .ok _ => False
      | .error e => X.xe e s') s := by
  have C := cenv_of I nd
  obtain ⟨obs, hobs⟩ : ∃ obs : Addr → Obj, ∀ a, InC X.env.cells a → s.heap.get? a = some (obs a) := by
    refine ⟨fun a => (s.heap.get? a).getD default, fun a ⟨y, e⟩ => ?_⟩
    obtain ⟨v, o, ho, _⟩ := I.cell y a e
    show s.heap.get? a = some ((s.heap.get? a).getD default)
    rw [ho]; rfl
  have inC : ∀ {a v}, cellV X.env.cells X.env.scope X.N σ a = some v → InC X.env.cells a := fun {a v} e => by
    obtain ⟨i, y, _, e2, _⟩ := cellV_some e
    exact ⟨y, e2⟩
  have okc : ∀ {a v}, cellV X.env.cells X.env.scope X.N σ a = some v → ∃ u, L2.RelV v u ∧ (obs a).data = .cell (some u) := fun {a v} e => by
    obtain ⟨i, y, e1, e2, e3, kc⟩ := cellV_some e
    have ho := hobs a ⟨y, e2⟩
    obtain ⟨m, hn, hl⟩ := I.loc
    obtain ⟨u, r, l⟩ := hl i y v e1 e3 (kc.elim (fun z => .inr (.inl z)) fun z => .inr (.inr z))
    rcases l with ⟨k, _⟩ | ⟨_, c, hc, o, ho', hd'⟩
    · have k' : X.env.scope.names.lookup y = some .local := k
      rcases kc with z | z <;> rw [z] at k' <;> cases k'
    · rw [e2] at hc; cases hc
      rw [ho] at ho'; cases ho'
      exact ⟨u, r, hd'⟩
  have nfr : ∀ a, InC X.env.cells a → a ∉ frs X.stack := fun a z hb => by
    rcases List.mem_cons.mp (I.stkSub a hb) with e | e
    · obtain ⟨y, hy⟩ := z
      exact I.cne y a hy e
    · exact (hout a z).2 e
  have hokX : HOk X.prog X.w (exC X.env.cells X.env.scope X.N σ obs H) s.heap := fun a o e => by
    cases q : cellV X.env.cells X.env.scope X.N σ a with
    | some v =>
      rw [exC_some q] at e
      cases e
      obtain ⟨u, r, d⟩ := okc q
      exact cellO_ok r (hobs a (inC q)) d
    | none =>
      rw [exC_none q] at e
      exact (I.hok a o e).stay (fun _ _ _ q => q) (fun b q => C.same _ _ q) fun b xs q => C.same _ _ q
  have e1 : Env0 X.prog X.w X.K X.mg X.base X.A X.stack s (exC X.env.cells X.env.scope X.N σ obs H) := by
    have e0 := I.env0
    refine ⟨e0.frames, e0.mod, fun b o e => ⟨(e0.bs b o e).1, ?_⟩, e0.bsz, e0.funs, fun b hb => ?_, hokX, e0.bare⟩
    · rw [exC_out (fun z => ?_)]
      · exact (e0.bs b o e).2
      · rw [(hout b z).1] at e; cases e
    · rw [exC_out (fun z => nfr b z hb)]
      exact e0.frf b hb
  refine codeAny_mono (h obs hobs e1) fun r s' hq => ?_
  /- behind it -/
  have cellK : ∀ {H' : Hp} {h' : Heap}, HOk X.prog X.w H' h' → (∀ b o u, exC X.env.cells X.env.scope X.N σ obs H b = some (.frz o u) → H' b = some (.frz o u)) → ∀ a v, cellV X.env.cells X.env.scope X.N σ a = some v → h'.get? a = some (obs a) := fun {H' h'} hok fz a v q => by
    have := fz a _ _ (exC_some q)
    exact (cellO_at (hok a _ (show H' a = some (CellO a v (obs a)) from this))).1
  have hokD : ∀ {H' : Hp} {h' : Heap}, HOk X.prog X.w H' h' → (∀ b o u, exC X.env.cells X.env.scope X.N σ obs H b = some (.frz o u) → H' b = some (.frz o u)) → (∀ b o, s.heap.get? b = some o → exC X.env.cells X.env.scope X.N σ obs H b = none → H' b = none) → HOk X.prog X.w (delC X.env.cells H') h' := fun {H' h'} hok fz fr0 a o e => by
    have na : ¬ InC X.env.cells a := fun z => by rw [delC_in z] at e; cases e
    rw [delC_out na] at e
    have st : ∀ b o, H' b = some o → (∀ ob u, o ≠ .frz ob u) → delC X.env.cells H' b = some o := fun b o q nf => by
      rw [delC_out (fun z => ?_)]
      · exact q
      · cases qq : cellV X.env.cells X.env.scope X.N σ b with
        | some v =>
          have := fz b _ _ (exC_some qq)
          rw [q] at this
          exact nf _ _ (Option.some.inj this)
        | none =>
          have := fr0 b _ (hobs b z) (by rw [exC_none qq]; exact C.free b z)
          rw [q] at this; cases this
    exact (hok a o e).stay (fun _ _ _ q => q) (fun b q => st b _ q (fun _ _ z => by cases z)) fun b xs q => st b _ q (fun _ _ z => by cases z)
  cases r with
  | ok fl =>
    cases fl with
    | ret u =>
      obtain ⟨v, H', os, bare, un, hok, rv, q⟩ := (show CE X.stack X.prog X.w (exC X.env.cells X.env.scope X.N σ obs H) s _ u s' from hq)
      have un2 : Un (frs X.stack) [] H (delC X.env.cells H') s.heap s'.heap := by
        refine ⟨fun b o e n hb hx => ?_, fun b o e n hb hx => ?_, fun b o e n hx => ?_, un.there, fun b xs e => ?_, fun b o x e => ?_, fun b ps e => ?_⟩
        · cases qq : cellV X.env.cells X.env.scope X.N σ b with
          | some w =>
            have h1 := cellK hok un.frzs b w qq
            rw [hobs b (inC qq)] at e
            cases e; exact h1
          | none => exact un.keep b o e (by rw [exC_none qq]; exact n) hb hx
        · exact un.slot b o e (by rw [exC_out (fun z => nfr b z hb)]; exact n) hb hx
        · by_cases z : InC X.env.cells b
          · exact delC_in z
          · rw [delC_out z]; exact un.free b o e (by rw [exC_out z]; exact n) hx
        · rw [delC_out (C.out e)]; exact un.tups b xs (C.same _ _ e)
        · rw [delC_out (C.out e)]; exact un.frzs b o x (C.same _ _ e)
        · rw [delC_out (C.out e)]; exact un.tbls b ps (C.same _ _ e)
      exact I.after ⟨v, delC X.env.cells H', os, bare, un2, hokD hok un.frzs (fun b o e n => un.free b o e n (by simp)), rv, q un.frzs (fun a z n => un.free a _ (hobs a z) n (by simp))⟩
    | next => exact False.elim hq
    | brk => exact False.elim hq
    | cont => exact False.elim hq
  | error e =>
    obtain ⟨a, B, H', cls, d, ea, fl, hok, ub, na, os, bare, q⟩ := (show L2.CX X.prog X.w X.stack (exC X.env.cells X.env.scope X.N σ obs H) s _ e s' from hq)
    have ub2 : UB (frs X.stack) H (delC X.env.cells H') s.heap B s'.heap := by
      refine ⟨fun b o e n hb => ?_, ub.slot, fun b o e n => ?_, ub.there, fun b xs e => ?_, fun b o x e => ?_, fun b ps e => ?_⟩
      · cases qq : cellV X.env.cells X.env.scope X.N σ b with
        | some w =>
          have h1 := cellK hok ub.frzs b w qq
          rw [hobs b (inC qq)] at e
          cases e; exact h1
        | none => exact ub.keep b o e (by rw [exC_none qq]; exact n) hb
      · by_cases z : InC X.env.cells b
        · exact delC_in z
        · rw [delC_out z]; exact ub.free b o e (by rw [exC_out z]; exact n)
      · rw [delC_out (C.out e)]; exact ub.tups b xs (C.same _ _ e)
      · rw [delC_out (C.out e)]; exact ub.frzs b o x (C.same _ _ e)
      · rw [delC_out (C.out e)]; exact ub.tbls b ps (C.same _ _ e)
    refine hx pins σ H s e s' I ⟨a, B, delC X.env.cells H', cls, d, ea, fl, hokD hok ub.frzs (fun b o e n => ub.free b o e n), ub2, ?_, os, bare, q ub.frzs (fun a z n => ub.free a _ (hobs a z) n)⟩
    by_cases z : InC X.env.cells a
    · exact delC_in z
    · rw [delC_out z]; exact na
theorem run_expF {Q : VK} {E : XK} {c : Code} (I : Inv X pins σ H s) (nd : X.N.Nodup) (hout : ∀ a, InC X.env.cells a → X.base.get? a = none ∧ a ∉ X.fs) (hx : Passes (L2.CX X.prog X.w) X E)
    (h : ∀ obs, (∀ a, InC X.env.cells a → s.heap.get? a = some (obs a)) → Env0 X.prog X.w X.K X.mg X.base X.A X.stack s (exC X.env.cells X.env.scope X.N σ obs H) → codeAny (model X.prog X.w) X.A c (CR (L2.CX X.prog X.w) X.stack X.prog X.w (exC X.env.cells X.env.scope X.N σ obs H) s (fun v H' => (∀ b o u, exC X.env.cells X.env.scope X.N σ obs H b = some (.frz o u) → H' b = some (.frz o u)) → Q v (delC X.env.cells H')) (fun cls d H' => (∀ b o u, exC X.env.cells X.env.scope X.N σ obs H b = some (.frz o u) → H' b = some (.frz o u)) → E cls d (delC X.env.cells H'))) s) :
    codeAny (model X.prog X.w) X.A c (fun r s' => match r with
      | .ok (.ret u) => EP X pins σ Q u s'
      | .ok _ => False
      | .error e => X.xe e s') s := by
  refine run_expFU I nd hout hx fun obs ho e => codeAny_mono (h obs ho e) fun r s' hr => CR.imp (fun v H' g z _ => g z) (fun c d H' g z _ => g z) hr
end
abbrev FzK (G H' : Hp) : Prop := ∀ b o u, G b = some (.frz o u) → H' b = some (.frz o u)
/-- o.m(..), the callee told of the captured cells as they are -/
def tMethXF (C : Addr) (m : Str) (s0 : Shared) (cm : List (Str × Addr)) (sc : Scope) (N : List Str) (sp : Sp) (dvs : List V) (E : XK) (ta : TE) (t : TA) : TE := fun σ H Q => ta σ H fun x H1 => ∃ a dx fs, x = .ref a ∧ H1 a = some (.ins C dx fs) ∧ fs.lookup m = none ∧
  t σ H1 fun vs H2 => CEnv cm sc N H2 → ∀ obs : Addr → Obj, (∀ c o, InC cm c → s0.heap.get? c = some o → obs c = o) → sp (.ref a :: vs ++ dvs) (exC cm sc N σ obs H2) (fun v H' => FzK (exC cm sc N σ obs H2) H' → Q v (delC cm H')) (fun cls d H' => FzK (exC cm sc N σ obs H2) H' → E cls d (delC cm H'))
/-- f(..) of a function value in slot i, likewise -/
def tCallVF (P : Program) (w : World) (K : PySem.W.Frag) (mg : Str → Option Value) (base : Heap) (k i : Nat) (s0 : Shared) (cm : List (Str × Addr)) (sc : Scope) (N : List Str) (E : XK) (t : TA) : TE := fun σ H Q => ∃ f, σ[i]? = some (some (.ref f)) ∧ t σ H fun vs H2 => CEnv cm sc N H2 → ∀ obs : Addr → Obj, (∀ c o, InC cm c → s0.heap.get? c = some o → obs c = o) →
  ∃ sp, Act P w K mg base k f sp ∧ sp vs (exC cm sc N σ obs H2) (fun v H' => FzK (exC cm sc N σ obs H2) H' → Q v (delC cm H')) (fun cls d H' => FzK (exC cm sc N σ obs H2) H' → E cls d (delC cm H'))
section
variable {X : Cx} {k : Nat} {C : Addr} {m x : Str} {ps : List Str} {dvs : List V} {sp : Sp} {E : XK} {apos pos p : Pos} {o e : Expr} {es : List Expr} {ta : TE} {t : TA}
theorem obs_eq {pins : List (Addr × Obj)} {σ : L2.St} {H : Hp} {s : Shared} {obs : Addr → Obj} (I : Inv X pins σ H s) (hout : ∀ a, InC X.env.cells a → X.base.get? a = none ∧ a ∉ X.fs) (hz : ∀ a, InC X.env.cells a → X.H_0 a = none) (hex : X.ex = []) (ho : ∀ a, InC X.env.cells a → s.heap.get? a = some (obs a)) : ∀ c o, InC X.env.cells c → X.s_0.heap.get? c = some o → obs c = o := fun c o z e => by
  have := I.base.keep c o e (hz c z) (hout c z).2 (by rw [hex]; simp)
  rw [ho c z] at this
  exact Option.some.inj this
theorem pe_methXF {pl : Sem Bool} (he : PE X o ta) (G : MethG X.prog X.w X.K X.mg X.base (L2.CX X.prog X.w) k C m ps dvs sp) (hr : Room k X.A) (hx : Passes (L2.CX X.prog X.w) X E) (nd : X.N.Nodup) (hout : ∀ a, InC X.env.cells a → X.base.get? a = none ∧ a ∉ X.fs) (hz : ∀ a, InC X.env.cells a → X.H_0 a = none) (hex : X.ex = []) (ha : PA X (e :: es) t)
    (hst : starEach (e :: es) X.env = (false, eval e X.env) :: starEach es X.env := by rfl) (hpl : (backTo pos (starEach es X.env)).any (·.1) = false := by rfl)
    (ht : eval (.Call (.Attribute o m apos) (e :: es) [] pos) X.env = (do
      let ov ← eval o X.env
      standAt apos.atName
      let (f, first) ← holding [ov] (getMethod ov m pl)
      callWith pos f first (backTo pos (starEach (e :: es) X.env)) (backToKw pos (keywordEach [] X.env))) := by rfl) :
    PE X (.Call (.Attribute o m apos) (e :: es) [] pos) (tMethXF C m X.s_0 X.env.cells X.env.scope X.N sp dvs E ta t) := by
  refine ⟨fun pins s σ H Q I h => ?_⟩
  obtain ⟨f, fd, ds, c, hm, F, vd, hb⟩ := G.ex
  refine PySem.W.methodCall_KW (pl := pl) (thn (he.run pins s σ H _ I h) fun u s1 ⟨x, H1, I1, rx, a, dx, fs, ex, ea, l, q⟩ => ?_) ht
  subst ex
  obtain rfl : u = Value.ref a := rx
  refine getmeth_ok I1 ea c hm l ?_
  refine PySem.W.callWith_K (first := [.ref a]) (h₀ := X.base) I.ok.mod.kin hm.kp (thn (ha.run pos pins s1 σ H1 _ I1 q) fun us s2 ⟨vs, H2, I2, r, q2⟩ => ⟨I2.kIn, ?_⟩) hst hpl
  refine wpAny_call (codeAny_mono (run_expF (Q := Q) (E := E) I2 nd hout hx fun obs ho e0 => ?_) fun r s' hq => ?_)
  · have r2 : Vals (.ref a :: vs ++ dvs) (.ref a :: us ++ ds) := (L2.Vals.append (.cons rfl r) vd)
    have q3 := q2 (cenv_of I2 nd) obs (obs_eq I2 hout hz hex ho)
    have hl : (Value.ref a :: us ++ ds).length = ps.length := by rw [← r2.length]; exact F.len _ _ _ _ q3
    exact F.run X.A X.stack s2 _ ⟨.ref a :: us, []⟩ (.ref a :: us ++ ds) (.ref a :: vs ++ dvs) _ _ hr e0 (hb s2 (.ref a :: us) I2.kIn hl) r2 q3
  · cases r with
    | error e => exact hq
    | ok fl =>
      cases fl with
      | ret u => exact hq
      | next => exact False.elim hq
      | brk => exact False.elim hq
      | cont => exact False.elim hq
end
/-! ### the captured cells shown are those that were -/
section
variable {cl : List (Str × Addr)} {sc : Scope} {N ps fr : List Str} {σ : L2.St} {obs : Addr → Obj} {H Hf H3 : Hp} {ws : List V}
theorem exC_put (S : NScope N ps fr sc) (C : CapsAt cl fr ws Hf) (hσ : ∀ (i : Nat) v, ws[i]? = some v → σ[ps.length + i]? = some (some v)) (ho : ∀ c v ob, InC cl c → Hf c = some (CellO c v ob) → obs c = ob) : exC cl sc N σ obs H = putC cl Hf H := funext fun b => by
  by_cases z : InC cl b
  · obtain ⟨y, e⟩ := id z
    obtain ⟨i, hi⟩ := List.mem_iff_getElem?.mp (C.only y b e)
    obtain ⟨c, v, e1, e2, ob, e3⟩ := C.has i y hi
    rw [e] at e1
    cases e1
    have hil : i < fr.length := (List.getElem?_eq_some_iff.mp hi).1
    have hN : N[ps.length + i]? = some y := by
      have e : (N.take (ps.length + fr.length))[ps.length + i]? = (ps ++ fr)[ps.length + i]? := congrArg (fun l => l[ps.length + i]?) S.pre
      rw [List.getElem?_append_right (by omega), Nat.add_sub_cancel_left, hi, List.getElem?_take_of_lt (by omega)] at e
      exact e
    rw [exC_some (cellV_at S.nd C.inj ⟨ps.length + i, y, hN, e, hσ i v e2, .inr (S.frk y (List.mem_of_getElem? hi))⟩), putC_in z, e3, ho b v ob z e3]
  · rw [exC_out z, putC_out z]
theorem put_del (C : CapsAt cl fr ws Hf) (h : FzK Hf H3) : putC cl Hf (delC cl H3) = H3 := funext fun b => by
  by_cases z : InC cl b
  · obtain ⟨v, ob, e⟩ := C.tr z
    rw [putC_in z, e]
    exact (h b _ _ e).symm
  · rw [putC_out z, delC_out z]
theorem put_self : putC cl Hf (delC cl Hf) = Hf := funext fun b => by
  by_cases z : InC cl b
  · rw [putC_in z]
  · rw [putC_out z, delC_out z]
end
/-! ### a lambda told of the heap as it is -/
def spLamF (f : Addr) (L : LF) (fr : List Str) (spN : Hp → List V → Sp) : Sp := fun vs H Q E => ∃ ws, H f = some (LamO f L) ∧ H L.c = some (CodeO L.c L.qual) ∧ CapsAt L.cl fr ws H ∧ L.dT = none ∧
  spN H ws vs (delC L.cl H) (fun v H' => (∀ a, InC L.cl a → H' a = none) → Q v (putC L.cl H H')) (fun cls d H' => (∀ a, InC L.cl a → H' a = none) → E cls d (putC L.cl H H'))
section
variable {P : Program} {w : World} {K : PySem.W.Frag} {mg : Str → Option Value} {base : Heap} {N ps fr : List Str} {L : LF} {f : Addr} {k : Nat} {spN : Hp → List V → Sp}
theorem act_lamF (S : NScope N ps fr L.scope) (len : ∀ Hf ws vs H Q E, spN Hf ws vs H Q E → vs.length = ps.length)
    (hb : ∀ (pm ctv : Value) (us : List Value), us.length = ps.length → bindArgs (L.fd pm ctv) ⟨us, []⟩ = pure (ps.zip us))
    (hbody : NScope N ps fr L.scope → ∀ (A : Around) (outer : List Env) (s : Shared) (Hf : Hp) (vs ws : List V) (Q : VK) (E : XK), Room k (A.deeper (envF L.nf f s.heap.objs.size)) → CellsOut base outer L.cl → (∀ a, InC L.cl a → delC L.cl Hf a = none) → CapsAt L.cl fr ws Hf → (∀ c v ob, InC L.cl c → Hf c = some (CellO c v ob) → s.heap.get? c = some ob) → spN Hf ws vs (delC L.cl Hf) Q E →
      ∃ te, PE (ncx (L2.CX P w) P w K mg base N L.nf f A outer s (delC L.cl Hf) E) L.body te ∧ te (startF N vs (ws.map some)) (delC L.cl Hf) Q) :
    Act P w K mg base (k + 1) f (spLamF f L fr spN) := fun A outer s H us vs Q E hr e0 r h => by
  obtain ⟨ws, hf, hc, C, hd, q⟩ := h
  have lim : s.heap.NoLimit := e0.mod.nolimit.keeps fun b o e => (e0.bs b o e).1
  obtain ⟨od, sl, pm, ctv, ho⟩ := lamO_at e0.hok hf
  have out : CellsOut base outer L.cl := fun a z => by
    obtain ⟨v, ob, e⟩ := C.tr z
    refine ⟨?_, fun hb => by rw [e0.frf a hb] at e; cases e⟩
    cases y : base.get? a with
    | none => rfl
    | some o => rw [(e0.bs a o y).2] at e; cases e
  refine ⟨⟨_, od, _, sl, ho⟩, capsRun C e0 fun e1 C1 => ?_⟩
  have hl := len _ _ _ _ _ _ q
  have bd : BindsTo s (L.fd pm ctv) ⟨us, []⟩ (ps.zip us) := .of_eq (hb pm ctv us (by rw [← r.length, hl]))
  refine kla_callFunE hr.depth ho rfl S.co S.gen rfl (codeO_at e0.hok hc) (bd _ _ _ _ ?_)
  refine wpAny_newFunctionEnv S.nocell (fun ⟨n, _⟩ hy => S.par n (List.of_mem_zip hy).1) (fun h₁ hns hsb => ⟨lim.fresh _ hsb, ?_⟩) S.kind
  show codeAny _ _ (.expr L.body (envF L.nf f s.heap.objs.size)) _ _
  have kp : ∀ b o, s.heap.get? b = some o → h₁.get? b = some o := fun b o e => hsb.extBut b o (Nat.ne_of_lt (Heap.lt_size e)) (Heap.get?_push_of_some _ e)
  obtain ⟨te, ht, hq⟩ := hbody S A outer s H vs ws _ _ (hr.deeper _) out (fun a z => delC_in z) C (fun c v ob z e => (cellO_at (e0.hok c _ e)).1) q
  have I := inv_startN (CX := L2.CX P w) (F := L.nf) (f := f) (A := A) (E := fun cls d H' => (∀ a, InC L.cl a → H' a = none) → E cls d (putC L.cl H H')) (tk := s.toks + (ps.zip us).length) S hr.hd e1 hl r C1 hns kp
  refine kla_codeExpr (wpAny_mono (ht.run [] _ _ _ _ I hq) (fun v s' hs => ?_) fun e s' hs => hs)
  obtain ⟨v, H', J, rv, q⟩ := hs
  exact ⟨v, H', J.os, J.bare, J.base, J.hok, rv, q⟩
end
end Hk

set_option Elab.async false
set_option linter.all false
set_option maxRecDepth 100000
set_option maxHeartbeats 4000000
/-! A function value is called, told of the frame's cells as they are. -/
namespace Hk
open PySem PySem.Spec PySem.W PySem.Calls PyProof.Rows L2 LamX NdefX
section
variable {X : Cx} {pins : List (Addr × Obj)} {σ : L2.St} {H : Hp} {s : Shared}
theorem env_expF (I : Inv X pins σ H s) (nd : X.N.Nodup) (hout : ∀ a, InC X.env.cells a → X.base.get? a = none ∧ a ∉ X.fs) :
    ∃ obs, (∀ a, InC X.env.cells a → s.heap.get? a = some (obs a)) ∧ Env0 X.prog X.w X.K X.mg X.base X.A X.stack s (exC X.env.cells X.env.scope X.N σ obs H) := by
  have C := cenv_of I nd
  obtain ⟨obs, hobs⟩ : ∃ obs : Addr → Obj, ∀ a, InC X.env.cells a → s.heap.get? a = some (obs a) := by
    refine ⟨fun a => (s.heap.get? a).getD default, fun a ⟨y, e⟩ => ?_⟩
    obtain ⟨v, o, ho, _⟩ := I.cell y a e
    show s.heap.get? a = some ((s.heap.get? a).getD default)
    rw [ho]; rfl
  have inC : ∀ {a v}, cellV X.env.cells X.env.scope X.N σ a = some v → InC X.env.cells a := fun {a v} e => by
    obtain ⟨i, y, _, e2, _⟩ := cellV_some e
    exact ⟨y, e2⟩
  have okc : ∀ {a v}, cellV X.env.cells X.env.scope X.N σ a = some v → ∃ u, L2.RelV v u ∧ (obs a).data = .cell (some u) := fun {a v} e => by
    obtain ⟨i, y, e1, e2, e3, kc⟩ := cellV_some e
    have ho := hobs a ⟨y, e2⟩
    obtain ⟨m, hn, hl⟩ := I.loc
    obtain ⟨u, r, l⟩ := hl i y v e1 e3 (kc.elim (fun z => .inr (.inl z)) fun z => .inr (.inr z))
    rcases l with ⟨k, _⟩ | ⟨_, c, hc, o, ho', hd'⟩
    · have k' : X.env.scope.names.lookup y = some .local := k
      rcases kc with z | z <;> rw [z] at k' <;> cases k'
    · rw [e2] at hc; cases hc
      rw [ho] at ho'; cases ho'
      exact ⟨u, r, hd'⟩
  have nfr : ∀ a, InC X.env.cells a → a ∉ frs X.stack := fun a z hb => by
    rcases List.mem_cons.mp (I.stkSub a hb) with e | e
    · obtain ⟨y, hy⟩ := z
      exact I.cne y a hy e
    · exact (hout a z).2 e
  have hokX : HOk X.prog X.w (exC X.env.cells X.env.scope X.N σ obs H) s.heap := fun a o e => by
    cases q : cellV X.env.cells X.env.scope X.N σ a with
    | some v =>
      rw [exC_some q] at e
      cases e
      obtain ⟨u, r, d⟩ := okc q
      exact cellO_ok r (hobs a (inC q)) d
    | none =>
      rw [exC_none q] at e
      exact (I.hok a o e).stay (fun _ _ _ q => q) (fun b q => C.same _ _ q) fun b xs q => C.same _ _ q
  have e1 : Env0 X.prog X.w X.K X.mg X.base X.A X.stack s (exC X.env.cells X.env.scope X.N σ obs H) := by
    have e0 := I.env0
    refine ⟨e0.frames, e0.mod, fun b o e => ⟨(e0.bs b o e).1, ?_⟩, e0.bsz, e0.funs, fun b hb => ?_, hokX, e0.bare⟩
    · rw [exC_out (fun z => ?_)]
      · exact (e0.bs b o e).2
      · rw [(hout b z).1] at e; cases e
    · rw [exC_out (fun z => nfr b z hb)]
      exact e0.frf b hb
  exact ⟨obs, hobs, e1⟩
theorem run_actF {k : Nat} {E : XK} {Q : VK} {f : Addr} {us : List Value} {vs : List V} (hr : Room k X.A) (hx : Passes (L2.CX X.prog X.w) X E) (nd : X.N.Nodup) (hout : ∀ a, InC X.env.cells a → X.base.get? a = none ∧ a ∉ X.fs) (hz : ∀ a, InC X.env.cells a → X.H_0 a = none) (hex : X.ex = []) (I : Inv X pins σ H s) (r : Vals vs us)
    (q : CEnv X.env.cells X.env.scope X.N H → ∀ obs : Addr → Obj, (∀ c o, InC X.env.cells c → X.s_0.heap.get? c = some o → obs c = o) →
      ∃ sp, Act X.prog X.w X.K X.mg X.base k f sp ∧ sp vs (exC X.env.cells X.env.scope X.N σ obs H) (fun v H' => FzK (exC X.env.cells X.env.scope X.N σ obs H) H' → Q v (delC X.env.cells H')) (fun cls d H' => FzK (exC X.env.cells X.env.scope X.N σ obs H) H' → E cls d (delC X.env.cells H'))) :
    PySem.W.FnAt f s.heap ∧ wpAny (model X.prog X.w) X.A (call (.ref f) us) (EP X pins σ Q) X.xe s := by
  have C := cenv_of I nd
  obtain ⟨obs, hobs, e1⟩ := env_expF I nd hout
  obtain ⟨sp, ac, q1⟩ := q C obs (obs_eq I hout hz hex hobs)
  refine ⟨(ac X.A X.stack s _ us vs _ _ hr e1 r q1).1, wpAny_call (codeAny_mono (run_expF (Q := Q) (E := E) I nd hout hx fun obs ho e0 => ?_) fun r s' hq => ?_)⟩
  · obtain ⟨sp, ac, q1⟩ := q C obs (obs_eq I hout hz hex ho)
    exact (ac X.A X.stack s _ us vs _ _ hr e0 r q1).2
  · cases r with
    | error e => exact hq
    | ok fl =>
      cases fl with
      | ret u => exact hq
      | next => exact False.elim hq
      | brk => exact False.elim hq
      | cont => exact False.elim hq
end
section
variable {X : Cx} {k i : Nat} {x : Str} {E : XK} {p pos : Pos} {e : Expr} {es : List Expr} {t : TA}
/-- f(..) of a function value in slot i -/
theorem pe_callVF (hr : Room k X.A) (hx : Passes (L2.CX X.prog X.w) X E) (nd : X.N.Nodup) (hout : ∀ a, InC X.env.cells a → X.base.get? a = none ∧ a ∉ X.fs) (hz : ∀ a, InC X.env.cells a → X.H_0 a = none) (hex : X.ex = []) (hN : X.N[i]? = some x) (hv : Vis X.env.scope x) (ha : PA X (e :: es) t)
    (hd : (x == ("__debug__" : Str)) = false := by decide) (hcd : (x == ("__classdict__" : Str)) = false := by decide)
    (he : starEach (e :: es) X.env = (false, eval e X.env) :: starEach es X.env := by rfl) (hpl : (backTo pos (starEach es X.env)).any (·.1) = false := by rfl) :
    PE X (.Call (.Name x p) (e :: es) [] pos) (tCallVF X.prog X.w X.K X.mg X.base k i X.s_0 X.env.cells X.env.scope X.N E t) := by
  refine ⟨fun pins s σ H Q I h => ?_⟩
  obtain ⟨f, hs, ht⟩ := h
  refine wpAny_Call_Name_kw (thn ((pe_var (pos := p) hN hv hd hcd).run pins s σ H (fun v H1 => v = .ref f ∧ H1 = H) I ⟨.ref f, hs, rfl, rfl⟩) fun u s1 ⟨v, H1, I1, r1, q1⟩ => ?_)
  obtain ⟨ev, eH⟩ := q1
  subst ev
  rw [eH] at I1
  obtain rfl : u = Value.ref f := r1
  have h := thn (ha.run pos pins s1 σ H _ I1 ht) fun us s2 ⟨vs, H2, I2, r, q⟩ => run_actF (Q := Q) hr hx nd hout hz hex I2 r q
  show wpAny _ _ (callWith pos (.ref f) [] (backTo pos (starEach (e :: es) X.env)) []) _ _ _
  rw [he] at h ⊢
  exact PySem.W.callWith_of (by show ((false || (backTo pos (starEach es X.env)).any (·.1)) || false) = false; rw [hpl]; rfl) PySem.W.keeps_F (PySem.Calls.evalArgs_plain h)
theorem pe_callVF0 (hr : Room k X.A) (hx : Passes (L2.CX X.prog X.w) X E) (nd : X.N.Nodup) (hout : ∀ a, InC X.env.cells a → X.base.get? a = none ∧ a ∉ X.fs) (hz : ∀ a, InC X.env.cells a → X.H_0 a = none) (hex : X.ex = []) (hN : X.N[i]? = some x) (hv : Vis X.env.scope x)
    (hd : (x == ("__debug__" : Str)) = false := by decide) (hcd : (x == ("__classdict__" : Str)) = false := by decide) :
    PE X (.Call (.Name x p) [] [] pos) (tCallVF X.prog X.w X.K X.mg X.base k i X.s_0 X.env.cells X.env.scope X.N E tNil) := by
  refine ⟨fun pins s σ H Q I h => ?_⟩
  obtain ⟨f, hs, q⟩ := h
  refine wpAny_Call_Name_kw (thn ((pe_var (pos := p) hN hv hd hcd).run pins s σ H (fun v H1 => v = .ref f ∧ H1 = H) I ⟨.ref f, hs, rfl, rfl⟩) fun u s1 ⟨v, H1, I1, r1, q1⟩ => ?_)
  obtain ⟨ev, eH⟩ := q1
  subst ev
  rw [eH] at I1
  obtain rfl : u = Value.ref f := r1
  obtain ⟨z, c⟩ := run_actF (Q := Q) hr hx nd hout hz hex I1 .nil q
  exact PySem.W.callWith_F0 (first := []) z c
theorem pe_callVFK {P : Program} {w : World} {K : PySem.W.Frag} {mg : Str → Option Value} {base : Heap} (e1 : X.prog = P) (e2 : X.w = w) (e3 : X.K = K) (e4 : X.mg = mg) (e5 : X.base = base) (hr : Room k X.A) (hx : Passes (L2.CX X.prog X.w) X E) (nd : X.N.Nodup) (hout : ∀ a, InC X.env.cells a → X.base.get? a = none ∧ a ∉ X.fs) (hz : ∀ a, InC X.env.cells a → X.H_0 a = none) (hex : X.ex = []) (hN : X.N[i]? = some x) (hv : Vis X.env.scope x) (ha : PA X (e :: es) t)
    (hd : (x == ("__debug__" : Str)) = false := by decide) (hcd : (x == ("__classdict__" : Str)) = false := by decide)
    (he : starEach (e :: es) X.env = (false, eval e X.env) :: starEach es X.env := by rfl) (hpl : (backTo pos (starEach es X.env)).any (·.1) = false := by rfl) :
    PE X (.Call (.Name x p) (e :: es) [] pos) (tCallVF P w K mg base k i X.s_0 X.env.cells X.env.scope X.N E t) := by
  subst e1 e2 e3 e4 e5
  exact pe_callVF hr hx nd hout hz hex hN hv ha hd hcd he hpl
theorem pe_callVF0K {P : Program} {w : World} {K : PySem.W.Frag} {mg : Str → Option Value} {base : Heap} (e1 : X.prog = P) (e2 : X.w = w) (e3 : X.K = K) (e4 : X.mg = mg) (e5 : X.base = base) (hr : Room k X.A) (hx : Passes (L2.CX X.prog X.w) X E) (nd : X.N.Nodup) (hout : ∀ a, InC X.env.cells a → X.base.get? a = none ∧ a ∉ X.fs) (hz : ∀ a, InC X.env.cells a → X.H_0 a = none) (hex : X.ex = []) (hN : X.N[i]? = some x) (hv : Vis X.env.scope x)
    (hd : (x == ("__debug__" : Str)) = false := by decide) (hcd : (x == ("__classdict__" : Str)) = false := by decide) :
    PE X (.Call (.Name x p) [] [] pos) (tCallVF P w K mg base k i X.s_0 X.env.cells X.env.scope X.N E tNil) := by
  subst e1 e2 e3 e4 e5
  exact pe_callVF0 hr hx nd hout hz hex hN hv hd hcd
end
end Hk

set_option Elab.async false
set_option linter.all false
set_option maxRecDepth 100000
set_option maxHeartbeats 4000000
/-! A nested def told of the heap as it is. -/
namespace Hk
open PySem PySem.Spec PySem.W PySem.Calls PyProof.Rows L2 LamX NdefX
def spCloF (f : Addr) (F : NF) (fr : List Str) (spN : Hp → List V → Sp) : Sp := fun vs H Q E => ∃ ws, H f = some (FnO f F) ∧ H F.c = some (CodeO F.c F.qual) ∧ CapsAt F.cl fr ws H ∧
  spN H ws vs (delC F.cl H) (fun v H' => (∀ a, InC F.cl a → H' a = none) → Q v (putC F.cl H H')) (fun cls d H' => (∀ a, InC F.cl a → H' a = none) → E cls d (putC F.cl H H'))
section
variable {P : Program} {w : World} {K : PySem.W.Frag} {mg : Str → Option Value} {base : Heap} {N ps fr : List Str} {F : NF} {f : Addr} {k : Nat} {spN : Hp → List V → Sp}
theorem act_cloF (S : NScope N ps fr F.scope) (len : ∀ Hf ws vs H Q E, spN Hf ws vs H Q E → vs.length = ps.length)
    (hb : ∀ (doc pm ctv : Value) (us : List Value), us.length = ps.length → bindArgs (F.fd doc pm ctv) ⟨us, []⟩ = pure (ps.zip us))
    (hbody : ∀ (A : Around) (outer : List Env) (s : Shared) (Hf : Hp) (vs ws : List V) (Q : VK) (E : XK), Room k (A.deeper (envF F f s.heap.objs.size)) → CellsOut base outer F.cl → (∀ a, InC F.cl a → delC F.cl Hf a = none) → CapsAt F.cl fr ws Hf → (∀ c v ob, InC F.cl c → Hf c = some (CellO c v ob) → s.heap.get? c = some ob) → spN Hf ws vs (delC F.cl Hf) Q E →
      ∃ t, PSs (ncx (L2.CX P w) P w K mg base N F f A outer s (delC F.cl Hf) E) F.body t ∧ t { nx := fun _ H2 => Q .non H2, rt := Q } (startF N vs (ws.map some)) (delC F.cl Hf)) :
    Act P w K mg base (k + 1) f (spCloF f F fr spN) := fun A outer s H us vs Q E hr e0 r h => by
  obtain ⟨ws, hf, hc, C, q⟩ := h
  have nolim : s.heap.NoLimit := e0.mod.nolimit.keeps fun b o z => (e0.bs b o z).1
  obtain ⟨od, sl, doc, pm, ctv, ho⟩ := fnO_at e0.hok hf
  have out : CellsOut base outer F.cl := fun a z => by
    obtain ⟨v, ob, e⟩ := C.tr z
    refine ⟨?_, fun hb => by rw [e0.frf a hb] at e; cases e⟩
    cases y : base.get? a with
    | none => rfl
    | some o => rw [(e0.bs a o y).2] at e; cases e
  refine ⟨⟨_, od, _, sl, ho⟩, capsRun C e0 fun e1 C1 => ?_⟩
  have hl := len _ _ _ _ _ _ q
  refine codeAny_call_function hr.depth ho rfl S.co S.gen rfl (codeO_at e0.hok hc) ?_
  rw [hb doc pm ctv us (r.length ▸ hl)]
  refine wpAny_pure (wpAny_newFunctionEnv S.nocell (fun ⟨y, _⟩ hy => S.par y (List.of_mem_zip hy).1) (fun g hns hsb => ⟨nolim.fresh _ hsb, ?_⟩) S.kind)
  show codeAny _ _ (.func F.body (envF F f s.heap.objs.size)) _ _
  have kp : ∀ b o, s.heap.get? b = some o → g.get? b = some o := fun b o z => hsb.extBut b o (Nat.ne_of_lt (Heap.lt_size z)) (Heap.get?_push_of_some _ z)
  obtain ⟨t, ht, hq⟩ := hbody A outer s H vs ws _ _ (hr.deeper _) out (fun a z => delC_in z) C (fun c v ob z e => (cellO_at (e0.hok c _ e)).1) q
  have I := inv_startN (CX := L2.CX P w) (F := F) (f := f) (A := A) (E := fun cls d H' => (∀ a, InC F.cl a → H' a = none) → E cls d (putC F.cl H H')) (tk := s.toks + (ps.zip us).length) S hr.hd e1 hl r C1 hns kp
  refine codeAny_func (wpAny_mono (ht.run [] _ _ _ _ I hq) (fun fl s2 hs => ?_) fun e s2 hs => hs)
  cases fl with
  | ret u =>
    obtain ⟨v, σ2, H2, J, r2, q⟩ := hs
    exact ⟨v, H2, J.os, J.bare, J.base, J.hok, r2, q⟩
  | next =>
    obtain ⟨σ2, H2, J, q⟩ := hs
    exact ⟨V.non, H2, J.os, J.bare, J.base, J.hok, rfl, q⟩
  | brk => exact hs.elim fun _ z => z.elim fun _ y => y.2.elim
  | cont => exact hs.elim fun _ z => z.elim fun _ y => y.2.elim
end
/-! ### a function value called in a frame with cells of its own alone (a law) -/
/-- what is behind a call that was told of the cells cm: what is frozen stays, the cells that were not told are still none -/
structure FzU (cm : List (Str × Addr)) (G H' : Hp) : Prop where
  fz : FzK G H'
  un : ∀ a, InC cm a → G a = none → H' a = none
def tCallVO (P : Program) (w : World) (K : PySem.W.Frag) (mg : Str → Option Value) (base : Heap) (k i : Nat) (cm : List (Str × Addr)) (sc : Scope) (N : List Str) (E : XK) (t : TA) : TE := fun σ H Q => ∃ f, σ[i]? = some (some (.ref f)) ∧ t σ H fun vs H2 => CEnv cm sc N H2 → ∀ obs : Addr → Obj,
  ∃ sp, Act P w K mg base k f sp ∧ sp vs (exC cm sc N σ obs H2) (fun v H' => FzU cm (exC cm sc N σ obs H2) H' → Q v (delC cm H')) (fun cls d H' => FzU cm (exC cm sc N σ obs H2) H' → E cls d (delC cm H'))
section
variable {X : Cx} {pins : List (Addr × Obj)} {σ : L2.St} {H : Hp} {s : Shared}
theorem run_actO {k : Nat} {E : XK} {Q : VK} {f : Addr} {us : List Value} {vs : List V} (hr : Room k X.A) (hx : Passes (L2.CX X.prog X.w) X E) (nd : X.N.Nodup) (hfn : ∀ y c, X.env.cells.lookup y = some c → X.fn y = true) (I : Inv X pins σ H s) (r : Vals vs us)
    (q : CEnv X.env.cells X.env.scope X.N H → ∀ obs : Addr → Obj,
      ∃ sp, Act X.prog X.w X.K X.mg X.base k f sp ∧ sp vs (exC X.env.cells X.env.scope X.N σ obs H) (fun v H' => FzU X.env.cells (exC X.env.cells X.env.scope X.N σ obs H) H' → Q v (delC X.env.cells H')) (fun cls d H' => FzU X.env.cells (exC X.env.cells X.env.scope X.N σ obs H) H' → E cls d (delC X.env.cells H'))) :
    PySem.W.FnAt f s.heap ∧ wpAny (model X.prog X.w) X.A (call (.ref f) us) (EP X pins σ Q) X.xe s := by
  have C := cenv_of I nd
  have hout := out_own I hfn
  obtain ⟨obs, hobs, e1⟩ := env_expF I nd hout
  obtain ⟨sp, ac, q1⟩ := q C obs
  refine ⟨(ac X.A X.stack s _ us vs _ _ hr e1 r q1).1, wpAny_call (codeAny_mono (run_expFU (Q := Q) (E := E) I nd hout hx fun obs ho e0 => ?_) fun r s' hq => ?_)⟩
  · obtain ⟨sp, ac, q1⟩ := q C obs
    exact codeAny_mono (ac X.A X.stack s _ us vs _ _ hr e0 r q1).2 fun r s' hr => CR.imp (fun v H' g z1 z2 => g ⟨z1, z2⟩) (fun c d H' g z1 z2 => g ⟨z1, z2⟩) hr
  · cases r with
    | error e => exact hq
    | ok fl =>
      cases fl with
      | ret u => exact hq
      | next => exact False.elim hq
      | brk => exact False.elim hq
      | cont => exact False.elim hq
end
/-! ### .. what that says of the heap behind it -/
section
variable {cm : List (Str × Addr)} {sc : Scope} {N : List Str} {σ : L2.St} {obs : Addr → Obj} {H H3 : Hp}
theorem FzU.nin (u : FzU cm (exC cm sc N σ obs H) H3) (C : CEnv cm sc N H) {b : Addr} {o : HO} (h : H3 b = some o) (n : ∀ ob u, o ≠ .frz ob u) : ¬ InC cm b := fun z => by
  cases q : cellV cm sc N σ b with
  | some v =>
    have := u.fz b _ _ (exC_some q)
    rw [h] at this
    exact n _ _ (Option.some.inj this)
  | none =>
    have := u.un b z (by rw [exC_none q]; exact C.free b z)
    rw [h] at this; cases this
theorem FzU.del (u : FzU cm (exC cm sc N σ obs H) H3) (C : CEnv cm sc N H) {b : Addr} {o : HO} (h : H3 b = some o) (n : ∀ ob u, o ≠ .frz ob u) : delC cm H3 b = some o := by
  rw [delC_out (u.nin C h n)]; exact h
theorem FzU.fw {Ts : List Addr} {nm : Nat → Nat → Str} {S : Addr → Prop} (u : FzU cm (exC cm sc N σ obs H) H3) (C : CEnv cm sc N H) (w : Fw Ts nm S (exC cm sc N σ obs H) H3) : Fw Ts nm S H (delC cm H3) := by
  refine ⟨fun b o h z => ?_, fun b h => ?_, w.tab.ext2 (fun b ps e => u.del C e fun _ _ z => by cases z) (fun c q e => u.del C e codeO_nf)⟩
  · rw [delC_out (C.out h)]
    exact w.keep b o (C.same _ _ h) z
  · by_cases y : InC cm b
    · exact C.free b y
    · rw [delC_out y] at h
      have := w.dom b h
      rw [exC_out y] at this; exact this
theorem FzU.tups (u : FzU cm (exC cm sc N σ obs H) H3) (C : CEnv cm sc N H) {ts : List Addr} {xs : List (List V)} (t : TupsAt H3 ts xs) : TupsAt (delC cm H3) ts xs := t.mono fun b x h => u.del C h fun _ _ z => by cases z
end
section
variable {X : Cx} {k i : Nat} {x : Str} {E : XK} {p pos : Pos} {e : Expr} {es : List Expr} {t : TA}
theorem pe_callVO {P : Program} {w : World} {K : PySem.W.Frag} {mg : Str → Option Value} {base : Heap} (e1 : X.prog = P) (e2 : X.w = w) (e3 : X.K = K) (e4 : X.mg = mg) (e5 : X.base = base) (hr : Room k X.A) (hx : Passes (L2.CX X.prog X.w) X E) (nd : X.N.Nodup) (hfn : ∀ y c, X.env.cells.lookup y = some c → X.fn y = true) (hN : X.N[i]? = some x) (hv : Vis X.env.scope x) (ha : PA X (e :: es) t)
    (hd : (x == ("__debug__" : Str)) = false := by decide) (hcd : (x == ("__classdict__" : Str)) = false := by decide)
    (he : starEach (e :: es) X.env = (false, eval e X.env) :: starEach es X.env := by rfl) (hpl : (backTo pos (starEach es X.env)).any (·.1) = false := by rfl) :
    PE X (.Call (.Name x p) (e :: es) [] pos) (tCallVO P w K mg base k i X.env.cells X.env.scope X.N E t) := by
  subst e1 e2 e3 e4 e5
  refine ⟨fun pins s σ H Q I h => ?_⟩
  obtain ⟨f, hs, ht⟩ := h
  refine wpAny_Call_Name_kw (thn ((pe_var (pos := p) hN hv hd hcd).run pins s σ H (fun v H1 => v = .ref f ∧ H1 = H) I ⟨.ref f, hs, rfl, rfl⟩) fun u s1 ⟨v, H1, I1, r1, q1⟩ => ?_)
  obtain ⟨ev, eH⟩ := q1
  subst ev
  rw [eH] at I1
  obtain rfl : u = Value.ref f := r1
  have h := thn (ha.run pos pins s1 σ H _ I1 ht) fun us s2 ⟨vs, H2, I2, r, q⟩ => run_actO (Q := Q) hr hx nd hfn I2 r q
  show wpAny _ _ (callWith pos (.ref f) [] (backTo pos (starEach (e :: es) X.env)) []) _ _ _
  rw [he] at h ⊢
  exact PySem.W.callWith_of (by show ((false || (backTo pos (starEach es X.env)).any (·.1)) || false) = false; rw [hpl]; rfl) PySem.W.keeps_F (PySem.Calls.evalArgs_plain h)
end
end Hk

set_option Elab.async false
set_option linter.all false
set_option maxRecDepth 100000
set_option maxHeartbeats 4000000
/-! x in l, l.index(x) of data, with K told. -/
namespace Hk
open PySem PySem.Spec PyProof.Rows L2
theorem un65 {k : Nat} {A : Around} (r : Room k A) : A.units + 65 < cLine := by have := r.un; omega
section
variable {X : Cx} {K : PySem.W.Frag} (hK : X.K = K)
include hK
theorem op_inDK (hu : X.A.units + 65 < cLine) : OpR X (compareOp .In) (rInD K) := by subst hK; exact op_inD hu
theorem op_notInDK (hu : X.A.units + 65 < cLine) : OpR X (compareOp .NotIn) (rNotInD K) := by subst hK; exact op_notInD hu
theorem mt_indexDK (hu : X.A.units + 65 < cLine) : MtR X "list.index" (rIndexD K) := by subst hK; exact mt_indexD hu
end
end Hk

set_option Elab.async false
set_option linter.all false
set_option maxRecDepth 100000
set_option maxHeartbeats 4000000
/-! A comprehension of pairs of a text and a new empty list. -/
namespace Hk
open PySem PySem.Spec PySem.W PyProof.Rows L2 LamX NdefX
/-- [(x, []) for x in xs] -/
theorem lc_empties (xs : List Str) {J : It} {G : Hp → Prop} {Y : Nat → Hp → V → Hp → Prop} (w : Walk J xs.length G Y) {g : TG} {te : TE} {vs : List Nat} {σ : L2.St} {H1 : Hp} {Q : VK}
    (hn : xs.length ≤ 100000) (hG : ∀ H, Same H1 H → G H) (hY : ∀ i H x H', Y i H x H' → H' = H)
    (hs : ∀ i a x H H' (R : V → Hp → Prop), xs[i]? = some a → Same H1 H → Y i H x H' → (∀ p t, H' p = none → upd H' p (.lst []) t = none → R (.ref t) (upd (upd H' p (.lst [])) t (.tup [.str a, .ref p]))) → g x (wipe σ vs) H' fun σ2 H2 => wipe σ2 vs = wipe σ vs ∧ te σ2 H2 (fun y H4 => R y H4))
    (hd : ∀ D H ts ps, H1 D = none → Same H1 H → H D = some (.lst (ts.map V.ref)) → ps.length = xs.length → ps.Nodup → (∀ p ∈ ps, H p = some (.lst []) ∧ H1 p = none ∧ p ≠ D) → TupsAt H ts ((xs.zip ps).map fun z => [V.str z.1, V.ref z.2]) → Q (.ref D) H) : LcG J g tYes te vs σ H1 Q := by
  refine lc_accH w No (fun i acc H => Same H1 H ∧ ∃ ts ps, acc = ts.map V.ref ∧ ps.length = i ∧ ps.Nodup ∧ (∀ p ∈ ps, H p = some (.lst []) ∧ H1 p = none) ∧ TupsAt H ts (((xs.take i).zip ps).map fun z => [V.str z.1, V.ref z.2])) (Nat.lt_of_le_of_lt hn (by decide)) (fun _ _ z => z) ⟨Same.refl _, [], [], rfl, rfl, List.nodup_nil, (fun _ hp => nomatch hp), trivial⟩ (fun H D i acc nD e _ => hG H e.same)
    (fun D i x H H' acc R nD hD hi e hJ hy r0 r1 => ?_) (fun D acc H nD hl e hJ hD => ?_)
  · obtain ⟨s1, ts, ps, rfl, pl, pn, pe, ht⟩ := hJ
    have hx : xs[i]? = some xs[i] := List.getElem?_eq_getElem hi
    obtain rfl := hY _ _ _ _ hy
    have r2 : ∀ p t, H' p = none → upd H' p (.lst []) t = none → R (some (.ref t)) (upd (upd H' p (.lst [])) t (.tup [.str xs[i], .ref p])) := fun p t np nt => by
      have sa : Same H' (upd H' p (.lst [])) := same_put (Same.refl _) np
      have sb : Same H' (upd (upd H' p (.lst [])) t (.tup [.str xs[i], .ref p])) := sa.trans (same_put (Same.refl _) nt)
      have npt : p ≠ t := fun z => by rw [← z, upd_same] at nt; cases nt
      have npD : p ≠ D := fun z => by rw [z, hD] at np; cases np
      have ntD : t ≠ D := fun z => by rw [z, sa _ _ hD] at nt; cases nt
      refine r1 _ _ (.of_same sb) ⟨s1.trans (offA_mono sb), ts ++ [t], ps ++ [p], by simp, by simp [pl], ?_, fun b hb => ?_, ?_⟩
      · rw [List.nodup_append]
        refine ⟨pn, by simp, fun x hx y hy => ?_⟩
        rw [List.mem_singleton.mp hy]
        intro z
        have := (pe x hx).1
        rw [z] at this
        rw [offA_same _ _ this] at np
        cases np
      · rcases List.mem_append.mp hb with hb | hb
        · exact ⟨offA_mono sb _ _ (pe b hb).1, (pe b hb).2⟩
        · rw [List.mem_singleton.mp hb]
          exact ⟨by rw [offA_ne npD, upd_ne npt, upd_same], e.same.free np⟩
      · rw [List.take_add_one, hx, List.zip_append (by rw [List.length_take, pl]; omega), List.map_append]
        exact TupsAt.snoc (by rw [offA_ne ntD]; exact upd_same) (TupsAt.mono (fun t x h => offA_mono sb _ _ h) ht)
    have key := hs i xs[i] x H' H' (fun y H4 => R (some y) H4) hx e.same hy r2
    simp only [tYes, if_true]
    exact key
  · obtain ⟨s1, ts, ps, rfl, pl, pn, pe, ht⟩ := hJ
    rw [List.take_length] at ht
    exact hd D H ts ps nD e.same hD pl pn (fun p hp => ⟨offA_same _ _ (pe p hp).1, (pe p hp).2, fun z => by
      have := (pe p hp).1
      rw [z] at this
      simp [offA] at this⟩) (TupsAt.mono (fun t x h => offA_same _ _ h) ht)
end Hk

set_option Elab.async false
set_option linter.all false
set_option maxRecDepth 100000
set_option maxHeartbeats 4000000
/-! Listeners and nets, in plain Lean and at the heap. -/
namespace Hk
open PySem PySem.Spec PySem.W PyProof.Rows L2
structure Lis where
  ad : Addr
  dx : Addr
  n : Int
  p : Str
  wk : V
  r : Int
  once : Bool
  gate : V
  group : Str
  muted : Bool
  gone : Bool
def leL (x y : Lis) : Bool := decide (x.r < y.r ∨ (x.r = y.r ∧ x.n ≤ y.n))
def orderM (ls : List Lis) : List Lis := (ls.filter fun l => !l.gone).mergeSort leL
def keyL (ls : List Lis) (v : V) : PyData := match ls.find? (fun l => decide (v = .ref l.ad)) with
  | some l => .tuple [.int l.r, .int l.n]
  | none => .tuple [.int 0, .int 0]
theorem keyL_pair (ls : List Lis) (v : V) : ∃ i j, keyL ls v = .tuple [.int i, .int j] := by
  unfold keyL
  split
  · exact ⟨_, _, rfl⟩
  · exact ⟨_, _, rfl⟩
theorem find_ad : ∀ {ls : List Lis} {l : Lis}, (ls.map (·.ad)).Nodup → l ∈ ls → ls.find? (fun x => decide ((V.ref l.ad) = .ref x.ad)) = some l
  | x :: ls, l, hn, hl => by
    rw [List.map_cons, List.nodup_cons] at hn
    rcases List.mem_cons.mp hl with e | e
    · rw [← e, List.find?_cons]; simp
    · have : l.ad ≠ x.ad := fun z => hn.1 (z ▸ List.mem_map_of_mem (f := (·.ad)) e)
      rw [List.find?_cons]
      have e0 : decide (V.ref l.ad = V.ref x.ad) = false := decide_eq_false fun z => this (V.ref.inj z)
      rw [e0]
      exact find_ad hn.2 e
theorem keyL_at {ls : List Lis} {l : Lis} (hn : (ls.map (·.ad)).Nodup) (hl : l ∈ ls) : keyL ls (.ref l.ad) = .tuple [.int l.r, .int l.n] := by
  unfold keyL
  rw [find_ad hn hl]
theorem order_refs {ls us : List Lis} (hn : (ls.map (·.ad)).Nodup) (hu : ∀ l ∈ us, l ∈ ls) : (us.map fun l => V.ref l.ad).mergeSort (dataLe false (keyL ls)) = (us.mergeSort leL).map fun l => V.ref l.ad := by
  refine (sort_maps (r := leL) (s := dataLe false (keyL ls)) (fun l : Lis => V.ref l.ad) (l := us) fun x hx y hy => ?_).symm
  have h := congrFun (congrFun (dataLe_ii (β := Lis) (·.r) (·.n)) x) y
  rw [dataLe_eq] at h ⊢
  simp only [keyL_at hn (hu x hx), keyL_at hn (hu y hy)]
  unfold leL
  exact h.symm
end Hk

set_option Elab.async false
set_option linter.all false
set_option maxRecDepth 100000
set_option maxHeartbeats 4000000
/-! Rows (rank, number, ..) sorted by rank * 100 + number are in the listeners' order; comprehensions of new tuples with a test. -/
namespace Hk
open PySem PySem.Spec PySem.W PyProof.Rows L2
def kI (H : Hp) : V → Int
  | .ref t => match H t with
    | some (.tup (.int r :: .int n :: _)) => r * 100 + n
    | _ => 0
  | _ => 0
def keyH (H : Hp) (v : V) : PyData := .int (kI H v)
theorem TupsAt.of_all {H : Hp} {α : Type} {f : α → List V} : ∀ {zs : List (Addr × α)}, (∀ z ∈ zs, H z.1 = some (.tup (f z.2))) → TupsAt H (zs.map (·.1)) (zs.map fun z => f z.2)
  | [], _ => trivial
  | z :: r, h => ⟨h z (List.mem_cons_self ..), TupsAt.of_all fun y hy => h y (List.mem_cons_of_mem _ hy)⟩
theorem TupsAt.all {H : Hp} {α : Type} {f : α → List V} {ts : List Addr} {as : List α} (h : TupsAt H ts (as.map f)) : ∀ z ∈ ts.zip as, H z.1 = some (.tup (f z.2)) := fun z hz => by
  obtain ⟨i, hi⟩ := List.mem_iff_getElem?.mp hz
  exact (h.zat hi).1
theorem order_all {ls : List Lis} (h : ∀ x ∈ ls, x.gone = false) : orderM ls = ls.mergeSort leL := by
  unfold orderM
  rw [List.filter_eq_self.mpr (fun x hx => by rw [h x hx]; rfl)]
theorem sort_rows {H : Hp} {ts : List Addr} {ls : List Lis} {f : Lis → List V} (hf : ∀ x, ∃ r, f x = .int x.r :: .int x.n :: r) (ht : TupsAt H ts (ls.map f)) (hn : ∀ x ∈ ls, 0 ≤ x.n ∧ x.n < 100 ∧ x.gone = false) :
    ∃ ts', (ts.map V.ref).mergeSort (dataLe false (keyH H)) = ts'.map V.ref ∧ TupsAt H ts' ((orderM ls).map f) := by
  have hl : ts.length = ls.length := by have := ht.len; rwa [List.length_map] at this
  have e1 : ts.map V.ref = (ts.zip ls).map fun z => V.ref z.1 := by
    conv => lhs; rw [← List.map_fst_zip (l₁ := ts) (l₂ := ls) (by omega)]
    rw [List.map_map]; rfl
  have e2 : ls = (ts.zip ls).map (·.2) := (List.map_snd_zip (by omega)).symm
  have ka : ∀ z ∈ ts.zip ls, kI H (V.ref z.1) = z.2.r * 100 + z.2.n := fun z hz => by
    obtain ⟨r, e⟩ := hf z.2
    have hz' := ht.all z hz
    rw [e] at hz'
    unfold kI
    dsimp only
    rw [hz']
  have hm : ∀ z ∈ ts.zip ls, z.2 ∈ ls := fun z hz => (List.of_mem_zip hz).2
  have s1 := sort_maps (r := fun z y : Addr × Lis => leL z.2 y.2) (s := dataLe false (keyH H)) (fun z : Addr × Lis => V.ref z.1) (l := ts.zip ls) fun x hx y hy => by
    have : dataLe false (keyH H) = fun a b => decide (kI H a ≤ kI H b) := dataLe_int (kI H)
    rw [this]
    unfold leL
    show decide _ = decide _
    rw [ka x hx, ka y hy]
    have h1 := hn _ (hm x hx)
    have h2 := hn _ (hm y hy)
    refine decide_eq_decide.mpr ?_
    omega
  have s2 := sort_maps (r := fun z y : Addr × Lis => leL z.2 y.2) (s := leL) (fun z : Addr × Lis => z.2) (l := ts.zip ls) fun x hx y hy => rfl
  refine ⟨((ts.zip ls).mergeSort fun z y => leL z.2 y.2).map (·.1), ?_, ?_⟩
  · rw [e1, ← s1, List.map_map]; rfl
  · rw [order_all fun x hx => (hn x hx).2.2]
    have e3 : ls.mergeSort leL = ((ts.zip ls).mergeSort fun z y => leL z.2 y.2).map (·.2) := by rw [s2, ← e2]
    rw [e3, List.map_map]
    exact TupsAt.of_all fun z hz => ht.all z ((List.mergeSort_perm _ _).mem_iff.mp hz)
theorem zip_filt {β : Type} (c : Lis → Bool) (f : Lis → β) : ∀ {us : List Addr} {as : List Lis}, us.length = as.length → (((us.zip as).filter fun z => c z.2).map fun z => f z.2) = (as.filter c).map f
  | [], [], _ => rfl
  | u :: us, a :: as, h => by
    have ih := zip_filt c f (us := us) (as := as) (by simpa using h)
    rw [List.zip_cons_cons, List.filter_cons, List.filter_cons]
    cases c a <;> simp [ih]
/-- a comprehension of new tuples, with a test -/
theorem lc_tupsF {α : Type} (xs : List α) (c : α → Bool) (f : α → List V) {J : It} {G : Hp → Prop} {Y : Nat → Hp → V → Hp → Prop} (w : Walk J xs.length G Y) {g : TG} {tt : TT} {te : TE} {vs : List Nat} {σ : L2.St} {H1 : Hp} {Q : VK}
    (hn : xs.length ≤ 100000) (hG : ∀ H, Same H1 H → G H)
    (hs : ∀ i a x H H' (R : Option V → Hp → Prop), xs[i]? = some a → Same H1 H → Y i H x H' → (c a = false → ∀ H2, Same H H2 → R none H2) → (c a = true → ∀ t H2, H2 t = none → Same H H2 → R (some (.ref t)) (upd H2 t (.tup (f a)))) → g x (wipe σ vs) H' fun σ2 H2 => wipe σ2 vs = wipe σ vs ∧ tt σ2 H2 fun b H3 => if b = true then te σ2 H3 (fun y H4 => R (some y) H4) else R none H3)
    (hd : ∀ D H ts, H1 D = none → Same H1 H → H D = some (.lst (ts.map V.ref)) → TupsAt H ts ((xs.filter c).map f) → Q (.ref D) H) : LcG J g tt te vs σ H1 Q := by
  refine lc_accH w No (fun i acc H => Same H1 H ∧ ∃ ts, acc = ts.map V.ref ∧ TupsAt H ts (((xs.take i).filter c).map f)) (Nat.lt_of_le_of_lt hn (by decide)) (fun _ _ z => z) ⟨Same.refl _, [], rfl, trivial⟩ (fun H D i acc nD e _ => hG H e.same)
    (fun D i x H H' acc R nD hD hi e hJ hy r0 r1 => ?_) (fun D acc H nD hl e hJ hD => ?_)
  · obtain ⟨s1, ts, rfl, ht⟩ := hJ
    have hx : xs[i]? = some xs[i] := List.getElem?_eq_getElem hi
    have tf : ((xs.take (i + 1)).filter c).map f = ((xs.take i).filter c).map f ++ (if c xs[i] = true then [f xs[i]] else []) := by
      rw [List.take_add_one, hx, List.filter_append, List.map_append]
      congr 1
      show (List.filter c [xs[i]]).map f = _
      rw [List.filter_cons]
      split <;> rfl
    refine hs i xs[i] x H H' R hx e.same hy (fun hc H2 s2 => ?_) (fun hc t H2 nt s2 => ?_)
    · refine r0 _ (.of_same s2) ⟨s1.trans (offA_mono s2), ts, rfl, ?_⟩
      rw [tf, hc]
      simp only [Bool.false_eq_true, if_false, List.append_nil]
      exact TupsAt.mono (fun t x h => offA_mono s2 _ _ h) ht
    · refine r1 _ _ (.of_same (same_new s2 nt)) ⟨s1.trans (offA_mono (same_new s2 nt)), ts ++ [t], by simp, ?_⟩
      rw [tf, hc, if_pos rfl]
      have ne : t ≠ D := fun z => by rw [z, s2 _ _ hD] at nt; cases nt
      exact TupsAt.snoc (by rw [offA_ne ne]; exact upd_same) (TupsAt.mono (fun t x h => offA_mono (same_new s2 nt) _ _ h) ht)
  · obtain ⟨s1, ts, rfl, ht⟩ := hJ
    rw [List.take_length] at ht
    exact hd D H ts nD e.same hD (TupsAt.mono (fun t x h => offA_same _ _ h) ht)
end Hk

set_option Elab.async false
set_option linter.all false
set_option maxRecDepth 100000
set_option maxHeartbeats 4000000
/-! Data of bounded depth and size. -/
namespace Hk
open PySem PySem.Spec PyProof.Rows L2
def DOk (k : Nat) (d : PyData) : Prop := d.depth ≤ k ∧ smallD d = true
theorem DOk.int {k : Nat} {i : Int} : DOk k (.int i) := ⟨by simp [PyData.depth], by simp [smallD]⟩
theorem DOk.str {k : Nat} {i : Str} : DOk k (.str i) := ⟨by simp [PyData.depth], by simp [smallD]⟩
theorem DOk.bool {k : Nat} {i : Bool} : DOk k (.bool i) := ⟨by simp [PyData.depth], by simp [smallD]⟩
theorem DOk.none {k : Nat} : DOk k .none := ⟨by simp [PyData.depth], by simp [smallD]⟩
theorem DOk.list {k : Nat} {ds : List PyData} (h : ∀ d ∈ ds, DOk k d) (hl : ds.length ≤ 100000) : DOk (k + 1) (.list ds) :=
  ⟨by have := depthAll_of fun d hd => (h d hd).1
      simp only [PyData.depth]; omega, smallL_of hl fun d hd => (h d hd).2⟩
theorem DOk.tuple {k : Nat} {ds : List PyData} (h : ∀ d ∈ ds, DOk k d) (hl : ds.length ≤ 100000) : DOk (k + 1) (.tuple ds) :=
  ⟨by have := depthAll_of fun d hd => (h d hd).1
      simp only [PyData.depth]; omega, smallT_of hl fun d hd => (h d hd).2⟩
theorem DOk.mono {j k : Nat} {d : PyData} (h : DOk j d) (l : j ≤ k) : DOk k d := ⟨Nat.le_trans h.1 l, h.2⟩
theorem dok_nil {k : Nat} : ∀ d ∈ ([] : List PyData), DOk k d := fun _ h => nomatch h
theorem dok_cons {k : Nat} {d : PyData} {ds : List PyData} (h : DOk k d) (t : ∀ d ∈ ds, DOk k d) : ∀ e ∈ d :: ds, DOk k e := fun e he => (List.mem_cons.mp he).elim (fun z => z ▸ h) (t e)
theorem dok_map {k : Nat} {α : Type} {f : α → PyData} {xs : List α} (h : ∀ x ∈ xs, DOk k (f x)) : ∀ e ∈ xs.map f, DOk k e := fun e he => by
  obtain ⟨x, hx, rfl⟩ := List.mem_map.mp he
  exact h x hx
/-- a list of tuples, told twice -/
theorem dp_rows {K : PySem.W.Frag} {H : Hp} {α : Type} {f : α → List V} {d : α → PyData} {p : Addr} {ts : List Addr} {as : List α} (h : H p = some (.lst (ts.map V.ref))) (t : TupsAt H ts (as.map f)) (hf : ∀ a ∈ as, DpAll K H (f a) (match d a with | .tuple ds => ds | _ => []) ∧ ∃ ds, d a = .tuple ds) : Dp K H (.ref p) (.list (as.map d)) := by
  refine .lst (.of h) ?_
  clear h
  induction as generalizing ts with
  | nil =>
    match ts, t with
    | [], _ => exact .nil
  | cons a r ih =>
    match ts, t with
    | t1 :: tr, t =>
      obtain ⟨h1, ds, h2⟩ := hf a (List.mem_cons_self ..)
      rw [h2] at h1
      refine .cons ?_ (ih t.2 fun b hb => hf b (List.mem_cons_of_mem _ hb))
      rw [h2]
      exact .tup (.of t.1) h1
/-! ### == and != of the same data -/
def DEq (k : Nat) (d : PyData) : Prop := d.canLay0 = true ∧ d.depth ≤ k ∧ PyData.eqv d d = true
theorem eqvAll_self : ∀ {ds : List PyData}, (∀ d ∈ ds, PyData.eqv d d = true) → PyData.eqvAll ds ds = true
  | [], _ => by simp only [PyData.eqvAll]
  | d :: r, h => by
    simp only [PyData.eqvAll]
    rw [h d (List.mem_cons_self ..), eqvAll_self fun e he => h e (List.mem_cons_of_mem _ he)]; rfl
theorem DEq.int {k : Nat} {i : Int} : DEq k (.int i) := ⟨by simp only [PyData.canLay0], by simp [PyData.depth], by simp [PyData.eqv]⟩
theorem DEq.str {k : Nat} {i : Str} (h : PyData.strOk i = true) : DEq k (.str i) := ⟨by simp only [PyData.canLay0]; exact h, by simp [PyData.depth], by simp [PyData.eqv]⟩
theorem DEq.bool {k : Nat} {i : Bool} : DEq k (.bool i) := ⟨by simp only [PyData.canLay0], by simp [PyData.depth], by simp [PyData.eqv]⟩
theorem DEq.none {k : Nat} : DEq k .none := ⟨by simp only [PyData.canLay0], by simp [PyData.depth], by simp [PyData.eqv]⟩
theorem DEq.list {k : Nat} {ds : List PyData} (h : ∀ d ∈ ds, DEq k d) : DEq (k + 1) (.list ds) := by
  refine ⟨?_, ?_, ?_⟩
  · simp only [PyData.canLay0]; exact canAll_of fun d hd => (h d hd).1
  · have := depthAll_of fun d hd => (h d hd).2.1
    simp only [PyData.depth]; omega
  · simp only [PyData.eqv]; exact eqvAll_self fun d hd => (h d hd).2.2
theorem DEq.tuple {k : Nat} {ds : List PyData} (h : ∀ d ∈ ds, DEq k d) : DEq (k + 1) (.tuple ds) := by
  refine ⟨?_, ?_, ?_⟩
  · simp only [PyData.canLay0]; exact canAll_of fun d hd => (h d hd).1
  · have := depthAll_of fun d hd => (h d hd).2.1
    simp only [PyData.depth]; omega
  · simp only [PyData.eqv]; exact eqvAll_self fun d hd => (h d hd).2.2
theorem deq_nil {k : Nat} : ∀ d ∈ ([] : List PyData), DEq k d := fun _ h => nomatch h
theorem deq_cons {k : Nat} {d : PyData} {ds : List PyData} (h : DEq k d) (t : ∀ d ∈ ds, DEq k d) : ∀ e ∈ d :: ds, DEq k e := fun e he => (List.mem_cons.mp he).elim (fun z => z ▸ h) (t e)
theorem deq_map {k : Nat} {α : Type} {f : α → PyData} {xs : List α} (h : ∀ x ∈ xs, DEq k (f x)) : ∀ e ∈ xs.map f, DEq k e := fun e he => by
  obtain ⟨x, hx, rfl⟩ := List.mem_map.mp he
  exact h x hx
theorem DEq.shaped {k : Nat} {d : PyData} (h : DEq k d) (hk : k ≤ 60) : SeqAt.shaped d = true := by
  unfold SeqAt.shaped
  exact Bool.and_eq_true_iff.mpr ⟨h.1, decide_eq_true (by have := h.2.1; omega)⟩
theorem rNe_same {K : PySem.W.Frag} {H : Hp} {x y : V} {d : PyData} {k : Nat} {Q : VK} (h1 : Dp K H x d) (h2 : Dp K H y d) (h : DEq k d) (hk : k ≤ 60) (q : Q (.bl false) H) : rNeD K x y H Q := ⟨d, d, h1, h2, h.shaped hk, h.shaped hk, by rw [h.2.2]; exact q⟩
theorem rEq_same {K : PySem.W.Frag} {H : Hp} {x y : V} {d : PyData} {k : Nat} {Q : VK} (h1 : Dp K H x d) (h2 : Dp K H y d) (h : DEq k d) (hk : k ≤ 60) (q : Q (.bl true) H) : rEqD K x y H Q := ⟨d, d, h1, h2, h.shaped hk, h.shaped hk, by rw [h.2.2]; exact q⟩
end Hk

set_option Elab.async false
set_option linter.all false
set_option maxRecDepth 100000
set_option maxHeartbeats 4000000
/-! The head's Hook over the names' reach and the table of the interpreter's statics (a class's attributes are read only where that table is known). -/
namespace Hk
open PySem PySem.Spec PyProof.Rows L2 He
def asS (g : Addr → Option Obj) (n : Nat) : List Addr := asD g n ++ [cStatics]
def obsS (n : Nat) (fa : List Fa) (fn : List DefD) (ts : List Tab) (tf : List Defn) (ex : PySem.W.Frag → Bool) (g : Addr → Option Obj) : AlX := (obsT fa fn ts (frT g (asS g n)), ex (frT g (asS g n)) && tabsB g tf (frT g (asS g n)))
theorem saysS_of {n : Nat} {fa : List Fa} {fn : List DefD} {ts : List Tab} {tf : List Defn} {ex : PySem.W.Frag → Bool} {w : World} {h : Heap} (e : obsS n fa fn ts tf ex h.get? = valX fn ts w) : SaysX fa fn ts tf ex w h (frT h.get? (asS h.get? n)) := by
  generalize hK : frT h.get? (asS h.get? n) = K
  have e1 : obsT fa fn ts K = valT fn ts w := by rw [← hK]; exact congrArg (fun z : AlX => z.1) e
  have e2 : (ex K && tabsB h.get? tf K) = true := by rw [← hK]; exact congrArg (fun z : AlX => z.2) e
  obtain ⟨h1, h2⟩ := ba e2
  refine ⟨e1, h1, fun p hp => (ba (List.all_eq_true.mp h2 p hp)).1, fun p hp => ?_, fun p hp => ?_⟩
  all_goals
    obtain ⟨h3, h4⟩ := ba (List.all_eq_true.mp h2 p hp)
    cases q : h.get? (cT K p).2 with
    | none => rw [q] at h4; cases h4
    | some o =>
      rw [q] at h4
      first
        | exact congrArg some (emptyTab_eq h4)
        | (rw [← hK] at q ⊢; exact frT_none q h4)
def hookS (n : Nat) (fa : List Fa) (fn : List DefD) (ts : List Tab) (tf : List Defn) (ex : PySem.W.Frag → Bool) : PySem.W.Hook where
  α := AlX
  obs := fun s => obsS n fa fn ts tf ex s.heap.get?
  val := fun w => valX fn ts w
  says := fun w h => ∃ K : PySem.W.Frag, K.In h ∧ SaysX fa fn ts tf ex w h K
  of := fun _ _ e => ⟨_, frT_in, saysS_of e⟩
  keeps := fun _ _ _ ⟨K, hK, c⟩ k => ⟨K, PySem.W.Frag.In.keeps hK k, ⟨c.t, c.more, c.hd, c.out, fun p hp => k _ _ (c.empty p hp)⟩⟩
theorem obsS_eq {n : Nat} {fa : List Fa} {fn : List DefD} {ts : List Tab} {tf : List Defn} {ex : PySem.W.Frag → Bool} {g : Addr → Option Obj} {s : Shared} (h : ∀ a, g a = s.heap.get? a) : obsS n fa fn ts tf ex g = (hookS n fa fn ts tf ex).obs s := by
  have e : g = s.heap.get? := funext h
  rw [e] <;> rfl
end Hk

set_option Elab.async false
set_option linter.all false
set_option maxRecDepth 100000
set_option maxHeartbeats 4000000
/-! x is True, of any x. -/
namespace Hk
open PySem PySem.Spec PyProof.Rows L2
def rIsV : R2 := fun x y H Q => ∃ b : Bool, y = .bl b ∧ Q (.bl (decide (x = .bl b))) H
theorem op_isV {X : Cx} : OpR X (compareOp .Is) rIsV := by
  intro pins s σ H x y v u Q I rx ry h
  obtain ⟨b, rfl, q⟩ := h
  cases (show u = Value.bool b from ry)
  by_cases e : x = .bl b
  · subst e
    cases (show v = Value.bool b from rx)
    exact wpAny_is_self rfl ⟨.bl true, H, I, rfl, by simpa using q⟩
  · have hne : v ≠ Value.bool b := fun z => by
      subst z
      cases x <;> first
        | (exact e rfl)
        | (cases rx; exact e rfl)
        | (obtain ⟨t, z⟩ := rx; cases z; done)
        | (cases rx; done)
    refine wpAny_is_other ?_ hne ⟨.bl false, H, I, rfl, by simpa [e] using q⟩
    cases x <;> first
      | (cases rx; rfl)
      | (obtain ⟨t, rfl⟩ := rx; rfl)
def rNotV : R2 := fun x y H Q => ∃ b : Bool, y = .bl b ∧ Q (.bl (!decide (x = .bl b))) H
theorem op_notV {X : Cx} : OpR X (compareOp .IsNot) rNotV := by
  intro pins s σ H x y v u Q I rx ry h
  obtain ⟨b, rfl, q⟩ := h
  cases (show u = Value.bool b from ry)
  by_cases e : x = .bl b
  · subst e
    cases (show v = Value.bool b from rx)
    exact wpAny_isNot_self rfl ⟨.bl false, H, I, rfl, by simpa using q⟩
  · have hne : v ≠ Value.bool b := fun z => by
      subst z
      cases x <;> first
        | (exact e rfl)
        | (cases rx; exact e rfl)
        | (obtain ⟨t, z⟩ := rx; cases z; done)
        | (cases rx; done)
    refine wpAny_isNot_other ?_ hne ⟨.bl true, H, I, rfl, by simpa [e] using q⟩
    cases x <;> first
      | (cases rx; rfl)
      | (obtain ⟨t, rfl⟩ := rx; rfl)
end Hk

set_option Elab.async false
set_option linter.all false
set_option maxRecDepth 100000
set_option maxHeartbeats 4000000
/-! Rows handed on in chunks; what is seen for the first time. -/
namespace Hk
open PySem PySem.Spec PyProof.Rows L2
abbrev R17 := Str × Int
/-- what has been gathered since the last full chunk -/
def soM (w : Nat) (ls : List R17) (k : Nat) : List Int := ((ls.take k).drop (k - k % w)).map (·.2)
/-- the chunk that ends with row k -/
def chM (w : Nat) (ls : List R17) (k : Nat) : List Int := ((ls.take (k + 1)).drop (k + 1 - w)).map (·.2)
theorem mod_last {w k : Nat} (hw : 0 < w) : (k + 1) % w = if k % w + 1 = w then 0 else k % w + 1 := by
  have e := Nat.div_add_mod k w
  have l := Nat.mod_lt k hw
  split
  · next h =>
    have : k + 1 = w * (k / w + 1) := by rw [Nat.mul_add]; omega
    rw [this, Nat.mul_mod_right]
  · next h =>
    have : k + 1 = w * (k / w) + (k % w + 1) := by omega
    rw [this, Nat.mul_add_mod]
    exact Nat.mod_eq_of_lt (by omega)
theorem so_len {w k : Nat} {ls : List R17} (hk : k ≤ ls.length) : (soM w ls k).length = k % w := by
  have := Nat.mod_le k w
  unfold soM
  rw [List.length_map, List.length_drop, List.length_take]; omega
theorem so_few {w k : Nat} {ls : List R17} {x : R17} (hw : 0 < w) (hx : ls[k]? = some x) (n : k % w + 1 ≠ w) : soM w ls (k + 1) = soM w ls k ++ [x.2] := by
  have hk := (List.getElem?_eq_some_iff.mp hx).1
  have := Nat.mod_le k w
  unfold soM
  rw [mod_last hw, if_neg n, List.take_add_one, hx, show k + 1 - (k % w + 1) = k - k % w by omega, List.drop_append_of_le_length (by rw [List.length_take]; omega)]
  simp
theorem so_full {w k : Nat} {ls : List R17} (hw : 0 < w) (n : k % w + 1 = w) : soM w ls (k + 1) = [] := by
  unfold soM
  rw [mod_last hw, if_pos n]
  rw [Nat.sub_zero, List.drop_eq_nil_of_le (by rw [List.length_take]; omega)]; rfl
theorem ch_full {w k : Nat} {ls : List R17} {x : R17} (hx : ls[k]? = some x) (n : k % w + 1 = w) : chM w ls k = soM w ls k ++ [x.2] := by
  have hk := (List.getElem?_eq_some_iff.mp hx).1
  have := Nat.mod_le k w
  unfold soM chM
  rw [List.take_add_one, hx, show k + 1 - w = k - k % w by omega, List.drop_append_of_le_length (by rw [List.length_take]; omega)]
  simp
theorem cutV_map {α : Type} (f : α → V) (xs : List α) (lo hi : Option Int) : cutV (xs.map f) lo hi = ((xs.drop (HT.sIx xs.length 0 lo)).take (HT.sIx xs.length xs.length hi - HT.sIx xs.length 0 lo)).map f := by
  unfold cutV
  rw [List.length_map, List.map_take, List.map_drop]
end Hk

set_option Elab.async false
set_option linter.all false
set_option maxRecDepth 100000
set_option maxHeartbeats 4000000
namespace Hk
open PySem PySem.Spec PyProof.Rows L2
def topS (i : Nat) : Stmt := PySem.Challenge.pw_hearken_k17_works_of_works.main.body.getD i (.Pass ⟨0, 0, 0, 0⟩)
abbrev s_law_mix : Stmt := topS 18
abbrev N_law_mix : List Str := ["_law_script", "_law_seed", "_law_mixed", "_law_cell"]
abbrev p_law_mix : List Str := ["_law_script", "_law_seed"]
theorem sc_law_mix : FnScope N_law_mix p_law_mix (defScope s_law_mix) := ⟨rfl, rfl, rfl, by decide +kernel, rfl, by decide +kernel, by decide +kernel⟩
def d_law_mix : He.DefD := ⟨("_law_mix", none), "_law_mix", "_law_mix", defArgs s_law_mix, defBody s_law_mix, defScope s_law_mix, [], []⟩
abbrev F_law_mix (K : PySem.W.Frag) (f : Addr) (fd : FuncData) : Prop := FunD K "_law_mix" "_law_mix" (defArgs s_law_mix) (defBody s_law_mix) (defScope s_law_mix) [] [] f fd
abbrev s_law_next : Stmt := topS 19
abbrev N_law_next : List Str := ["_law_h", "_law_many", "_law_cell"]
abbrev p_law_next : List Str := ["_law_h", "_law_many"]
theorem sc_law_next : FnScope N_law_next p_law_next (defScope s_law_next) := ⟨rfl, rfl, rfl, by decide +kernel, rfl, by decide +kernel, by decide +kernel⟩
def d_law_next : He.DefD := ⟨("_law_next", none), "_law_next", "_law_next", defArgs s_law_next, defBody s_law_next, defScope s_law_next, [], []⟩
abbrev F_law_next (K : PySem.W.Frag) (f : Addr) (fd : FuncData) : Prop := FunD K "_law_next" "_law_next" (defArgs s_law_next) (defBody s_law_next) (defScope s_law_next) [] [] f fd
abbrev s_law_alike : Stmt := topS 20
abbrev N_law_alike : List Str := ["_law_found", "_law_due", "_law_k"]
abbrev p_law_alike : List Str := ["_law_found", "_law_due"]
theorem sc_law_alike : FnScope N_law_alike p_law_alike (defScope s_law_alike) := ⟨rfl, rfl, rfl, by decide +kernel, rfl, by decide +kernel, by decide +kernel⟩
def d_law_alike : He.DefD := ⟨("_law_alike", none), "_law_alike", "_law_alike", defArgs s_law_alike, defBody s_law_alike, defScope s_law_alike, [], []⟩
abbrev F_law_alike (K : PySem.W.Frag) (f : Addr) (fd : FuncData) : Prop := FunD K "_law_alike" "_law_alike" (defArgs s_law_alike) (defBody s_law_alike) (defScope s_law_alike) [] [] f fd
abbrev s_law_kind : Stmt := topS 21
abbrev N_law_kind : List Str := ["_law_call_here", "e", "_law_kinds", "_law_words"]
abbrev p_law_kind : List Str := ["_law_call_here"]
theorem sc_law_kind : FnScope N_law_kind p_law_kind (defScope s_law_kind) := ⟨rfl, rfl, rfl, by decide +kernel, rfl, by decide +kernel, by decide +kernel⟩
def d_law_kind : He.DefD := ⟨("_law_kind", none), "_law_kind", "_law_kind", defArgs s_law_kind, defBody s_law_kind, defScope s_law_kind, [], []⟩
abbrev F_law_kind (K : PySem.W.Frag) (f : Addr) (fd : FuncData) : Prop := FunD K "_law_kind" "_law_kind" (defArgs s_law_kind) (defBody s_law_kind) (defScope s_law_kind) [] [] f fd
abbrev s_gathered : Stmt := topS 14
abbrev N_gathered : List Str := ["work", "many", "some", "gather"]
abbrev p_gathered : List Str := ["work", "many"]
theorem sc_gathered : FnScope N_gathered p_gathered (defScope s_gathered) := ⟨rfl, rfl, rfl, by decide +kernel, rfl, by decide +kernel, by decide +kernel⟩
def d_gathered : He.DefD := ⟨("gathered", none), "gathered", "gathered", defArgs s_gathered, defBody s_gathered, defScope s_gathered, [], []⟩
abbrev F_gathered (K : PySem.W.Frag) (f : Addr) (fd : FuncData) : Prop := FunD K "gathered" "gathered" (defArgs s_gathered) (defBody s_gathered) (defScope s_gathered) [] [] f fd
abbrev s_changed : Stmt := topS 15
abbrev N_changed : List Str := ["work", "change"]
abbrev p_changed : List Str := ["work", "change"]
theorem sc_changed : FnScope N_changed p_changed (defScope s_changed) := ⟨rfl, rfl, rfl, by decide +kernel, rfl, by decide +kernel, by decide +kernel⟩
def d_changed : He.DefD := ⟨("changed", none), "changed", "changed", defArgs s_changed, defBody s_changed, defScope s_changed, [], []⟩
abbrev F_changed (K : PySem.W.Frag) (f : Addr) (fd : FuncData) : Prop := FunD K "changed" "changed" (defArgs s_changed) (defBody s_changed) (defScope s_changed) [] [] f fd
abbrev s_law_worker : Stmt := topS 22
abbrev N_law_worker : List Str := ["_law_log", "_law_mark", "_law_call"]
abbrev p_law_worker : List Str := ["_law_log", "_law_mark"]
theorem sc_law_worker : FnScope N_law_worker p_law_worker (defScope s_law_worker) := ⟨rfl, rfl, rfl, by decide +kernel, rfl, by decide +kernel, by decide +kernel⟩
def d_law_worker : He.DefD := ⟨("_law_worker", none), "_law_worker", "_law_worker", defArgs s_law_worker, defBody s_law_worker, defScope s_law_worker, [], []⟩
abbrev F_law_worker (K : PySem.W.Frag) (f : Addr) (fd : FuncData) : Prop := FunD K "_law_worker" "_law_worker" (defArgs s_law_worker) (defBody s_law_worker) (defScope s_law_worker) [] [] f fd
abbrev s_kept_in_mind : Stmt := topS 16
abbrev N_kept_in_mind : List Str := ["work", "rows", "mind"]
abbrev p_kept_in_mind : List Str := ["work"]
theorem sc_kept_in_mind : FnScope N_kept_in_mind p_kept_in_mind (defScope s_kept_in_mind) := ⟨rfl, rfl, rfl, by decide +kernel, rfl, by decide +kernel, by decide +kernel⟩
def d_kept_in_mind : He.DefD := ⟨("kept_in_mind", none), "kept_in_mind", "kept_in_mind", defArgs s_kept_in_mind, defBody s_kept_in_mind, defScope s_kept_in_mind, [], []⟩
abbrev F_kept_in_mind (K : PySem.W.Frag) (f : Addr) (fd : FuncData) : Prop := FunD K "kept_in_mind" "kept_in_mind" (defArgs s_kept_in_mind) (defBody s_kept_in_mind) (defScope s_kept_in_mind) [] [] f fd
abbrev s_law_echo : Stmt := topS 23
abbrev N_law_echo : List Str := ["_law_log", "_law_again", "_law_call"]
abbrev p_law_echo : List Str := ["_law_log", "_law_again"]
theorem sc_law_echo : FnScope N_law_echo p_law_echo (defScope s_law_echo) := ⟨rfl, rfl, rfl, by decide +kernel, rfl, by decide +kernel, by decide +kernel⟩
def d_law_echo : He.DefD := ⟨("_law_echo", none), "_law_echo", "_law_echo", defArgs s_law_echo, defBody s_law_echo, defScope s_law_echo, [], []⟩
abbrev F_law_echo (K : PySem.W.Frag) (f : Addr) (fd : FuncData) : Prop := FunD K "_law_echo" "_law_echo" (defArgs s_law_echo) (defBody s_law_echo) (defScope s_law_echo) [] [] f fd
abbrev s_law_nothing : Stmt := topS 24
abbrev N_law_nothing : List Str := ["_law_log", "_law_call"]
abbrev p_law_nothing : List Str := ["_law_log"]
theorem sc_law_nothing : FnScope N_law_nothing p_law_nothing (defScope s_law_nothing) := ⟨rfl, rfl, rfl, by decide +kernel, rfl, by decide +kernel, by decide +kernel⟩
def d_law_nothing : He.DefD := ⟨("_law_nothing", none), "_law_nothing", "_law_nothing", defArgs s_law_nothing, defBody s_law_nothing, defScope s_law_nothing, [], []⟩
abbrev F_law_nothing (K : PySem.W.Frag) (f : Addr) (fd : FuncData) : Prop := FunD K "_law_nothing" "_law_nothing" (defArgs s_law_nothing) (defBody s_law_nothing) (defScope s_law_nothing) [] [] f fd
abbrev s_law : Stmt := topS 25
abbrev N_law : List Str := ["_law_script", "_law_h", "_law_turn", "_law_rows", "_law_k", "_law_wide", "_law_log", "_law_due", "_law_work", "_law_is_last", "_law_one", "_law_found", "_law_line", "_law_thing", "_law_seen", "_law_row", "_law_far"]
abbrev p_law : List Str := ["_law_script"]
theorem sc_law : FnScope N_law p_law (defScope s_law) := ⟨rfl, rfl, rfl, by decide +kernel, rfl, by decide +kernel, by decide +kernel⟩
def d_law : He.DefD := ⟨("law", none), "law", "law", defArgs s_law, defBody s_law, defScope s_law, [], []⟩
abbrev F_law (K : PySem.W.Frag) (f : Addr) (fd : FuncData) : Prop := FunD K "law" "law" (defArgs s_law) (defBody s_law) (defScope s_law) [] [] f fd
def fa : List He.Fa := [.free "list", .free "max", .free "len", .free "isinstance", .free "tuple", .free "range", .free "str", .free "int", .free "bool", .glo "HearError", .glo "BadLine", .glo "BadPattern", .glo "BadWord", .glo "BadCount", .glo "NoListener", .glo "Busy", .glo "TooDeep", .glo "NotHeld", .glo "NoWork", .glo "BadText", .glo "Halt", .free "ValueError", .exc "BadCount", .glo "_law_mix", .glo "_law_next", .glo "_law_alike", .glo "_law_kind", .glo "gathered", .glo "changed", .glo "_law_worker", .glo "kept_in_mind", .glo "_law_echo", .glo "_law_nothing", .glo "law"]
def fn : List He.DefD := [d_law_mix, d_law_next, d_law_alike, d_law_kind, d_gathered, d_changed, d_law_worker, d_kept_in_mind, d_law_echo, d_law_nothing, d_law]
def exB (K : PySem.W.Frag) : Bool := refB K "BadCount" && true
def Tx (K : PySem.W.Frag) (mg : Str → Option Value) : Prop := ∃ h : Heap, K.In h ∧ h.Ns mainGlobals mg ∧ He.SaysD fa fn K ∧ exB K = true
section
variable {K : PySem.W.Frag} {mg : Str → Option Value}
theorem Tx.b_list (T : Tx K mg) : mg "list" = none := by obtain ⟨h, X, G, c, _⟩ := T; exact He.free_ok X G (c.fact 0 (f := .free "list") rfl)
theorem Tx.b_max (T : Tx K mg) : mg "max" = none := by obtain ⟨h, X, G, c, _⟩ := T; exact He.free_ok X G (c.fact 1 (f := .free "max") rfl)
theorem Tx.b_len (T : Tx K mg) : mg "len" = none := by obtain ⟨h, X, G, c, _⟩ := T; exact He.free_ok X G (c.fact 2 (f := .free "len") rfl)
theorem Tx.b_isinstance (T : Tx K mg) : mg "isinstance" = none := by obtain ⟨h, X, G, c, _⟩ := T; exact He.free_ok X G (c.fact 3 (f := .free "isinstance") rfl)
theorem Tx.b_tuple (T : Tx K mg) : mg "tuple" = none := by obtain ⟨h, X, G, c, _⟩ := T; exact He.free_ok X G (c.fact 4 (f := .free "tuple") rfl)
theorem Tx.b_range (T : Tx K mg) : mg "range" = none := by obtain ⟨h, X, G, c, _⟩ := T; exact He.free_ok X G (c.fact 5 (f := .free "range") rfl)
theorem Tx.b_str (T : Tx K mg) : mg "str" = none := by obtain ⟨h, X, G, c, _⟩ := T; exact He.free_ok X G (c.fact 6 (f := .free "str") rfl)
theorem Tx.b_int (T : Tx K mg) : mg "int" = none := by obtain ⟨h, X, G, c, _⟩ := T; exact He.free_ok X G (c.fact 7 (f := .free "int") rfl)
theorem Tx.b_bool (T : Tx K mg) : mg "bool" = none := by obtain ⟨h, X, G, c, _⟩ := T; exact He.free_ok X G (c.fact 8 (f := .free "bool") rfl)
theorem Tx.g_HearError (T : Tx K mg) : mg "HearError" = some (.ref (He.ga K "HearError")) := by obtain ⟨h, X, G, c, _⟩ := T; exact He.glo_ok X G (c.fact 9 (f := .glo "HearError") rfl)
theorem Tx.g_BadLine (T : Tx K mg) : mg "BadLine" = some (.ref (He.ga K "BadLine")) := by obtain ⟨h, X, G, c, _⟩ := T; exact He.glo_ok X G (c.fact 10 (f := .glo "BadLine") rfl)
theorem Tx.g_BadPattern (T : Tx K mg) : mg "BadPattern" = some (.ref (He.ga K "BadPattern")) := by obtain ⟨h, X, G, c, _⟩ := T; exact He.glo_ok X G (c.fact 11 (f := .glo "BadPattern") rfl)
theorem Tx.g_BadWord (T : Tx K mg) : mg "BadWord" = some (.ref (He.ga K "BadWord")) := by obtain ⟨h, X, G, c, _⟩ := T; exact He.glo_ok X G (c.fact 12 (f := .glo "BadWord") rfl)
theorem Tx.g_BadCount (T : Tx K mg) : mg "BadCount" = some (.ref (He.ga K "BadCount")) := by obtain ⟨h, X, G, c, _⟩ := T; exact He.glo_ok X G (c.fact 13 (f := .glo "BadCount") rfl)
theorem Tx.g_NoListener (T : Tx K mg) : mg "NoListener" = some (.ref (He.ga K "NoListener")) := by obtain ⟨h, X, G, c, _⟩ := T; exact He.glo_ok X G (c.fact 14 (f := .glo "NoListener") rfl)
theorem Tx.g_Busy (T : Tx K mg) : mg "Busy" = some (.ref (He.ga K "Busy")) := by obtain ⟨h, X, G, c, _⟩ := T; exact He.glo_ok X G (c.fact 15 (f := .glo "Busy") rfl)
theorem Tx.g_TooDeep (T : Tx K mg) : mg "TooDeep" = some (.ref (He.ga K "TooDeep")) := by obtain ⟨h, X, G, c, _⟩ := T; exact He.glo_ok X G (c.fact 16 (f := .glo "TooDeep") rfl)
theorem Tx.g_NotHeld (T : Tx K mg) : mg "NotHeld" = some (.ref (He.ga K "NotHeld")) := by obtain ⟨h, X, G, c, _⟩ := T; exact He.glo_ok X G (c.fact 17 (f := .glo "NotHeld") rfl)
theorem Tx.g_NoWork (T : Tx K mg) : mg "NoWork" = some (.ref (He.ga K "NoWork")) := by obtain ⟨h, X, G, c, _⟩ := T; exact He.glo_ok X G (c.fact 18 (f := .glo "NoWork") rfl)
theorem Tx.g_BadText (T : Tx K mg) : mg "BadText" = some (.ref (He.ga K "BadText")) := by obtain ⟨h, X, G, c, _⟩ := T; exact He.glo_ok X G (c.fact 19 (f := .glo "BadText") rfl)
theorem Tx.g_Halt (T : Tx K mg) : mg "Halt" = some (.ref (He.ga K "Halt")) := by obtain ⟨h, X, G, c, _⟩ := T; exact He.glo_ok X G (c.fact 20 (f := .glo "Halt") rfl)
theorem Tx.b_ValueError (T : Tx K mg) : mg "ValueError" = none := by obtain ⟨h, X, G, c, _⟩ := T; exact He.free_ok X G (c.fact 21 (f := .free "ValueError") rfl)
theorem Tx.x_BadCount (T : Tx K mg) : PySem.W.excIn K (He.ga K "BadCount") He.veBase "ValueError.__new__" = true ∧ PySem.W.keepIn K (.ref (He.ga K "BadCount")) = true ∧ PySem.W.subIn K (.ref (He.ga K "BadCount")) (.type "BaseException") = some true ∧ PySem.W.typeIn K (.ref (He.ga K "BadCount")) = some (.type "type") := by obtain ⟨h, X, G, c, _⟩ := T; exact He.exc_ok (c.fact 22 (f := .exc "BadCount") rfl)
theorem Tx.g__law_mix (T : Tx K mg) : mg "_law_mix" = some (.ref (He.ga K "_law_mix")) := by obtain ⟨h, X, G, c, _⟩ := T; exact He.glo_ok X G (c.fact 23 (f := .glo "_law_mix") rfl)
theorem Tx.g__law_next (T : Tx K mg) : mg "_law_next" = some (.ref (He.ga K "_law_next")) := by obtain ⟨h, X, G, c, _⟩ := T; exact He.glo_ok X G (c.fact 24 (f := .glo "_law_next") rfl)
theorem Tx.g__law_alike (T : Tx K mg) : mg "_law_alike" = some (.ref (He.ga K "_law_alike")) := by obtain ⟨h, X, G, c, _⟩ := T; exact He.glo_ok X G (c.fact 25 (f := .glo "_law_alike") rfl)
theorem Tx.g__law_kind (T : Tx K mg) : mg "_law_kind" = some (.ref (He.ga K "_law_kind")) := by obtain ⟨h, X, G, c, _⟩ := T; exact He.glo_ok X G (c.fact 26 (f := .glo "_law_kind") rfl)
theorem Tx.g_gathered (T : Tx K mg) : mg "gathered" = some (.ref (He.ga K "gathered")) := by obtain ⟨h, X, G, c, _⟩ := T; exact He.glo_ok X G (c.fact 27 (f := .glo "gathered") rfl)
theorem Tx.g_changed (T : Tx K mg) : mg "changed" = some (.ref (He.ga K "changed")) := by obtain ⟨h, X, G, c, _⟩ := T; exact He.glo_ok X G (c.fact 28 (f := .glo "changed") rfl)
theorem Tx.g__law_worker (T : Tx K mg) : mg "_law_worker" = some (.ref (He.ga K "_law_worker")) := by obtain ⟨h, X, G, c, _⟩ := T; exact He.glo_ok X G (c.fact 29 (f := .glo "_law_worker") rfl)
theorem Tx.g_kept_in_mind (T : Tx K mg) : mg "kept_in_mind" = some (.ref (He.ga K "kept_in_mind")) := by obtain ⟨h, X, G, c, _⟩ := T; exact He.glo_ok X G (c.fact 30 (f := .glo "kept_in_mind") rfl)
theorem Tx.g__law_echo (T : Tx K mg) : mg "_law_echo" = some (.ref (He.ga K "_law_echo")) := by obtain ⟨h, X, G, c, _⟩ := T; exact He.glo_ok X G (c.fact 31 (f := .glo "_law_echo") rfl)
theorem Tx.g__law_nothing (T : Tx K mg) : mg "_law_nothing" = some (.ref (He.ga K "_law_nothing")) := by obtain ⟨h, X, G, c, _⟩ := T; exact He.glo_ok X G (c.fact 32 (f := .glo "_law_nothing") rfl)
theorem Tx.g_law (T : Tx K mg) : mg "law" = some (.ref (He.ga K "law")) := by obtain ⟨h, X, G, c, _⟩ := T; exact He.glo_ok X G (c.fact 33 (f := .glo "law") rfl)
theorem Tx.e_rC (T : Tx K mg) : (refB K "BadCount") = true := by obtain ⟨h, X, G, c, e⟩ := T; exact (Bool.and_eq_true_iff.mp e).1
theorem Tx.f_law_mix (T : Tx K mg) : ∃ fd, F_law_mix K (He.fAd K d_law_mix.at_) fd := by obtain ⟨h, X, G, c, _⟩ := T; exact c.def_ 0 (d := d_law_mix) rfl
theorem Tx.f_law_next (T : Tx K mg) : ∃ fd, F_law_next K (He.fAd K d_law_next.at_) fd := by obtain ⟨h, X, G, c, _⟩ := T; exact c.def_ 1 (d := d_law_next) rfl
theorem Tx.f_law_alike (T : Tx K mg) : ∃ fd, F_law_alike K (He.fAd K d_law_alike.at_) fd := by obtain ⟨h, X, G, c, _⟩ := T; exact c.def_ 2 (d := d_law_alike) rfl
theorem Tx.f_law_kind (T : Tx K mg) : ∃ fd, F_law_kind K (He.fAd K d_law_kind.at_) fd := by obtain ⟨h, X, G, c, _⟩ := T; exact c.def_ 3 (d := d_law_kind) rfl
theorem Tx.f_gathered (T : Tx K mg) : ∃ fd, F_gathered K (He.fAd K d_gathered.at_) fd := by obtain ⟨h, X, G, c, _⟩ := T; exact c.def_ 4 (d := d_gathered) rfl
theorem Tx.f_changed (T : Tx K mg) : ∃ fd, F_changed K (He.fAd K d_changed.at_) fd := by obtain ⟨h, X, G, c, _⟩ := T; exact c.def_ 5 (d := d_changed) rfl
theorem Tx.f_law_worker (T : Tx K mg) : ∃ fd, F_law_worker K (He.fAd K d_law_worker.at_) fd := by obtain ⟨h, X, G, c, _⟩ := T; exact c.def_ 6 (d := d_law_worker) rfl
theorem Tx.f_kept_in_mind (T : Tx K mg) : ∃ fd, F_kept_in_mind K (He.fAd K d_kept_in_mind.at_) fd := by obtain ⟨h, X, G, c, _⟩ := T; exact c.def_ 7 (d := d_kept_in_mind) rfl
theorem Tx.f_law_echo (T : Tx K mg) : ∃ fd, F_law_echo K (He.fAd K d_law_echo.at_) fd := by obtain ⟨h, X, G, c, _⟩ := T; exact c.def_ 8 (d := d_law_echo) rfl
theorem Tx.f_law_nothing (T : Tx K mg) : ∃ fd, F_law_nothing K (He.fAd K d_law_nothing.at_) fd := by obtain ⟨h, X, G, c, _⟩ := T; exact c.def_ 9 (d := d_law_nothing) rfl
theorem Tx.f_law (T : Tx K mg) : ∃ fd, F_law K (He.fAd K d_law.at_) fd := by obtain ⟨h, X, G, c, _⟩ := T; exact c.def_ 10 (d := d_law) rfl
end
def tf : List (Str × Option Str) := [("gathered", none), ("changed", none), ("_law_worker", none), ("kept_in_mind", none), ("_law_echo", none), ("_law_nothing", none), ("law", none)]
def nmT : List ((Nat × Nat) × Str) := [((41, 4), "gathered.<locals>.gather"), ((50, 11), "changed.<locals>.<lambda>"), ((100, 4), "_law_worker.<locals>._law_call"), ((54, 4), "kept_in_mind.<locals>.mind"), ((106, 4), "_law_echo.<locals>._law_call"), ((114, 4), "_law_nothing.<locals>._law_call"), ((142, 49), "law.<locals>.<lambda>"), ((152, 21), "law.<locals>.<lambda>")]
def nm (l c : Nat) : Str := (nmT.lookup (l, c)).getD Str.empty
def Ts (K : PySem.W.Frag) : List Addr := tf.map fun p => (He.cT K p).2
def Tb (K : PySem.W.Frag) (mg : Str → Option Value) (base : Heap) : Prop := ∀ p ∈ tf, LamX.TabB base mg (He.cT K p).1 (He.cT K p).2
theorem Tb.t_gathered {K : PySem.W.Frag} {mg : Str → Option Value} {base : Heap} (B : Tb K mg base) : LamX.TabB base mg (He.codeOf K ("gathered", none)) (He.cT K ("gathered", none)).2 := B ("gathered", none) (by decide +kernel)
theorem m_gathered (K : PySem.W.Frag) : (He.cT K ("gathered", none)).2 ∈ Ts K := List.mem_map_of_mem (f := fun p => (He.cT K p).2) (show (("gathered", none) : Str × Option Str) ∈ tf by decide +kernel)
theorem Tb.t_changed {K : PySem.W.Frag} {mg : Str → Option Value} {base : Heap} (B : Tb K mg base) : LamX.TabB base mg (He.codeOf K ("changed", none)) (He.cT K ("changed", none)).2 := B ("changed", none) (by decide +kernel)
theorem m_changed (K : PySem.W.Frag) : (He.cT K ("changed", none)).2 ∈ Ts K := List.mem_map_of_mem (f := fun p => (He.cT K p).2) (show (("changed", none) : Str × Option Str) ∈ tf by decide +kernel)
theorem Tb.t_law_worker {K : PySem.W.Frag} {mg : Str → Option Value} {base : Heap} (B : Tb K mg base) : LamX.TabB base mg (He.codeOf K ("_law_worker", none)) (He.cT K ("_law_worker", none)).2 := B ("_law_worker", none) (by decide +kernel)
theorem m_law_worker (K : PySem.W.Frag) : (He.cT K ("_law_worker", none)).2 ∈ Ts K := List.mem_map_of_mem (f := fun p => (He.cT K p).2) (show (("_law_worker", none) : Str × Option Str) ∈ tf by decide +kernel)
theorem Tb.t_kept_in_mind {K : PySem.W.Frag} {mg : Str → Option Value} {base : Heap} (B : Tb K mg base) : LamX.TabB base mg (He.codeOf K ("kept_in_mind", none)) (He.cT K ("kept_in_mind", none)).2 := B ("kept_in_mind", none) (by decide +kernel)
theorem m_kept_in_mind (K : PySem.W.Frag) : (He.cT K ("kept_in_mind", none)).2 ∈ Ts K := List.mem_map_of_mem (f := fun p => (He.cT K p).2) (show (("kept_in_mind", none) : Str × Option Str) ∈ tf by decide +kernel)
theorem Tb.t_law_echo {K : PySem.W.Frag} {mg : Str → Option Value} {base : Heap} (B : Tb K mg base) : LamX.TabB base mg (He.codeOf K ("_law_echo", none)) (He.cT K ("_law_echo", none)).2 := B ("_law_echo", none) (by decide +kernel)
theorem m_law_echo (K : PySem.W.Frag) : (He.cT K ("_law_echo", none)).2 ∈ Ts K := List.mem_map_of_mem (f := fun p => (He.cT K p).2) (show (("_law_echo", none) : Str × Option Str) ∈ tf by decide +kernel)
theorem Tb.t_law_nothing {K : PySem.W.Frag} {mg : Str → Option Value} {base : Heap} (B : Tb K mg base) : LamX.TabB base mg (He.codeOf K ("_law_nothing", none)) (He.cT K ("_law_nothing", none)).2 := B ("_law_nothing", none) (by decide +kernel)
theorem m_law_nothing (K : PySem.W.Frag) : (He.cT K ("_law_nothing", none)).2 ∈ Ts K := List.mem_map_of_mem (f := fun p => (He.cT K p).2) (show (("_law_nothing", none) : Str × Option Str) ∈ tf by decide +kernel)
theorem Tb.t_law {K : PySem.W.Frag} {mg : Str → Option Value} {base : Heap} (B : Tb K mg base) : LamX.TabB base mg (He.codeOf K ("law", none)) (He.cT K ("law", none)).2 := B ("law", none) (by decide +kernel)
theorem m_law (K : PySem.W.Frag) : (He.cT K ("law", none)).2 ∈ Ts K := List.mem_map_of_mem (f := fun p => (He.cT K p).2) (show (("law", none) : Str × Option Str) ∈ tf by decide +kernel)
end Hk

set_option Elab.async false
set_option linter.all false
set_option maxRecDepth 100000
set_option maxHeartbeats 4000000
namespace Hk
open PySem PySem.Spec PyProof.Rows L2
open LamX NdefX
section
variable {P : Program} {w : World} {K : PySem.W.Frag} {mg : Str → Option Value} {base : Heap}
abbrev Fwd (K : PySem.W.Frag) (S : Addr → Prop) (H H' : Hp) : Prop := Fw (Ts K) nm S H H'
abbrev Tab (K : PySem.W.Frag) (H : Hp) : Prop := Tabs1 (Ts K) nm H
end
end Hk

set_option Elab.async false
set_option linter.all false
set_option maxRecDepth 100000
set_option maxHeartbeats 4000000
namespace Hk
open PySem PySem.Spec PyProof.Rows L2
open LamX NdefX
section
variable {P : Program} {w : World} {K : PySem.W.Frag} {mg : Str → Option Value} {base : Heap}
/-! ### what is drawn from: a list of a number, the cells and a place -/
def SrcOk (H : Hp) (h l : Addr) : Prop := ∃ (m p : Int) (cs : List Int), H h = some (.lst [.int m, .ref l, .int p]) ∧ H l = some (.lst (cs.map V.int)) ∧ 0 ≤ m ∧ m < 2147483647 ∧ 0 ≤ p ∧ cs.length ≤ 63
abbrev DrS (h l : Addr) : Addr → Prop := fun b => b = h ∨ b = l
theorem SrcOk.ne {H : Hp} {h l : Addr} (s : SrcOk H h l) : h ≠ l := by
  obtain ⟨m, p, cs, e1, e2, _⟩ := s
  intro e; subst e
  rw [e1] at e2
  cases cs with
  | nil => cases e2
  | cons a r =>
    cases r with
    | nil => cases e2
    | cons b r => cases e2
def sp_law_mix (K : PySem.W.Frag) : Sp := fun vs H Q _ => ∃ (a : Addr) (ns : List Int) (sd : Int), vs = [.ref a, .int sd] ∧ SqL K H a (ns.map V.int) ∧ ns.length ≤ 63 ∧ 0 ≤ sd ∧ sd < 2147483647 ∧
  ∀ H' h l, Same H H' → H h = none → H l = none → SrcOk H' h l → Q (.ref h) H'
theorem G_law_mix (T : Tx K mg) : Glob P w K mg base (CX0) 1 "_law_mix" p_law_mix [] (sp_law_mix K) := by
  obtain ⟨fd, F⟩ := T.f_law_mix
  refine ⟨_, fd, [], F.ok sc_law_mix (fun vs H Q E h => ?_) (fun cdv A outer s H vs Q E hr h => ?_), T.g__law_mix, F.kp, .nil, F.bindsN fun _ _ _ _ _ _ us hl => match us, hl with | [_, _], _ => rfl⟩
  · obtain ⟨a, ns, sd, rfl, _⟩ := h; rfl
  · obtain ⟨a, ns, sd, rfl, hS, hn, h0, h1, q⟩ := h
    refine ⟨_, PSs.nox (pss_cons (ps_set (i := 2) sc_law_mix.nd rfl (Or.inl rfl) (pv 1))
      (pss_cons (ps_for PassesOwn.never rfl (pi_listK (K := K) rfl (pv 0)) (pg_name (i := 3) sc_law_mix.nd rfl (Or.inl rfl))
      (pss_one (ps_set (i := 2) sc_law_mix.nd rfl (Or.inl rfl) (pe_op op_mod (pe_op op_add (pe_op op_add (pe_op op_mul (pv 2) pe_int) (pe_op op_mod (pv 3) pe_int)) pe_int) pe_int))))
      (pss_one (ps_ret (pe_lst (pa_cons (pv 2) (pa_cons (pe_callTy (call_list_ofK (K := K) rfl) (by rfl) T.b_list (by decide +kernel) (pa_cons (pv 0) pa_nil)) (pa_cons pe_int pa_nil)))))))), ?_⟩
    simp only [tCutE, tIfE, false_and, exists_false, false_or, or_false, tRet, tRetN, tAndV, tOrV, tNotV, tChain, rI, rI0, rU, tC, tCB, tCons, tNil, tVar, tOp, tUn, tTest, tB, tAnd, tOr, tNot, tIf, tIfS, tSeq, tAsg, tDrop, tNext, gName, gTup_ref, gCons_cons, gNil_nil, and_assoc, tYes, wipe, rEq, rNe, scal_ss, scal_ii, scal_bb, scal_ns, scal_sn, scal_nn, scal_in, scal_ni, tLc_eq, tFor_eq, iList, iTup, iStr, iRng1, iRng2, iZip, iEnum, gSub, tSl, rSetL_ref, rCat_ref, rRep_ref, rJoin_ref, rSlL_ref, rSlS_ref, rMulS_ref, rIxL_ref, rIxT_ref, rLenK_ref, rAll_ref, rIn_ref, tLst, tTup, tPar, tPar3, tAug, tPart, tNoPart, tCall, List.getElem?_cons_zero, List.getElem?_cons_succ, List.set_cons_zero, List.set_cons_succ, List.map_cons, List.map_nil, List.append_nil, List.nil_append, List.cons_append, Option.some.injEq, exists_eq_left', exists_eq_left, exists_eq_right, exists_eq_right', exists_eq', V.int.injEq, V.str.injEq, V.bl.injEq, V.ref.injEq, List.cons.injEq, tM0, tM1, rNewStrs, sgn_eq, split_dot, split_sp, split_nl, dot_len, sp_len, nl_len, cxOf_K, L2.start, List.length_cons, List.length_nil, List.replicate_succ, List.replicate_zero, Nat.reduceSub, Nat.zero_add, and_true, true_and, and_self, exists_and_left, exists_const, Bool.false_eq_true, if_false, if_true, ite_true, ite_false, reduceIte, decide_eq_true_eq, reduceCtorEq, Nat.reduceAdd, Nat.reduceLT, tMseq, tMret, tNdef1, tThru, tCallV, tCallVF, tCallVO, tListZip, tCallX, tCallXU, tCallV, tCallVS, tLam1, tLamD, tCallS, tCls, tClsD, cx_cells, cx_scope, cx_N, cx_prog, cx_w, cx_base, cx_mg, cx_qual]
    refine ⟨⟨_, hS⟩, forG (walk_listm ns V.int) (fun i σ H' => ∃ m c, σ = [some (.ref a), some (.int sd), some (.int m), c] ∧ 0 ≤ m ∧ m < 2147483647 ∧ H' = H) ⟨sd, none, rfl, h0, h1, rfl⟩ (fun i σ H' _ ⟨m, c, _, _, _, e⟩ => by rw [e]; exact hS) (fun i x σ H1 H2 hi hP hy => ?_) (fun σ H1 hP => ?_)⟩
    · obtain ⟨m, c, rfl, hm0, hm1, rfl⟩ := hP
      obtain ⟨rfl, y, hy, rfl⟩ := hy
      simp only [tCutE, tIfE, false_and, exists_false, false_or, or_false, tRet, tRetN, tAndV, tOrV, tNotV, tChain, rI, rI0, rU, tC, tCB, tCons, tNil, tVar, tOp, tUn, tTest, tB, tAnd, tOr, tNot, tIf, tIfS, tSeq, tAsg, tDrop, tNext, gName, gTup_ref, gCons_cons, gNil_nil, and_assoc, tYes, wipe, rEq, rNe, scal_ss, scal_ii, scal_bb, scal_ns, scal_sn, scal_nn, scal_in, scal_ni, tLc_eq, tFor_eq, iList, iTup, iStr, iRng1, iRng2, iZip, iEnum, gSub, tSl, rSetL_ref, rCat_ref, rRep_ref, rJoin_ref, rSlL_ref, rSlS_ref, rMulS_ref, rIxL_ref, rIxT_ref, rLenK_ref, rAll_ref, rIn_ref, tLst, tTup, tPar, tPar3, tAug, tPart, tNoPart, tCall, List.getElem?_cons_zero, List.getElem?_cons_succ, List.set_cons_zero, List.set_cons_succ, List.map_cons, List.map_nil, List.append_nil, List.nil_append, List.cons_append, Option.some.injEq, exists_eq_left', exists_eq_left, exists_eq_right, exists_eq_right', exists_eq', V.int.injEq, V.str.injEq, V.bl.injEq, V.ref.injEq, List.cons.injEq, tM0, tM1, rNewStrs, sgn_eq, split_dot, split_sp, split_nl, dot_len, sp_len, nl_len, cxOf_K, L2.start, List.length_cons, List.length_nil, List.replicate_succ, List.replicate_zero, Nat.reduceSub, Nat.zero_add, and_true, true_and, and_self, exists_and_left, exists_const, Bool.false_eq_true, if_false, if_true, ite_true, ite_false, reduceIte, decide_eq_true_eq, reduceCtorEq, Nat.reduceAdd, Nat.reduceLT, tMseq, tMret, tNdef1, tThru, tCallV, tCallVF, tCallVO, tListZip, tCallX, tCallXU, tCallV, tCallVS, tLam1, tLamD, tCallS, tCls, tClsD, cx_cells, cx_scope, cx_N, cx_prog, cx_w, cx_base, cx_mg, cx_qual]
      refine ⟨.inr ⟨by omega, by omega⟩, by omega, by omega, ?_, ?_⟩
      · exact Int.emod_nonneg _ (by omega)
      · exact Int.emod_lt_of_pos _ (by omega)
    · obtain ⟨m, c, rfl, hm0, hm1, rfl⟩ := hP
      simp only [tCutE, tIfE, false_and, exists_false, false_or, or_false, tRet, tRetN, tAndV, tOrV, tNotV, tChain, rI, rI0, rU, tC, tCB, tCons, tNil, tVar, tOp, tUn, tTest, tB, tAnd, tOr, tNot, tIf, tIfS, tSeq, tAsg, tDrop, tNext, gName, gTup_ref, gCons_cons, gNil_nil, and_assoc, tYes, wipe, rEq, rNe, scal_ss, scal_ii, scal_bb, scal_ns, scal_sn, scal_nn, scal_in, scal_ni, tLc_eq, tFor_eq, iList, iTup, iStr, iRng1, iRng2, iZip, iEnum, gSub, tSl, rSetL_ref, rCat_ref, rRep_ref, rJoin_ref, rSlL_ref, rSlS_ref, rMulS_ref, rIxL_ref, rIxT_ref, rLenK_ref, rAll_ref, rIn_ref, tLst, tTup, tPar, tPar3, tAug, tPart, tNoPart, tCall, List.getElem?_cons_zero, List.getElem?_cons_succ, List.set_cons_zero, List.set_cons_succ, List.map_cons, List.map_nil, List.append_nil, List.nil_append, List.cons_append, Option.some.injEq, exists_eq_left', exists_eq_left, exists_eq_right, exists_eq_right', exists_eq', V.int.injEq, V.str.injEq, V.bl.injEq, V.ref.injEq, List.cons.injEq, tM0, tM1, rNewStrs, sgn_eq, split_dot, split_sp, split_nl, dot_len, sp_len, nl_len, cxOf_K, L2.start, List.length_cons, List.length_nil, List.replicate_succ, List.replicate_zero, Nat.reduceSub, Nat.zero_add, and_true, true_and, and_self, exists_and_left, exists_const, Bool.false_eq_true, if_false, if_true, ite_true, ite_false, reduceIte, decide_eq_true_eq, reduceCtorEq, Nat.reduceAdd, Nat.reduceLT, tMseq, tMret, tNdef1, tThru, tCallV, tCallVF, tCallVO, tListZip, tCallX, tCallXU, tCallV, tCallVS, tLam1, tLamD, tCallS, tCls, tClsD, cx_cells, cx_scope, cx_N, cx_prog, cx_w, cx_base, cx_mg, cx_qual]
      refine ⟨a, _, rfl, .inl hS, fun l hl => ?_⟩
      simp only [tCutE, tIfE, false_and, exists_false, false_or, or_false, tRet, tRetN, tAndV, tOrV, tNotV, tChain, rI, rI0, rU, tC, tCB, tCons, tNil, tVar, tOp, tUn, tTest, tB, tAnd, tOr, tNot, tIf, tIfS, tSeq, tAsg, tDrop, tNext, gName, gTup_ref, gCons_cons, gNil_nil, and_assoc, tYes, wipe, rEq, rNe, scal_ss, scal_ii, scal_bb, scal_ns, scal_sn, scal_nn, scal_in, scal_ni, tLc_eq, tFor_eq, iList, iTup, iStr, iRng1, iRng2, iZip, iEnum, gSub, tSl, rSetL_ref, rCat_ref, rRep_ref, rJoin_ref, rSlL_ref, rSlS_ref, rMulS_ref, rIxL_ref, rIxT_ref, rLenK_ref, rAll_ref, rIn_ref, tLst, tTup, tPar, tPar3, tAug, tPart, tNoPart, tCall, List.getElem?_cons_zero, List.getElem?_cons_succ, List.set_cons_zero, List.set_cons_succ, List.map_cons, List.map_nil, List.append_nil, List.nil_append, List.cons_append, Option.some.injEq, exists_eq_left', exists_eq_left, exists_eq_right, exists_eq_right', exists_eq', V.int.injEq, V.str.injEq, V.bl.injEq, V.ref.injEq, List.cons.injEq, tM0, tM1, rNewStrs, sgn_eq, split_dot, split_sp, split_nl, dot_len, sp_len, nl_len, cxOf_K, L2.start, List.length_cons, List.length_nil, List.replicate_succ, List.replicate_zero, Nat.reduceSub, Nat.zero_add, and_true, true_and, and_self, exists_and_left, exists_const, Bool.false_eq_true, if_false, if_true, ite_true, ite_false, reduceIte, decide_eq_true_eq, reduceCtorEq, Nat.reduceAdd, Nat.reduceLT, tMseq, tMret, tNdef1, tThru, tCallV, tCallVF, tCallVO, tListZip, tCallX, tCallXU, tCallV, tCallVS, tLam1, tLamD, tCallS, tCls, tClsD, cx_cells, cx_scope, cx_N, cx_prog, cx_w, cx_base, cx_mg, cx_qual]
      refine ⟨by decide, fun h hh => ?_⟩
      have nlh : l ≠ h := by
        intro e; subst e
        rw [upd_same] at hh; cases hh
      rw [upd_ne nlh.symm] at hh
      exact q _ h l (same_put (same_put (Same.refl _) hl) hh) hh hl ⟨m, 0, ns, upd_same, by rw [upd_ne nlh, upd_same], hm0, hm1, Int.le_refl _, hn⟩
def sp_law_next : Sp := fun vs H Q _ => ∃ (h l : Addr) (n : Int), vs = [.ref h, .int n] ∧ SrcOk H h l ∧ 0 < n ∧ n < 1073741824 ∧
  ∀ H' r, Ext (DrS h l) H H' → SrcOk H' h l → 0 ≤ r → r < n → Q (.int r) H'
theorem G_law_next (T : Tx K mg) : Glob P w K mg base (CX0) 1 "_law_next" p_law_next [] sp_law_next := by
  obtain ⟨fd, F⟩ := T.f_law_next
  refine ⟨_, fd, [], F.ok sc_law_next (fun vs H Q E h => ?_) (fun cdv A outer s H vs Q E hr h => ?_), T.g__law_next, F.kp, .nil, F.bindsN fun _ _ _ _ _ _ us hl => match us, hl with | [_, _], _ => rfl⟩
  · obtain ⟨h, l, n, rfl, _⟩ := h; rfl
  · obtain ⟨h, l, n, rfl, hS, h0, h1, q⟩ := h
    have hne := hS.ne
    obtain ⟨m, p, cs, e1, e2, hm0, hm1, hp, hc⟩ := hS
    refine ⟨_, PSs.nox (pss_cons (ps_set (i := 2) sc_law_next.nd rfl (Or.inl rfl) (pe_ix (ix_listK (K := K) rfl) (pe_op op_cat (pe_ix (ix_listK (K := K) rfl) (pv 0) pe_int (fun _ _ => rfl)) (pe_lst (pa_cons pe_int pa_nil))) (pe_op op_mod (pe_ix (ix_listK (K := K) rfl) (pv 0) pe_int (fun _ _ => rfl)) (pe_callB (call_max2 rfl) (by rfl) T.b_max (by decide +kernel) (pa_cons pe_int (pa_cons (pe_callB (call_len_seqK (K := K) rfl) (by rfl) T.b_len (by decide +kernel) (pa_cons (pe_ix (ix_listK (K := K) rfl) (pv 0) pe_int (fun _ _ => rfl)) pa_nil)) pa_nil)))) (fun _ _ => rfl)))
      (pss_cons (ps_if (pt_cmpR op_ge (pv 2) (pe_op op_pow pe_int pe_int) (nomark _))
      (pss_cons (ps_asg (pe_op op_fdiv (pv 2) (pv 1)) (pg_sub (pe_ix (ix_listK (K := K) rfl) (pv 0) pe_int (fun _ _ => rfl)) (pe_op op_mod (pe_ix (ix_listK (K := K) rfl) (pv 0) pe_int (fun _ _ => rfl)) (pe_callB (call_len_seqK (K := K) rfl) (by rfl) T.b_len (by decide +kernel) (pa_cons (pe_ix (ix_listK (K := K) rfl) (pv 0) pe_int (fun _ _ => rfl)) pa_nil))) set_list))
      (pss_one (ps_ret (pe_op op_mod (pv 2) (pv 1)))))
      pss_nil)
      (pss_cons (ps_asg (pe_op op_mod (pe_op op_add (pe_op op_add (pe_op op_mul (pe_ix (ix_listK (K := K) rfl) (pv 0) pe_int (fun _ _ => rfl)) pe_int) (pe_op op_mul (pv 2) pe_int)) pe_int) pe_int) (pg_sub (pv 0) pe_int set_list))
      (pss_cons (ps_asg (pe_op op_add (pe_ix (ix_listK (K := K) rfl) (pv 0) pe_int (fun _ _ => rfl)) pe_int) (pg_sub (pv 0) pe_int set_list))
      (pss_one (ps_ret (pe_op op_mod (pe_op op_fdiv (pe_ix (ix_listK (K := K) rfl) (pv 0) pe_int (fun _ _ => rfl)) pe_int) (pv 1)))))))), ?_⟩
    simp only [tCutE, tIfE, false_and, exists_false, false_or, or_false, tRet, tRetN, tAndV, tOrV, tNotV, tChain, rI, rI0, rU, tC, tCB, tCons, tNil, tVar, tOp, tUn, tTest, tB, tAnd, tOr, tNot, tIf, tIfS, tSeq, tAsg, tDrop, tNext, gName, gTup_ref, gCons_cons, gNil_nil, and_assoc, tYes, wipe, rEq, rNe, scal_ss, scal_ii, scal_bb, scal_ns, scal_sn, scal_nn, scal_in, scal_ni, tLc_eq, tFor_eq, iList, iTup, iStr, iRng1, iRng2, iZip, iEnum, gSub, tSl, rSetL_ref, rCat_ref, rRep_ref, rJoin_ref, rSlL_ref, rSlS_ref, rMulS_ref, rIxL_ref, rIxT_ref, rLenK_ref, rAll_ref, rIn_ref, tLst, tTup, tPar, tPar3, tAug, tPart, tNoPart, tCall, List.getElem?_cons_zero, List.getElem?_cons_succ, List.set_cons_zero, List.set_cons_succ, List.map_cons, List.map_nil, List.append_nil, List.nil_append, List.cons_append, Option.some.injEq, exists_eq_left', exists_eq_left, exists_eq_right, exists_eq_right', exists_eq', V.int.injEq, V.str.injEq, V.bl.injEq, V.ref.injEq, List.cons.injEq, tM0, tM1, rNewStrs, sgn_eq, split_dot, split_sp, split_nl, dot_len, sp_len, nl_len, cxOf_K, L2.start, List.length_cons, List.length_nil, List.replicate_succ, List.replicate_zero, Nat.reduceSub, Nat.zero_add, and_true, true_and, and_self, exists_and_left, exists_const, Bool.false_eq_true, if_false, if_true, ite_true, ite_false, reduceIte, decide_eq_true_eq, reduceCtorEq, Nat.reduceAdd, Nat.reduceLT, tMseq, tMret, tNdef1, tThru, tCallV, tCallVF, tCallVO, tListZip, tCallX, tCallXU, tCallV, tCallVS, tLam1, tLamD, tCallS, tCls, tClsD, cx_cells, cx_scope, cx_N, cx_prog, cx_w, cx_base, cx_mg, cx_qual]
    refine ⟨_, .of e1, _, rfl, by decide, fun b hb => ?_⟩
    have nhb : h ≠ b := ne_of_none e1 hb
    have nlb : l ≠ b := ne_of_none e2 hb
    refine ⟨l, b, _, _, rfl, rfl, by rw [upd_ne nlb]; exact e2, upd_same, by rw [List.length_map]; exact small (by simp; omega), fun c hc2 => ?_⟩
    have nbc : b ≠ c := by
      intro e; subst e
      rw [upd_same] at hc2; cases hc2
    have nhc : h ≠ c := by
      intro e; subst e
      rw [upd_ne nhb, e1] at hc2; cases hc2
    have nlc : l ≠ c := by
      intro e; subst e
      rw [upd_ne nlb, e2] at hc2; cases hc2
    have s1 : Ext (DrS h l) H (upd (upd H b (HO.lst [V.int 0])) c (HO.lst (List.map V.int cs ++ [V.int 0]))) := .of_same (same_new (same_put (Same.refl _) hb) hc2)
    have f1 : (upd (upd H b (HO.lst [V.int 0])) c (HO.lst (List.map V.int cs ++ [V.int 0]))) h = some (.lst [.int m, .ref l, .int p]) := by rw [upd_ne nhc, upd_ne nhb]; exact e1
    have f2 : (upd (upd H b (HO.lst [V.int 0])) c (HO.lst (List.map V.int cs ++ [V.int 0]))) l = some (.lst (cs.map V.int)) := by rw [upd_ne nlc, upd_ne nlb]; exact e2
    have f3 : (upd (upd H b (HO.lst [V.int 0])) c (HO.lst (List.map V.int cs ++ [V.int 0]))) c = some (.lst ((cs ++ [0]).map V.int)) := by rw [upd_same, List.map_append]; rfl
    generalize upd (upd H b (HO.lst [V.int 0])) c (HO.lst (List.map V.int cs ++ [V.int 0])) = H1 at s1 f1 f2 f3
    refine ⟨_, .of f1, _, rfl, _, .of f1, _, rfl, ?_⟩
    simp only [tCutE, tIfE, false_and, exists_false, false_or, or_false, tRet, tRetN, tAndV, tOrV, tNotV, tChain, rI, rI0, rU, tC, tCB, tCons, tNil, tVar, tOp, tUn, tTest, tB, tAnd, tOr, tNot, tIf, tIfS, tSeq, tAsg, tDrop, tNext, gName, gTup_ref, gCons_cons, gNil_nil, and_assoc, tYes, wipe, rEq, rNe, scal_ss, scal_ii, scal_bb, scal_ns, scal_sn, scal_nn, scal_in, scal_ni, tLc_eq, tFor_eq, iList, iTup, iStr, iRng1, iRng2, iZip, iEnum, gSub, tSl, rSetL_ref, rCat_ref, rRep_ref, rJoin_ref, rSlL_ref, rSlS_ref, rMulS_ref, rIxL_ref, rIxT_ref, rLenK_ref, rAll_ref, rIn_ref, tLst, tTup, tPar, tPar3, tAug, tPart, tNoPart, tCall, List.getElem?_cons_zero, List.getElem?_cons_succ, List.set_cons_zero, List.set_cons_succ, List.map_cons, List.map_nil, List.append_nil, List.nil_append, List.cons_append, Option.some.injEq, exists_eq_left', exists_eq_left, exists_eq_right, exists_eq_right', exists_eq', V.int.injEq, V.str.injEq, V.bl.injEq, V.ref.injEq, List.cons.injEq, tM0, tM1, rNewStrs, sgn_eq, split_dot, split_sp, split_nl, dot_len, sp_len, nl_len, cxOf_K, L2.start, List.length_cons, List.length_nil, List.replicate_succ, List.replicate_zero, Nat.reduceSub, Nat.zero_add, and_true, true_and, and_self, exists_and_left, exists_const, Bool.false_eq_true, if_false, if_true, ite_true, ite_false, reduceIte, decide_eq_true_eq, reduceCtorEq, Nat.reduceAdd, Nat.reduceLT, tMseq, tMret, tNdef1, tThru, tCallV, tCallVF, tCallVO, tListZip, tCallX, tCallXU, tCallV, tCallVS, tLam1, tLamD, tCallS, tCls, tClsD, cx_cells, cx_scope, cx_N, cx_prog, cx_w, cx_base, cx_mg, cx_qual]
    refine ⟨_, .inl (.of f2), ?_⟩
    rw [List.length_map]
    have hd : (0 : Int) < if (cs.length : Int) > 1 then (cs.length : Int) else 1 := by split <;> omega
    refine ⟨hd, ?_⟩
    have hd1 : (if (cs.length : Int) > 1 then (cs.length : Int) else 1) ≤ (cs ++ [0]).length := by rw [List.length_append]; simp only [List.length_singleton]; split <;> omega
    have hi0 := Int.emod_nonneg p (b := if (cs.length : Int) > 1 then (cs.length : Int) else 1) (by omega)
    have hi1 := Int.emod_lt_of_pos p hd
    generalize hD : (if (cs.length : Int) > 1 then (cs.length : Int) else 1) = D at hd hd1 hi0 hi1
    have hix : ((p % D).toNat : Nat) < (cs ++ [0]).length := by omega
    have hci : (cs ++ [(0 : Int)])[(p % D).toNat]? = some ((cs ++ [0])[(p % D).toNat]) := List.getElem?_eq_getElem hix
    generalize (cs ++ [(0 : Int)])[(p % D).toNat] = cell at hci
    have hat : atI ((cs ++ [0]).map V.int) (p % D) = some (.int cell) := by
      have e : (p % D) = (((p % D).toNat : Nat) : Int) := by omega
      rw [e]
      refine atI_nat ?_
      rw [List.getElem?_map, hci]; rfl
    refine ⟨_, .of f3, _, hat, ⟨by decide, by decide, by decide⟩, _, rfl, ?_⟩
    split
    · rename_i hbig
      have hcs : 0 < cs.length := by
        rcases Nat.eq_zero_or_pos cs.length with e | e
        · exfalso
          have ec : cs = [] := List.eq_nil_of_length_eq_zero e
          subst ec
          have ex : (p % D).toNat = 0 := by simp at hix; omega
          rw [ex] at hci
          have := Option.some.inj hci
          subst this
          exact absurd hbig (by decide)
        · exact e
      simp only [tCutE, tIfE, false_and, exists_false, false_or, or_false, tRet, tRetN, tAndV, tOrV, tNotV, tChain, rI, rI0, rU, tC, tCB, tCons, tNil, tVar, tOp, tUn, tTest, tB, tAnd, tOr, tNot, tIf, tIfS, tSeq, tAsg, tDrop, tNext, gName, gTup_ref, gCons_cons, gNil_nil, and_assoc, tYes, wipe, rEq, rNe, scal_ss, scal_ii, scal_bb, scal_ns, scal_sn, scal_nn, scal_in, scal_ni, tLc_eq, tFor_eq, iList, iTup, iStr, iRng1, iRng2, iZip, iEnum, gSub, tSl, rSetL_ref, rCat_ref, rRep_ref, rJoin_ref, rSlL_ref, rSlS_ref, rMulS_ref, rIxL_ref, rIxT_ref, rLenK_ref, rAll_ref, rIn_ref, tLst, tTup, tPar, tPar3, tAug, tPart, tNoPart, tCall, List.getElem?_cons_zero, List.getElem?_cons_succ, List.set_cons_zero, List.set_cons_succ, List.map_cons, List.map_nil, List.append_nil, List.nil_append, List.cons_append, Option.some.injEq, exists_eq_left', exists_eq_left, exists_eq_right, exists_eq_right', exists_eq', V.int.injEq, V.str.injEq, V.bl.injEq, V.ref.injEq, List.cons.injEq, tM0, tM1, rNewStrs, sgn_eq, split_dot, split_sp, split_nl, dot_len, sp_len, nl_len, cxOf_K, L2.start, List.length_cons, List.length_nil, List.replicate_succ, List.replicate_zero, Nat.reduceSub, Nat.zero_add, and_true, true_and, and_self, exists_and_left, exists_const, Bool.false_eq_true, if_false, if_true, ite_true, ite_false, reduceIte, decide_eq_true_eq, reduceCtorEq, Nat.reduceAdd, Nat.reduceLT, tMseq, tMret, tNdef1, tThru, tCallV, tCallVF, tCallVO, tListZip, tCallX, tCallXU, tCallV, tCallVS, tLam1, tLamD, tCallS, tCls, tClsD, cx_cells, cx_scope, cx_N, cx_prog, cx_w, cx_base, cx_mg, cx_qual]
      refine ⟨⟨h0, h1⟩, _, .of f1, _, rfl, _, .of f1, _, rfl, _, .of f1, _, rfl, ?_⟩
      simp only [tCutE, tIfE, false_and, exists_false, false_or, or_false, tRet, tRetN, tAndV, tOrV, tNotV, tChain, rI, rI0, rU, tC, tCB, tCons, tNil, tVar, tOp, tUn, tTest, tB, tAnd, tOr, tNot, tIf, tIfS, tSeq, tAsg, tDrop, tNext, gName, gTup_ref, gCons_cons, gNil_nil, and_assoc, tYes, wipe, rEq, rNe, scal_ss, scal_ii, scal_bb, scal_ns, scal_sn, scal_nn, scal_in, scal_ni, tLc_eq, tFor_eq, iList, iTup, iStr, iRng1, iRng2, iZip, iEnum, gSub, tSl, rSetL_ref, rCat_ref, rRep_ref, rJoin_ref, rSlL_ref, rSlS_ref, rMulS_ref, rIxL_ref, rIxT_ref, rLenK_ref, rAll_ref, rIn_ref, tLst, tTup, tPar, tPar3, tAug, tPart, tNoPart, tCall, List.getElem?_cons_zero, List.getElem?_cons_succ, List.set_cons_zero, List.set_cons_succ, List.map_cons, List.map_nil, List.append_nil, List.nil_append, List.cons_append, Option.some.injEq, exists_eq_left', exists_eq_left, exists_eq_right, exists_eq_right', exists_eq', V.int.injEq, V.str.injEq, V.bl.injEq, V.ref.injEq, List.cons.injEq, tM0, tM1, rNewStrs, sgn_eq, split_dot, split_sp, split_nl, dot_len, sp_len, nl_len, cxOf_K, L2.start, List.length_cons, List.length_nil, List.replicate_succ, List.replicate_zero, Nat.reduceSub, Nat.zero_add, and_true, true_and, and_self, exists_and_left, exists_const, Bool.false_eq_true, if_false, if_true, ite_true, ite_false, reduceIte, decide_eq_true_eq, reduceCtorEq, Nat.reduceAdd, Nat.reduceLT, tMseq, tMret, tNdef1, tThru, tCallV, tCallVF, tCallVO, tListZip, tCallX, tCallXU, tCallV, tCallVS, tLam1, tLamD, tCallS, tCls, tClsD, cx_cells, cx_scope, cx_N, cx_prog, cx_w, cx_base, cx_mg, cx_qual]
      refine ⟨_, .inl (.of f2), ?_⟩
      rw [List.length_map]
      have hr0 := Int.emod_nonneg p (b := (cs.length : Int)) (by omega)
      have hr1 := Int.emod_lt_of_pos p (b := (cs.length : Int)) (by omega)
      refine ⟨by omega, _, f2, _, ixN_in hr0 (by rw [List.length_map]; exact hr1), h0, ?_⟩
      refine q _ _ (s1.trans ((Ext.refl _ _).put (.inr (.inr rfl)))) ⟨m, p, cs.set (p % (cs.length : Int)).toNat (cell / n), by rw [upd_ne hne]; exact f1, by rw [upd_same, List.map_set], hm0, hm1, hp, by rw [List.length_set]; exact hc⟩ (Int.emod_nonneg _ (by omega)) (Int.emod_lt_of_pos _ h0)
    · rename_i hsm
      simp only [tCutE, tIfE, false_and, exists_false, false_or, or_false, tRet, tRetN, tAndV, tOrV, tNotV, tChain, rI, rI0, rU, tC, tCB, tCons, tNil, tVar, tOp, tUn, tTest, tB, tAnd, tOr, tNot, tIf, tIfS, tSeq, tAsg, tDrop, tNext, gName, gTup_ref, gCons_cons, gNil_nil, and_assoc, tYes, wipe, rEq, rNe, scal_ss, scal_ii, scal_bb, scal_ns, scal_sn, scal_nn, scal_in, scal_ni, tLc_eq, tFor_eq, iList, iTup, iStr, iRng1, iRng2, iZip, iEnum, gSub, tSl, rSetL_ref, rCat_ref, rRep_ref, rJoin_ref, rSlL_ref, rSlS_ref, rMulS_ref, rIxL_ref, rIxT_ref, rLenK_ref, rAll_ref, rIn_ref, tLst, tTup, tPar, tPar3, tAug, tPart, tNoPart, tCall, List.getElem?_cons_zero, List.getElem?_cons_succ, List.set_cons_zero, List.set_cons_succ, List.map_cons, List.map_nil, List.append_nil, List.nil_append, List.cons_append, Option.some.injEq, exists_eq_left', exists_eq_left, exists_eq_right, exists_eq_right', exists_eq', V.int.injEq, V.str.injEq, V.bl.injEq, V.ref.injEq, List.cons.injEq, tM0, tM1, rNewStrs, sgn_eq, split_dot, split_sp, split_nl, dot_len, sp_len, nl_len, cxOf_K, L2.start, List.length_cons, List.length_nil, List.replicate_succ, List.replicate_zero, Nat.reduceSub, Nat.zero_add, and_true, true_and, and_self, exists_and_left, exists_const, Bool.false_eq_true, if_false, if_true, ite_true, ite_false, reduceIte, decide_eq_true_eq, reduceCtorEq, Nat.reduceAdd, Nat.reduceLT, tMseq, tMret, tNdef1, tThru, tCallV, tCallVF, tCallVO, tListZip, tCallX, tCallXU, tCallV, tCallVS, tLam1, tLamD, tCallS, tCls, tClsD, cx_cells, cx_scope, cx_N, cx_prog, cx_w, cx_base, cx_mg, cx_qual]
      refine ⟨_, .of f1, _, rfl, _, rfl, .inr ⟨by decide, by decide⟩, .inr ⟨by decide, by decide⟩, by decide, _, f1, 0, rfl, _, .of upd_same, _, rfl, _, rfl, _, upd_same, 2, rfl, _, .of upd_same, _, rfl, _, rfl, ⟨by decide, by decide⟩, h0, ?_⟩
      refine q _ _ (s1.trans (((Ext.refl _ _).put (.inr (.inl rfl))).put (.inr (.inl rfl)))) ⟨_, _, cs, upd_same, by rw [upd_ne hne.symm, upd_ne hne.symm]; exact f2, Int.emod_nonneg _ (by decide), Int.emod_lt_of_pos _ (by decide), by omega, hc⟩ (Int.emod_nonneg _ (by omega)) (Int.emod_lt_of_pos _ h0)
theorem SrcOk.put {H : Hp} {h l D : Addr} {o : HO} (s : SrcOk H h l) (n1 : D ≠ h) (n2 : D ≠ l) : SrcOk (upd H D o) h l := by
  obtain ⟨m, p, cs, e1, e2, r⟩ := s
  exact ⟨m, p, cs, by rw [upd_ne n1.symm]; exact e1, by rw [upd_ne n2.symm]; exact e2, r⟩
theorem SrcOk.neD {H : Hp} {h l D : Addr} (s : SrcOk H h l) (n : H D = none) : D ≠ h ∧ D ≠ l := by
  obtain ⟨m, p, cs, e1, e2, r⟩ := s
  exact ⟨(ne_of_none e1 n).symm, (ne_of_none e2 n).symm⟩
theorem SrcOk.new {H : Hp} {h l D : Addr} {o : HO} (s : SrcOk H h l) (n : H D = none) : SrcOk (upd H D o) h l := s.put (s.neD n).1 (s.neD n).2
theorem Ext.new {S : Addr → Prop} {H H1 : Hp} {p : Addr} {o : HO} (s : Ext S H H1) (n : H1 p = none) (hS : ¬ S p) : Ext S H (upd H1 p o) := s.put (.inl (s.free hS n))
theorem SrcOk.nD {H : Hp} {h l D : Addr} (s : SrcOk H h l) (n : H D = none) : ¬ DrS h l D := fun z => z.elim (s.neD n).1 (s.neD n).2
theorem SrcOk.same {H H' : Hp} {h l : Addr} (s : SrcOk H h l) (e : Same H H') : SrcOk H' h l := by
  obtain ⟨m, pp, cs, e1, e2, r⟩ := s
  exact ⟨m, pp, cs, e _ _ e1, e _ _ e2, r⟩
theorem SrcOk.off {H : Hp} {h l D : Addr} (s : SrcOk H h l) (n1 : D ≠ h) (n2 : D ≠ l) : SrcOk (offA D H) h l := by
  obtain ⟨m, pp, cs, e1, e2, r⟩ := s
  exact ⟨m, pp, cs, by rw [offA_ne n1.symm]; exact e1, by rw [offA_ne n2.symm]; exact e2, r⟩
theorem SrcOk.tups {H H' : Hp} {h l : Addr} (s : SrcOk H h l) (e : Ext (DrS h l) H H') : ∀ t x, H t = some (.tup x) → H' t = some (.tup x) := fun t x ht => by
  obtain ⟨m, pp, cs, e1, e2, r⟩ := s
  refine e t _ (fun z => ?_) ht
  rcases z with z | z
  · rw [z, e1] at ht; cases ht
  · rw [z, e2] at ht; cases ht
end
end Hk

set_option Elab.async false
set_option linter.all false
set_option maxRecDepth 100000
set_option maxHeartbeats 4000000
namespace Hk
open PySem PySem.Spec PyProof.Rows L2
open LamX NdefX
section
variable {P : Program} {w : World} {K : PySem.W.Frag} {mg : Str → Option Value} {base : Heap}
/-! ### _law_alike: the same data -/
def sp_law_alike (K : PySem.W.Frag) (n : Nat) : Sp := fun vs H Q _ => ∃ (v u : V) (d : PyData), vs = [v, u] ∧ Dp K H v d ∧ Dp K H u d ∧ d.depth < n ∧ smallD d = true ∧ ∀ H', Same H H' → Q (.bl true) H'
theorem G_law_alike (T : Tx K mg) : ∀ n : Nat, Glob P w K mg base CX0 (n + 1) "_law_alike" p_law_alike [] (sp_law_alike K n) := by
  intro n
  obtain ⟨fd, F⟩ := T.f_law_alike
  induction n with
  | zero =>
    refine ⟨_, fd, [], ⟨fun vs H Q E h => ?_, fun A outer s H args us vs Q E _ _ _ _ h => ?_⟩, T.g__law_alike, F.kp, .nil, F.bindsN fun _ _ _ _ _ _ us hl => match us, hl with | [_, _], _ => rfl⟩
    · obtain ⟨v, u, d, rfl, _⟩ := h; rfl
    · obtain ⟨v, u, d, _, _, _, hd, _⟩ := h; omega
  | succ n ih =>
    refine ⟨_, fd, [], F.ok sc_law_alike (fun vs H Q E h => ?_) (fun cdv A outer s H vs Q E hr h => ?_), T.g__law_alike, F.kp, .nil, F.bindsN fun _ _ _ _ _ _ us hl => match us, hl with | [_, _], _ => rfl⟩
    · obtain ⟨v, u, d, rfl, _⟩ := h; rfl
    · obtain ⟨v, u, d, rfl, h1, h2, hd, hs, q⟩ := h
      refine ⟨_, PSs.nox (pss_cons (ps_if (pt_val (pe_callB (call_isiTK (K := K) rfl) (by rfl) T.b_isinstance (by decide +kernel) (pa_cons (pv 1) (pa_cons (pe_tup (pa_cons (pe_bltn (v := .ty "tuple") (by rfl) T.b_tuple (by decide +kernel) rfl) (pa_cons (pe_bltn (v := .ty "list") (by rfl) T.b_list (by decide +kernel) rfl) pa_nil))) pa_nil))))
      (pss_cons (ps_if (PW.pt (pw_or (pt_not (pt_val (pe_callB (call_isiTK (K := K) rfl) (by rfl) T.b_isinstance (by decide +kernel) (pa_cons (pv 0) (pa_cons (pe_tup (pa_cons (pe_bltn (v := .ty "tuple") (by rfl) T.b_tuple (by decide +kernel) rfl) (pa_cons (pe_bltn (v := .ty "list") (by rfl) T.b_list (by decide +kernel) rfl) pa_nil))) pa_nil))))) (pw_or1 (pt_cmpR op_ne (pe_callB (call_isiK1 (K := K) rfl) (by rfl) T.b_isinstance (by decide +kernel) (pa_cons (pv 0) (pa_cons (pe_bltn (v := .ty "list") (by rfl) T.b_list (by decide +kernel) rfl) pa_nil))) (pe_callB (call_isiK1 (K := K) rfl) (by rfl) T.b_isinstance (by decide +kernel) (pa_cons (pv 1) (pa_cons (pe_bltn (v := .ty "list") (by rfl) T.b_list (by decide +kernel) rfl) pa_nil))) (nomark _)))))
      (pss_one (ps_ret pe_bl))
      pss_nil)
      (pss_cons (ps_if (pt_cmpR op_ne (pe_callB (call_len_seqK (K := K) rfl) (by rfl) T.b_len (by decide +kernel) (pa_cons (pv 0) pa_nil)) (pe_callB (call_len_seqK (K := K) rfl) (by rfl) T.b_len (by decide +kernel) (pa_cons (pv 1) pa_nil)) (nomark _))
      (pss_one (ps_ret pe_bl))
      pss_nil)
      (pss_one (ps_ret (pe_cmpR (op_eqDK (K := K) rfl hr.units) (pe_lc (own := [("_law_k", 2)]) (g := (gName 2)) rfl sc_law_alike.nd (pi_range1 (by rfl) T.b_range (pa_cons (pe_callB (call_len_seqK (K := K) rfl) (by rfl) T.b_len (by decide +kernel) (pa_cons (pv 1) pa_nil)) pa_nil)) (blkOk_by (by kernel_rfl)) (fun _ _ _ _ _ => (pg_name (i := 2) sc_law_alike.nd rfl (Or.inl rfl))) (fun _ _ _ _ _ => (pts_one (pt_not (pt_val (pe_callG ih hr (by rfl) pass0 (pa_cons (pe_ix (ix_seqK (K := K) rfl) (pv 0) (pv 2) (fun _ _ => rfl)) (pa_cons (pe_ix (ix_seqK (K := K) rfl) (pv 1) (pv 2) (fun _ _ => rfl)) pa_nil))))))) (fun _ _ _ _ _ => (pv 2))) (pe_lst pa_nil) (nomark _))))))
      pss_nil)
      (pss_cons (ps_if (PW.pt (pw_or (pt_cmpR op_isN (pv 1) pe_non (nomark _)) (pw_or1 (pt_val (pe_callB (call_isiK1 (K := K) rfl) (by rfl) T.b_isinstance (by decide +kernel) (pa_cons (pv 1) (pa_cons (pe_bltn (v := .ty "str") (by rfl) T.b_str (by decide +kernel) rfl) pa_nil)))))))
      (pss_one (ps_ret (pe_and (pe_cmpR op_eq (pv 0) (pv 1) (nomark _)) (pe_one (pe_cmpR op_eq (pe_callB (call_isiK1 (K := K) rfl) (by rfl) T.b_isinstance (by decide +kernel) (pa_cons (pv 0) (pa_cons (pe_bltn (v := .ty "str") (by rfl) T.b_str (by decide +kernel) rfl) pa_nil))) (pe_callB (call_isiK1 (K := K) rfl) (by rfl) T.b_isinstance (by decide +kernel) (pa_cons (pv 1) (pa_cons (pe_bltn (v := .ty "str") (by rfl) T.b_str (by decide +kernel) rfl) pa_nil))) (nomark _))))))
      pss_nil)
      (pss_one (ps_ret (pe_and (pe_callB (call_isiK1 (K := K) rfl) (by rfl) T.b_isinstance (by decide +kernel) (pa_cons (pv 0) (pa_cons (pe_bltn (v := .ty "int") (by rfl) T.b_int (by decide +kernel) rfl) pa_nil))) (pe_and (pe_cmpR op_eq (pe_callB (call_isiK1 (K := K) rfl) (by rfl) T.b_isinstance (by decide +kernel) (pa_cons (pv 0) (pa_cons (pe_bltn (v := .ty "bool") (by rfl) T.b_bool (by decide +kernel) rfl) pa_nil))) (pe_callB (call_isiK1 (K := K) rfl) (by rfl) T.b_isinstance (by decide +kernel) (pa_cons (pv 1) (pa_cons (pe_bltn (v := .ty "bool") (by rfl) T.b_bool (by decide +kernel) rfl) pa_nil))) (nomark _)) (pe_one (pe_cmpR op_eq (pv 0) (pv 1) (nomark _))))))))), ?_⟩
      simp only [tCutE, tIfE, false_and, exists_false, false_or, or_false, tRet, tRetN, tAndV, tOrV, tNotV, tChain, rI, rI0, rU, tC, tCB, tCons, tNil, tVar, tOp, tUn, tTest, tB, tAnd, tOr, tNot, tIf, tIfS, tSeq, tAsg, tDrop, tNext, gName, gTup_ref, gCons_cons, gNil_nil, and_assoc, tYes, wipe, rEq, rNe, scal_ss, scal_ii, scal_bb, scal_ns, scal_sn, scal_nn, scal_in, scal_ni, tLc_eq, tFor_eq, iList, iTup, iStr, iRng1, iRng2, iZip, iEnum, gSub, tSl, rSetL_ref, rCat_ref, rRep_ref, rJoin_ref, rSlL_ref, rSlS_ref, rMulS_ref, rIxL_ref, rIxT_ref, rLenK_ref, rAll_ref, rIn_ref, tLst, tTup, tPar, tPar3, tAug, tPart, tNoPart, tCall, List.getElem?_cons_zero, List.getElem?_cons_succ, List.set_cons_zero, List.set_cons_succ, List.map_cons, List.map_nil, List.append_nil, List.nil_append, List.cons_append, Option.some.injEq, exists_eq_left', exists_eq_left, exists_eq_right, exists_eq_right', exists_eq', V.int.injEq, V.str.injEq, V.bl.injEq, V.ref.injEq, List.cons.injEq, tM0, tM1, rNewStrs, sgn_eq, split_dot, split_sp, split_nl, dot_len, sp_len, nl_len, cxOf_K, L2.start, List.length_cons, List.length_nil, List.replicate_succ, List.replicate_zero, Nat.reduceSub, Nat.zero_add, and_true, true_and, and_self, exists_and_left, exists_const, Bool.false_eq_true, if_false, if_true, ite_true, ite_false, reduceIte, decide_eq_true_eq, reduceCtorEq, Nat.reduceAdd, Nat.reduceLT, tMseq, tMret, tNdef1, tThru, tCallV, tCallVF, tCallVO, tListZip, tCallX, tCallXU, tCallV, tCallVS, tLam1, tLamD, tCallS, tCls, tClsD, cx_cells, cx_scope, cx_N, cx_prog, cx_w, cx_base, cx_mg, cx_qual]
      refine ⟨by decide, fun p hp => ?_⟩
      have s1 : Same H (upd H p (HO.tup [V.ty "tuple", V.ty "list"])) := same_put (Same.refl _) hp
      have k1 := dp_same s1 h1
      have k2 := dp_same s1 h2
      have seqs : ∀ (ds : List PyData), PyData.depthAll ds < n → ∀ (vs us : List V) (a b : Addr) (Ha : Hp), DpAll K Ha vs ds → DpAll K Ha us ds → (SqL K Ha a vs ∨ SqT K Ha a vs) → (SqL K Ha b us ∨ SqT K Ha b us) → Same H Ha → smallAll ds = true → ds.length ≤ 100000 →
          rLenK K [V.ref a] Ha fun x H1 => rLenK K [V.ref b] H1 fun y H2 => scal x y = true ∧ if (!decide (x = y)) = true then Q (V.bl false) H2 else
            rLenK K [V.ref b] H2 fun x H1 => ∃ j, x = V.int j ∧ -2 ^ 62 ≤ j ∧ j < 2 ^ 62 ∧ LcG (Itr 0 j.toNat) (gName 2) (tNot (tB (tCall (sp_law_alike K n) [] E0 (tCons (tOp (rIx K) (tVar 0) (tVar 2)) (tCons (tOp (rIx K) (tVar 1) (tVar 2)) tNil)))))
              (tVar 2) [2] [some (V.ref a), some (V.ref b), none] H1 fun x H1 => 0 ≤ sizeLine ∧ ∀ (p : Addr), H1 p = none → rEqD K x (V.ref p) (upd H1 p (HO.lst [])) Q := by
        intro ds hdd vs us a b Ha d1 d2 q1 q2 sa hsm hsz
        have l1 := dpAll_len d1
        have l2 := dpAll_len d2
        refine ⟨a, vs, rfl, q1, b, us, rfl, q2, rfl, ?_⟩
        rw [l1, l2]
        simp only [decide_true, Bool.not_true, Bool.false_eq_true, if_false]
        refine ⟨b, us, rfl, q2, _, rfl, by omega, by omega, ?_⟩
        rw [l2, Int.toNat_natCast]
        refine lc_acc walk_range No (fun _ => True) (fun i acc => acc = []) (smallLt (by omega)) (fun _ _ z => z) rfl trivial (fun _ _ _ _ _ => trivial) (fun _ _ _ => trivial) (fun i x Hb Hc acc R hi xb _ pa hy r0 r1 => ?_) (fun D acc Hb nD pa la xb _ hD => ?_)
        · obtain ⟨rfl, rfl⟩ := hy
          subst pa
          simp only [tCutE, tIfE, false_and, exists_false, false_or, or_false, tRet, tRetN, tAndV, tOrV, tNotV, tChain, rI, rI0, rU, tC, tCB, tCons, tNil, tVar, tOp, tUn, tTest, tB, tAnd, tOr, tNot, tIf, tIfS, tSeq, tAsg, tDrop, tNext, gName, gTup_ref, gCons_cons, gNil_nil, and_assoc, tYes, wipe, rEq, rNe, scal_ss, scal_ii, scal_bb, scal_ns, scal_sn, scal_nn, scal_in, scal_ni, tLc_eq, tFor_eq, iList, iTup, iStr, iRng1, iRng2, iZip, iEnum, gSub, tSl, rSetL_ref, rCat_ref, rRep_ref, rJoin_ref, rSlL_ref, rSlS_ref, rMulS_ref, rIxL_ref, rIxT_ref, rLenK_ref, rAll_ref, rIn_ref, tLst, tTup, tPar, tPar3, tAug, tPart, tNoPart, tCall, List.getElem?_cons_zero, List.getElem?_cons_succ, List.set_cons_zero, List.set_cons_succ, List.map_cons, List.map_nil, List.append_nil, List.nil_append, List.cons_append, Option.some.injEq, exists_eq_left', exists_eq_left, exists_eq_right, exists_eq_right', exists_eq', V.int.injEq, V.str.injEq, V.bl.injEq, V.ref.injEq, List.cons.injEq, tM0, tM1, rNewStrs, sgn_eq, split_dot, split_sp, split_nl, dot_len, sp_len, nl_len, cxOf_K, L2.start, List.length_cons, List.length_nil, List.replicate_succ, List.replicate_zero, Nat.reduceSub, Nat.zero_add, and_true, true_and, and_self, exists_and_left, exists_const, Bool.false_eq_true, if_false, if_true, ite_true, ite_false, reduceIte, decide_eq_true_eq, reduceCtorEq, Nat.reduceAdd, Nat.reduceLT, tMseq, tMret, tNdef1, tThru, tCallV, tCallVF, tCallVO, tListZip, tCallX, tCallXU, tCallV, tCallVS, tLam1, tLamD, tCallS, tCls, tClsD, cx_cells, cx_scope, cx_N, cx_prog, cx_w, cx_base, cx_mg, cx_qual]
          have sb : Same Ha Hc := xb.same
          have hx : ds[i]? = some ds[i] := List.getElem?_eq_getElem hi
          obtain ⟨v1, e1, f1⟩ := dpAll_get d1 hx
          obtain ⟨v2, e2, f2⟩ := dpAll_get d2 hx
          have at1 : atI vs (0 + (i : Int)) = some v1 := by rw [Int.zero_add]; exact atI_nat e1
          have at2 : atI us (0 + (i : Int)) = some v2 := by rw [Int.zero_add]; exact atI_nat e2
          have get : ∀ (a : Addr) (xs : List V) (v : V) (i : Int) (Hz : Hp) (Rz : VK), (SqL K Hz a xs ∨ SqT K Hz a xs) → atI xs i = some v → Rz v Hz → rIx K (V.ref a) (V.int i) Hz Rz := fun a xs v i Hz Rz hq ha hr => by
            rcases hq with hq | hq
            · exact .inl ⟨a, xs, i, v, rfl, rfl, hq, ha, hr⟩
            · exact .inr (.inl ⟨a, xs, i, v, rfl, rfl, hq, ha, hr⟩)
          have up : ∀ (a : Addr) (xs : List V), (SqL K Ha a xs ∨ SqT K Ha a xs) → (SqL K Hc a xs ∨ SqT K Hc a xs) := fun a xs h => h.elim (fun h => .inl (sb.seq h)) (fun h => .inr (same_tup sb h))
          refine get a vs v1 _ _ _ (up a vs q1) at1 ?_
          refine get b us v2 _ _ _ (up b us q2) at2 ?_
          refine ⟨v1, v2, ds[i], rfl, dp_same sb f1, dp_same sb f2, ?_, small_in hsm _ (List.getElem_mem hi), fun H' s' => ⟨_, rfl, ?_⟩⟩
          · have := depth_in (List.getElem_mem hi)
            omega
          · simp only [Bool.not_true, Bool.false_eq_true, if_false]
            exact r0 _ (.of_same s') trivial rfl
        · subst pa
          refine ⟨by decide, fun t ht => ⟨.list [], .list [], .lst (.of (by rw [upd_ne (ne_of_none hD ht)]; exact hD)) .nil, .lst (.of upd_same) .nil, by decide, by decide, ?_⟩⟩
          rw [eqv_nil]
          exact q _ (same_new (sa.trans xb.same) ht)
      cases h1 with
      | non =>
        cases h2
        refine isiT_dp .non upd_same (b := false) (c := false) kb_NoneType_tuple kb_NoneType_list ⟨_, rfl, ?_⟩
        simp only [Bool.or_self, Bool.false_eq_true, if_false, if_true]
        refine ⟨rfl, isi_dp .non (b := false) kb_NoneType_str (isi_dp .non (b := false) kb_NoneType_str ⟨rfl, ?_⟩)⟩
        simp only [decide_true]
        exact q _ s1
      | bl x =>
        cases h2
        refine isiT_dp (.bl x) upd_same (b := false) (c := false) kb_bool_tuple kb_bool_list ⟨_, rfl, ?_⟩
        simp only [Bool.or_self, Bool.false_eq_true, if_false, reduceCtorEq]
        refine isi_dp (.bl x) (b := false) kb_bool_str ⟨_, rfl, ?_⟩
        simp only [Bool.false_eq_true, if_false]
        refine isi_dp (.bl x) (b := true) kb_bool_int ⟨_, rfl, ?_⟩
        simp only [if_true]
        refine isi_dp (.bl x) (b := true) kb_bool_bool (isi_dp (.bl x) (b := true) kb_bool_bool ⟨rfl, ?_⟩)
        simp only [if_true, decide_true]
        exact ⟨rfl, q _ s1⟩
      | int x =>
        cases h2
        refine isiT_dp (.int x) upd_same (b := false) (c := false) kb_int_tuple kb_int_list ⟨_, rfl, ?_⟩
        simp only [Bool.or_self, Bool.false_eq_true, if_false, reduceCtorEq]
        refine isi_dp (.int x) (b := false) kb_int_str ⟨_, rfl, ?_⟩
        simp only [Bool.false_eq_true, if_false]
        refine isi_dp (.int x) (b := true) kb_int_int ⟨_, rfl, ?_⟩
        simp only [if_true]
        refine isi_dp (.int x) (b := false) kb_int_bool (isi_dp (.int x) (b := false) kb_int_bool ⟨rfl, ?_⟩)
        simp only [if_true, decide_true]
        exact ⟨rfl, q _ s1⟩
      | str x =>
        cases h2
        refine isiT_dp (.str x) upd_same (b := false) (c := false) kb_str_tuple kb_str_list ⟨_, rfl, ?_⟩
        simp only [Bool.or_self, Bool.false_eq_true, if_false, reduceCtorEq]
        refine isi_dp (.str x) (b := true) kb_str_str ⟨_, rfl, ?_⟩
        simp only [if_true]
        refine ⟨rfl, isi_dp (.str x) (b := true) kb_str_str (isi_dp (.str x) (b := true) kb_str_str ⟨rfl, ?_⟩)⟩
        simp only [decide_true]
        exact q _ s1
      | @lst a xs ds ha da =>
        cases h2 with
        | @lst b ys _ hb db =>
          refine isiT_dp k2 upd_same (b := false) (c := true) kb_list_tuple kb_list_list ⟨_, rfl, ?_⟩
          simp only [Bool.or_true, if_true]
          refine ⟨by decide, fun r hr => ?_⟩
          have s2 : Same H (upd (upd H p (HO.tup [V.ty "tuple", V.ty "list"])) r (HO.tup [V.ty "tuple", V.ty "list"])) := same_new s1 hr
          refine isiT_dp (dp_same s2 (.lst ha da)) upd_same (b := false) (c := true) kb_list_tuple kb_list_list ⟨_, rfl, ?_⟩
          simp only [Bool.or_true, Bool.not_true, Bool.false_eq_true, if_false]
          refine isi_dp (dp_same s2 (.lst ha da)) (b := true) kb_list_list (isi_dp (dp_same s2 (.lst hb db)) (b := true) kb_list_list ⟨rfl, ?_⟩)
          simp only [decide_true, Bool.not_true, Bool.false_eq_true, if_false]
          have hdd : PyData.depthAll ds < n := by simp only [PyData.depth] at hd; omega
          have hs2 : ds.length ≤ 100000 ∧ smallAll ds = true := by simpa only [smallD, Bool.and_eq_true, decide_eq_true_eq] using hs
          exact seqs ds hdd xs ys a b _ (dpAll_same s2 da) (dpAll_same s2 db) (.inl (s2.seq ha)) (.inl (s2.seq hb)) s2 hs2.2 hs2.1
      | @tup a xs ds ha da =>
        cases h2 with
        | @tup b ys _ hb db =>
          refine isiT_dp k2 upd_same (b := true) (c := false) kb_tuple_tuple kb_tuple_list ⟨_, rfl, ?_⟩
          simp only [Bool.or_false, if_true]
          refine ⟨by decide, fun r hr => ?_⟩
          have s2 : Same H (upd (upd H p (HO.tup [V.ty "tuple", V.ty "list"])) r (HO.tup [V.ty "tuple", V.ty "list"])) := same_new s1 hr
          refine isiT_dp (dp_same s2 (.tup ha da)) upd_same (b := true) (c := false) kb_tuple_tuple kb_tuple_list ⟨_, rfl, ?_⟩
          simp only [Bool.or_false, Bool.not_true, Bool.false_eq_true, if_false]
          refine isi_dp (dp_same s2 (.tup ha da)) (b := false) kb_tuple_list (isi_dp (dp_same s2 (.tup hb db)) (b := false) kb_tuple_list ⟨rfl, ?_⟩)
          simp only [decide_true, Bool.not_true, Bool.false_eq_true, if_false]
          have hdd : PyData.depthAll ds < n := by simp only [PyData.depth] at hd; omega
          have hs2 : ds.length ≤ 100000 ∧ smallAll ds = true := by simpa only [smallD, Bool.and_eq_true, decide_eq_true_eq] using hs
          exact seqs ds hdd xs ys a b _ (dpAll_same s2 da) (dpAll_same s2 db) (.inr (same_tup s2 ha)) (.inr (same_tup s2 hb)) s2 hs2.2 hs2.1
end
end Hk

set_option Elab.async false
set_option linter.all false
set_option maxRecDepth 100000
set_option maxHeartbeats 4000000
namespace Hk
open PySem PySem.Spec PyProof.Rows L2
open LamX NdefX
section
variable {P : Program} {w : World} {K : PySem.W.Frag} {mg : Str → Option Value} {base : Heap}
/-! ### places of the heap, told apart -/
abbrev Rg := (Addr → Prop) × (Hp → Prop)
/-- A stands where nothing of F is changed -/
def Stb (K : PySem.W.Frag) (R : Rg) : Prop := ∀ S H H', Tab K H → R.2 H → Fwd K S H H' → (∀ b, S b → ¬ R.1 b) → R.2 H'
structure Sep (K : PySem.W.Frag) (H : Hp) (Rs : List Rg) : Prop where
  tab : Tab K H
  all : ∀ R ∈ Rs, R.2 H
  dom : ∀ R ∈ Rs, ∀ b, R.1 b → H b ≠ none
  stb : ∀ R ∈ Rs, Stb K R
  dis : Rs.Pairwise fun R R' => ∀ b, R.1 b → ¬ R'.1 b
section
variable {H H' : Hp} {Rs : List Rg} {R R' : Rg} {S : Addr → Prop}
theorem Sep.at_ (s : Sep K H Rs) (i : Nat) (h : Rs[i]? = some R) : R.2 H := s.all _ (List.mem_of_getElem? h)
theorem Sep.nin (s : Sep K H Rs) (h : R ∈ Rs) {p : Addr} (n : H p = none) : ¬ R.1 p := fun z => s.dom R h p z n
theorem Sep.ne (s : Sep K H Rs) {i j : Nat} (hi : Rs[i]? = some R) (hj : Rs[j]? = some R') (n : i ≠ j) {b : Addr} (h : R.1 b) : ¬ R'.1 b := by
  obtain ⟨h1, e1⟩ := List.getElem?_eq_some_iff.mp hi
  obtain ⟨h2, e2⟩ := List.getElem?_eq_some_iff.mp hj
  have := List.pairwise_iff_getElem.mp s.dis
  rcases Nat.lt_or_gt_of_ne n with l | l
  · have := this i j h1 h2 l b
    rw [e1, e2] at this
    exact this h
  · have := this j i h2 h1 l b
    rw [e1, e2] at this
    exact fun z => this z h
/-- nothing of it is changed -/
theorem Sep.out (s : Sep K H Rs) (w : Fwd K S H H') (hS : ∀ R ∈ Rs, ∀ b, S b → ¬ R.1 b) : Sep K H' Rs :=
  ⟨w.tab, fun R h => s.stb R h S H H' s.tab (s.all R h) w (hS R h), fun R h b z e => s.dom R h b z (w.dom b e), s.stb, s.dis⟩
theorem Sep.fno (s : Sep K H Rs) (w : Fwd K No H H') : Sep K H' Rs := s.out w fun _ _ _ z => z.elim
theorem Sep.same (s : Sep K H Rs) (e : Same H H') : Sep K H' Rs := s.fno (.of_same e s.tab)
/-- one place is changed -/
theorem Sep.set (s : Sep K H Rs) (i : Nat) (h : Rs[i]? = some R) (w : Fwd K S H H') (hS : ∀ b, S b → R.1 b ∨ H b = none) (st : Stb K R') (h' : R'.2 H') (d : ∀ b, R'.1 b → (R.1 b ∨ H b = none) ∧ H' b ≠ none) : Sep K H' (Rs.set i R') := by
  obtain ⟨hi, ei⟩ := List.getElem?_eq_some_iff.mp h
  have hm : ∀ Q ∈ Rs.set i R', Q = R' ∨ ∃ j, j ≠ i ∧ Rs[j]? = some Q := fun Q hQ => by
    obtain ⟨j, hj⟩ := List.mem_iff_getElem?.mp hQ
    rw [List.getElem?_set] at hj
    by_cases e : i = j
    · rw [if_pos e, if_pos hi] at hj
      exact .inl (Option.some.inj hj).symm
    · rw [if_neg e] at hj
      exact .inr ⟨j, fun z => e z.symm, hj⟩
  have nS : ∀ {Q : Rg} {j : Nat}, j ≠ i → Rs[j]? = some Q → ∀ b, S b → ¬ Q.1 b := fun {Q j} n hj b z => by
    rcases hS b z with y | y
    · exact s.ne h hj n.symm y
    · exact s.nin (List.mem_of_getElem? hj) y
  have nR : ∀ {Q : Rg} {j : Nat}, j ≠ i → Rs[j]? = some Q → ∀ b, R'.1 b → ¬ Q.1 b := fun {Q j} n hj b z => by
    rcases (d b z).1 with y | y
    · exact s.ne h hj n.symm y
    · exact s.nin (List.mem_of_getElem? hj) y
  refine ⟨w.tab, fun Q hQ => ?_, fun Q hQ b z => ?_, fun Q hQ => ?_, ?_⟩
  · rcases hm Q hQ with rfl | ⟨j, n, hj⟩
    · exact h'
    · exact s.stb Q (List.mem_of_getElem? hj) S H H' s.tab (s.all Q (List.mem_of_getElem? hj)) w (nS n hj)
  · rcases hm Q hQ with rfl | ⟨j, n, hj⟩
    · exact (d b z).2
    · exact fun e => s.dom Q (List.mem_of_getElem? hj) b z (w.dom b e)
  · rcases hm Q hQ with rfl | ⟨j, n, hj⟩
    · exact st
    · exact s.stb Q (List.mem_of_getElem? hj)
  · rw [List.pairwise_iff_getElem]
    intro j k hj hk hjk b
    rw [List.length_set] at hj hk
    rw [List.getElem_set, List.getElem_set]
    by_cases e1 : i = j
    · rw [if_pos e1, if_neg (by omega)]
      exact nR (show k ≠ i by omega) (List.getElem?_eq_getElem hk) b
    · rw [if_neg e1]
      by_cases e2 : i = k
      · rw [if_pos e2]
        exact fun z y => nR (show j ≠ i by omega) (List.getElem?_eq_getElem hj) b y z
      · rw [if_neg e2]
        exact List.pairwise_iff_getElem.mp s.dis j k hj hk hjk b
/-- one place more -/
theorem Sep.add (s : Sep K H Rs) (st : Stb K R) (h : R.2 H) (d : ∀ b, R.1 b → H b ≠ none ∧ ∀ Q ∈ Rs, ¬ Q.1 b) : Sep K H (Rs ++ [R]) := by
  refine ⟨s.tab, fun Q hQ => ?_, fun Q hQ => ?_, fun Q hQ => ?_, ?_⟩
  · rcases List.mem_append.mp hQ with hQ | hQ
    · exact s.all Q hQ
    · rw [List.mem_singleton.mp hQ]; exact h
  · rcases List.mem_append.mp hQ with hQ | hQ
    · exact s.dom Q hQ
    · rw [List.mem_singleton.mp hQ]; exact fun b z => (d b z).1
  · rcases List.mem_append.mp hQ with hQ | hQ
    · exact s.stb Q hQ
    · rw [List.mem_singleton.mp hQ]; exact st
  · rw [List.pairwise_append]
    refine ⟨s.dis, List.pairwise_singleton _ _, fun Q hQ Q' hQ' b z y => ?_⟩
    rw [List.mem_singleton.mp hQ'] at y
    exact (d b y).2 Q hQ z
/-- what is new -/
theorem Sep.new (s : Sep K H Rs) (w : Fwd K No H H') (st : Stb K R) (h : R.2 H') (d : ∀ b, R.1 b → H b = none ∧ H' b ≠ none) : Sep K H' (Rs ++ [R]) :=
  (s.fno w).add st h fun b z => ⟨(d b z).2, fun Q hQ => s.nin hQ (d b z).1⟩
theorem Sep.sub {Rs' : List Rg} (s : Sep K H Rs) (h : Rs'.Sublist Rs) : Sep K H Rs' :=
  ⟨s.tab, fun R hR => s.all R (h.subset hR), fun R hR => s.dom R (h.subset hR), fun R hR => s.stb R (h.subset hR), s.dis.sublist h⟩
theorem Sep.take (s : Sep K H Rs) (n : Nat) : Sep K H (Rs.take n) := s.sub (List.take_sublist n Rs)
theorem Sep.drop (s : Sep K H Rs) (n : Nat) : Sep K H (Rs.drop n) := s.sub (List.drop_sublist n Rs)
theorem Sep.erase (s : Sep K H Rs) (n : Nat) : Sep K H (Rs.eraseIdx n) := s.sub (List.eraseIdx_sublist Rs n)
theorem Sep.cons (s : Sep K H Rs) (st : Stb K R) (h : R.2 H) (d : ∀ b, R.1 b → H b ≠ none ∧ ∀ Q ∈ Rs, ¬ Q.1 b) : Sep K H (R :: Rs) := by
  refine ⟨s.tab, fun Q hQ => ?_, fun Q hQ => ?_, fun Q hQ => ?_, ?_⟩
  · rcases List.mem_cons.mp hQ with rfl | hQ
    · exact h
    · exact s.all Q hQ
  · rcases List.mem_cons.mp hQ with rfl | hQ
    · exact fun b z => (d b z).1
    · exact s.dom Q hQ
  · rcases List.mem_cons.mp hQ with rfl | hQ
    · exact st
    · exact s.stb Q hQ
  · rw [List.pairwise_cons]
    exact ⟨fun Q hQ b z y => (d b z).2 Q hQ y, s.dis⟩
theorem Sep.perm {Rs' : List Rg} (s : Sep K H Rs) (h : Rs.Perm Rs') : Sep K H Rs' :=
  ⟨s.tab, fun R hR => s.all R (h.mem_iff.mpr hR), fun R hR => s.dom R (h.mem_iff.mpr hR), fun R hR => s.stb R (h.mem_iff.mpr hR), s.dis.perm h fun {x y} g b z1 z2 => g b z2 z1⟩
/-- two places are changed -/
theorem Sep.two {A B A' B' : Rg} {rest : List Rg} (s : Sep K H (A :: B :: rest)) (w : Fwd K S H H') (hS : ∀ b, S b → A.1 b ∨ B.1 b ∨ H b = none) (stA : Stb K A') (stB : Stb K B') (hA : A'.2 H') (hB : B'.2 H') (dA : ∀ b, A'.1 b → (A.1 b ∨ H b = none) ∧ H' b ≠ none) (dB : ∀ b, B'.1 b → (B.1 b ∨ H b = none) ∧ H' b ≠ none) (ds : ∀ b, A'.1 b → ¬ B'.1 b) : Sep K H' (A' :: B' :: rest) := by
  obtain ⟨d1, d2⟩ := List.pairwise_cons.mp s.dis
  obtain ⟨d3, d4⟩ := List.pairwise_cons.mp d2
  have nr : ∀ {b}, (A.1 b ∨ B.1 b ∨ H b = none) → ∀ R ∈ rest, ¬ R.1 b := fun {b} z R hR y => by
    rcases z with z | z | z
    · exact d1 R (List.mem_cons_of_mem _ hR) b z y
    · exact d3 R hR b z y
    · exact s.dom R (List.mem_cons_of_mem _ (List.mem_cons_of_mem _ hR)) b y z
  have s0 : Sep K H rest := s.drop 2
  have s1 : Sep K H' rest := s0.out w fun R hR b z => nr (hS b z) R hR
  refine (s1.cons stB hB fun b z => ⟨(dB b z).2, fun R hR => nr ((dB b z).1.elim (fun y => .inr (.inl y)) fun y => .inr (.inr y)) R hR⟩).cons stA hA fun b z => ⟨(dA b z).2, fun R hR => ?_⟩
  rcases List.mem_cons.mp hR with rfl | hR
  · exact ds b z
  · exact nr ((dA b z).1.elim .inl fun y => .inr (.inr y)) R hR
theorem perm_front {α : Type} {x : α} : ∀ (l : List α) (i : Nat), l[i]? = some x → l.Perm (x :: l.eraseIdx i)
  | [], _, h => by simp at h
  | a :: l, 0, h => by
    simp at h; subst h
    exact List.Perm.refl _
  | a :: l, i + 1, h => ((perm_front l i (by simpa using h)).cons a).trans (List.Perm.swap ..)
theorem perm_back {α : Type} {x : α} : ∀ (l : List α) (i : Nat), i ≤ l.length → (x :: l).Perm (l.insertIdx i x)
  | _, 0, _ => List.Perm.refl _
  | [], _ + 1, h => by simp at h
  | a :: l, i + 1, h => (List.Perm.swap ..).trans ((perm_back l i (Nat.le_of_succ_le_succ h)).cons a)
theorem Sep.front (s : Sep K H Rs) (i : Nat) (h : Rs[i]? = some R) : Sep K H (R :: Rs.eraseIdx i) := s.perm (perm_front Rs i h)
theorem Sep.back (i : Nat) (hi : i ≤ Rs.length) (s : Sep K H (R :: Rs)) : Sep K H (Rs.insertIdx i R) := s.perm (perm_back Rs i hi)
theorem sep_nil (t : Tab K H) : Sep K H [] := ⟨t, (fun _ h => nomatch h), (fun _ h => nomatch h), (fun _ h => nomatch h), .nil⟩
end
/-! ### kinds of places -/
section
variable {H H' : Hp} {Rs : List Rg} {h l p a : Addr} {xs ys : List V}
abbrev rSrc (h l : Addr) : Rg := (DrS h l, fun H => SrcOk H h l)
abbrev rLst (p : Addr) (xs : List V) : Rg := ((· = p), fun H => H p = some (.lst xs))
/-- what never changes -/
abbrev rImm (A : Hp → Prop) : Rg := (No, A)
theorem stb_src : Stb K (rSrc h l) := fun S H H' t ⟨m, p, cs, e1, e2, r⟩ w n => ⟨m, p, cs, w.lst t e1 (fun z => n _ z (.inl rfl)), w.lst t e2 (fun z => n _ z (.inr rfl)), r⟩
theorem stb_lst : Stb K (rLst p xs) := fun S H H' t e w n => w.lst t e fun z => n _ z rfl
theorem stb_imm {A : Hp → Prop} (hA : ∀ S H H', A H → Fwd K S H H' → A H') : Stb K (rImm A) := fun S H H' t e w n => hA S H H' e w
/-- a list with tuples in it -/
abbrev rRow (p : Addr) (rows : List (List V)) : Rg := ((· = p), fun H => ∃ ts, H p = some (.lst (ts.map V.ref)) ∧ TupsAt H ts rows)
theorem stb_row {rows : List (List V)} : Stb K (rRow p rows) := fun S H H' t ⟨ts, e, ht⟩ w n => ⟨ts, w.lst t e fun z => n _ z rfl, ht.mono fun t x h => w.tup h⟩
theorem drawFS {H H' : Hp} {h l : Addr} (S : SrcOk H h l) (S' : SrcOk H' h l) (x : Ext (DrS h l) H H') (t : Tab K H) : Fwd K (DrS h l) H H' := by
  obtain ⟨m, p, cs, e1, e2, _⟩ := id S
  obtain ⟨m', p', cs', e1', e2', _⟩ := id S'
  have nS : ∀ {b o}, H b = some o → (∀ xs, o ≠ .lst xs) → ¬ DrS h l b := fun {b o} hb n z => by
    rcases z with z | z
    · rw [z, e1] at hb; exact n _ (Option.some.inj hb).symm
    · rw [z, e2] at hb; exact n _ (Option.some.inj hb).symm
  refine ⟨fun b o hb z => x b o (z.elim (fun i => nS hb (fun xs e => by rw [e] at i; exact i)) fun n => n.1) hb, fun b hb => ?_, t.ext2 (fun b ps hb => x _ _ (nS hb (fun _ z => by cases z)) hb) (fun c q hc => x _ _ (nS hc (fun xs e => by have := imm_code (f := c) (q := q); rw [e] at this; exact this)) hc)⟩
  by_cases z : DrS h l b
  · rcases z with z | z
    · rw [z, e1'] at hb; cases hb
    · rw [z, e2'] at hb; cases hb
  · exact x.free z hb
theorem Sep.draw (s : Sep K H Rs) (i : Nat) (hi : Rs[i]? = some (rSrc h l)) (x : Ext (DrS h l) H H') (S' : SrcOk H' h l) : Sep K H' Rs := by
  have S0 := s.at_ i hi
  have w := drawFS S0 S' x s.tab
  have e : Rs.set i (rSrc h l) = Rs := by
    refine List.ext_getElem? fun j => ?_
    rw [List.getElem?_set]
    split
    · next e => subst e; rw [if_pos (List.getElem?_eq_some_iff.mp hi).1, hi]
    · rfl
  have := s.set i hi w (fun b z => .inl z) stb_src S' fun b z => ⟨.inl z, fun n => by
    obtain ⟨m, p, cs, e1, e2, _⟩ := S'
    rcases z with z | z
    · rw [z, e1] at n; cases n
    · rw [z, e2] at n; cases n⟩
  rw [e] at this
  exact this
theorem Sep.newL (s : Sep K H Rs) (e : Same H H') (n : H p = none) (hp : H' p = some (.lst xs)) : Sep K H' (Rs ++ [rLst p xs]) :=
  s.new (.of_same e s.tab) stb_lst hp fun b z => by
    have z : b = p := z
    subst z
    exact ⟨n, by rw [hp]; simp⟩
theorem Sep.newR (s : Sep K H Rs) (e : Fwd K No H H') {rows : List (List V)} {ts : List Addr} (n : H p = none) (hp : H' p = some (.lst (ts.map V.ref))) (ht : TupsAt H' ts rows) : Sep K H' (Rs ++ [rRow p rows]) :=
  s.new e stb_row ⟨ts, hp, ht⟩ fun b z => by
    have z : b = p := z
    subst z
    exact ⟨n, by rw [hp]; simp⟩
theorem Sep.newI (s : Sep K H Rs) {A : Hp → Prop} (hA : ∀ S H H', A H → Fwd K S H H' → A H') (h : A H) : Sep K H (Rs ++ [rImm A]) := s.add (stb_imm hA) h fun b z => z.elim
/-- a list is put -/
theorem Sep.put (s : Sep K H Rs) (i : Nat) (hi : Rs[i]? = some (rLst p xs)) : Sep K (upd H p (.lst ys)) (Rs.set i (rLst p ys)) := by
  have e := s.at_ i hi
  refine s.set i hi ((Fw.refl (S := fun b => b = p) s.tab).put e (fun _ z => by cases z) (fun z => z) (.inl rfl)) (fun b z => .inl z) stb_lst upd_same fun b z => ⟨.inl z, ?_⟩
  have z : b = p := z
  rw [z, upd_same]; simp
theorem Sep.lst (s : Sep K H Rs) (i : Nat) (hi : Rs[i]? = some (rLst p xs)) : H p = some (.lst xs) := s.at_ i hi
end
/-! ### a comprehension with effects -/
theorem lc_sep {J : It} {n : Nat} {G : Hp → Prop} {Y : Nat → Hp → V → Hp → Prop} (w : Walk J n G Y) {g : TG} {te : TE} {vs : List Nat} {σ : L2.St} {H1 : Hp} {Q : VK} {Rs0 : List Rg} (Jv : Nat → List V → List Rg → Prop) (s : Sep K H1 Rs0) (hn : n ≤ 100000) (h0 : Jv 0 [] Rs0)
    (hG : ∀ i acc Rs H, i ≤ n → Jv i acc Rs → Sep K H Rs → G H)
    (hs : ∀ D i x H H' acc Rs (R : V → Hp → Prop), i < n → Jv i acc Rs → Sep K H (rLst D acc :: Rs) → Y i H x H' → (∀ y H2 Rs2, Sep K H2 (rLst D acc :: Rs2) → Jv (i + 1) (acc ++ [y]) Rs2 → R y H2) → g x (wipe σ vs) H' fun σ2 H2 => wipe σ2 vs = wipe σ vs ∧ te σ2 H2 (fun y H4 => R y H4))
    (hd : ∀ D acc Rs H, acc.length = n → Jv n acc Rs → Sep K H (rLst D acc :: Rs) → Q (.ref D) H) : LcG J g tYes te vs σ H1 Q := by
  intro D fD
  refine lc_it w (fun i H => i ≤ n ∧ ∃ acc Rs, Jv i acc Rs ∧ acc.length = i ∧ Sep K H (rLst D acc :: Rs)) ⟨Nat.zero_le _, [], Rs0, h0, rfl, ?_⟩ (fun i H _ ⟨hi, acc, Rs, j, _, s⟩ => hG i acc Rs H hi j (s.drop 1)) (fun i x H H' hi hP hy => ?_) (fun H ⟨_, acc, Rs, j, hl, s⟩ => hd D acc Rs H hl j s)
  · have e : Same H1 (upd H1 D (.lst [])) := same_put (Same.refl _) fD
    have := s.newL e fD upd_same
    exact this.perm (List.perm_append_comm (l₂ := [rLst D []]))
  · obtain ⟨_, acc, Rs, j, hl, s⟩ := hP
    have key := hs D i x H H' acc Rs (fun y H4 => ∃ acc, H4 D = some (.lst acc) ∧ acc.length < sizeLine ∧ (i + 1 ≤ n ∧ ∃ acc' Rs', Jv (i + 1) acc' Rs' ∧ acc'.length = i + 1 ∧ Sep K (upd H4 D (.lst (acc ++ [y]))) (rLst D acc' :: Rs'))) hi j s hy (fun y H2 Rs2 s2 j2 => ⟨acc, s2.lst 0 rfl, smallLt (by omega), hi, acc ++ [y], Rs2, j2, by simp [hl], s2.put 0 rfl⟩)
    simp only [tYes, if_true]
    exact key
end
end Hk

set_option Elab.async false
set_option linter.all false
set_option maxRecDepth 100000
set_option maxHeartbeats 4000000
namespace Hk
open PySem PySem.Spec PyProof.Rows L2
open LamX NdefX
open LamX NdefX
section
variable {P : Program} {w : World} {K : PySem.W.Frag} {mg : Str → Option Value} {base : Heap}
/-! ### _law_kind: the word of a refusal -/
def words11 : List Str := ["line", "pattern", "word", "count", "listener", "busy", "deep", "held", "work", "text", "halt"]
/-- a refusal of one of ours, by its place among them -/
structure Ref11 (K : PySem.W.Frag) (x : Str) : Prop where
  C : ExcC K (He.ga K x)
  kit : ∀ y b, (y, b) ∈ own11.map (fun y => (y, decide (y = x))) → PySem.W.kitOne K (.ref (He.ga K x)) (.ref (He.ga K y)) = some b
  ve : PySem.W.kitOne K (.ref (He.ga K x)) (.type "ValueError") = some true
  he : PySem.W.exmOne K (.ref (He.ga K x)) (.ref (He.ga K "HearError")) = some true
theorem ref11_of (h : refB K x = true) : Ref11 K x := by
  unfold refB at h
  obtain ⟨h1, h⟩ := He.ba h
  obtain ⟨h2, h⟩ := He.ba h
  obtain ⟨h3, h4⟩ := He.ba h
  exact ⟨excB_ok h1, fun y b hm => kitsB_ok h2 hm, of_decide_eq_true h3, of_decide_eq_true h4⟩
def kinds11 (x : Str) : List V := own11.map fun y => V.bl (decide (y = x))
def kindB (j : Nat) (x : Str) : Bool := decide ((kinds11 x).countP (fun z => eqV z (.bl true)) = 1) && ((match (kinds11 x)[j]? with | some z => eqV z (.bl true) | none => false) && (((kinds11 x).take j).all (fun z => !eqV z (.bl true)) && ((kinds11 x).all flatV && decide (words11[j]? = some (words11.getD j "")))))
theorem kinds_ok : ∀ j ∈ List.range 11, (match own11[j]? with | some x => kindB j x | none => false) = true := by decide +kernel
def sp_law_kind (P : Program) (w : World) (K : PySem.W.Frag) (mg : Str → Option Value) (base : Heap) : Sp := fun vs H Q _ => ∃ (f : Addr), vs = [.ref f] ∧ ∃ sp, Act P w K mg base 40 f sp ∧
  ∀ E' : XK, (∀ cls d H', (∃ x j, cls = .ref (He.ga K x) ∧ XdAt H' d ∧ Ref11 K x ∧ own11[j]? = some x ∧ ∀ H'', Same H' H'' → Q (.str (words11.getD j "")) H'') → E' cls d H') → sp [] H (fun _ H' => Q (.str ("" : Str)) H') E'
theorem G_law_kind (T : Tx K mg) : Glob P w K mg base (CX0) 41 "_law_kind" p_law_kind [] (sp_law_kind P w K mg base) := by
  obtain ⟨fd, F⟩ := T.f_law_kind
  refine ⟨_, fd, [], F.ok sc_law_kind (fun vs H Q E h => ?_) (fun cdv A outer s H vs Q E hr h => ?_), T.g__law_kind, F.kp, .nil, F.bindsN fun _ _ _ _ _ _ us hl => match us, hl with | [_], _ => rfl⟩
  · obtain ⟨f, rfl, _⟩ := h; rfl
  · obtain ⟨f, rfl, sp, ac, q⟩ := h
    refine ⟨_, PSs.nox (pss_cons (ps_try_as (i := 1) rfl rfl sc_law_kind.nd rfl rfl ⟨rfl, by decide, .inl T.g_HearError⟩ L2.takes0 (fun W pn xe tk _ => (pss_one (ps_expr (pe_callVS0K (P := P) (w := w) (K := K) (mg := mg) (base := base) rfl rfl rfl rfl rfl (k := 40) (i := 0) (hr.mono (by first | decide | omega)) (fun σ => passAt tk σ) rfl (Or.inl rfl)))))
      (fun a oe cls d pn hz hf => pss_clsD (K := K) (fun D e1 hC => (pss_cons (ps_set (i := 2) sc_law_kind.nd rfl (Or.inl rfl) (pe_lst (pa_cons (pe_callB (call_isED (K := K) rfl hC e1 hz hf) (by rfl) T.b_isinstance (by decide +kernel) (pa_cons (pv 1) (pa_cons (pe_glob (v := V.ref (He.ga K "BadLine")) rfl T.g_BadLine rfl) pa_nil))) (pa_cons (pe_callB (call_isED (K := K) rfl hC e1 hz hf) (by rfl) T.b_isinstance (by decide +kernel) (pa_cons (pv 1) (pa_cons (pe_glob (v := V.ref (He.ga K "BadPattern")) rfl T.g_BadPattern rfl) pa_nil))) (pa_cons (pe_callB (call_isED (K := K) rfl hC e1 hz hf) (by rfl) T.b_isinstance (by decide +kernel) (pa_cons (pv 1) (pa_cons (pe_glob (v := V.ref (He.ga K "BadWord")) rfl T.g_BadWord rfl) pa_nil))) (pa_cons (pe_callB (call_isED (K := K) rfl hC e1 hz hf) (by rfl) T.b_isinstance (by decide +kernel) (pa_cons (pv 1) (pa_cons (pe_glob (v := V.ref (He.ga K "BadCount")) rfl T.g_BadCount rfl) pa_nil))) pa_nil))))))
      (pss_cons (ps_set (i := 2) sc_law_kind.nd rfl (Or.inl rfl) (pe_op op_cat (pv 2) (pe_lst (pa_cons (pe_callB (call_isED (K := K) rfl hC e1 hz hf) (by rfl) T.b_isinstance (by decide +kernel) (pa_cons (pv 1) (pa_cons (pe_glob (v := V.ref (He.ga K "NoListener")) rfl T.g_NoListener rfl) pa_nil))) (pa_cons (pe_callB (call_isED (K := K) rfl hC e1 hz hf) (by rfl) T.b_isinstance (by decide +kernel) (pa_cons (pv 1) (pa_cons (pe_glob (v := V.ref (He.ga K "Busy")) rfl T.g_Busy rfl) pa_nil))) (pa_cons (pe_callB (call_isED (K := K) rfl hC e1 hz hf) (by rfl) T.b_isinstance (by decide +kernel) (pa_cons (pv 1) (pa_cons (pe_glob (v := V.ref (He.ga K "TooDeep")) rfl T.g_TooDeep rfl) pa_nil))) (pa_cons (pe_callB (call_isED (K := K) rfl hC e1 hz hf) (by rfl) T.b_isinstance (by decide +kernel) (pa_cons (pv 1) (pa_cons (pe_glob (v := V.ref (He.ga K "NotHeld")) rfl T.g_NotHeld rfl) pa_nil))) pa_nil)))))))
      (pss_cons (ps_set (i := 2) sc_law_kind.nd rfl (Or.inl rfl) (pe_op op_cat (pv 2) (pe_lst (pa_cons (pe_callB (call_isED (K := K) rfl hC e1 hz hf) (by rfl) T.b_isinstance (by decide +kernel) (pa_cons (pv 1) (pa_cons (pe_glob (v := V.ref (He.ga K "NoWork")) rfl T.g_NoWork rfl) pa_nil))) (pa_cons (pe_callB (call_isED (K := K) rfl hC e1 hz hf) (by rfl) T.b_isinstance (by decide +kernel) (pa_cons (pv 1) (pa_cons (pe_glob (v := V.ref (He.ga K "BadText")) rfl T.g_BadText rfl) pa_nil))) (pa_cons (pe_callB (call_isED (K := K) rfl hC e1 hz hf) (by rfl) T.b_isinstance (by decide +kernel) (pa_cons (pv 1) (pa_cons (pe_glob (v := V.ref (He.ga K "Halt")) rfl T.g_Halt rfl) pa_nil))) pa_nil))))))
      (pss_cons (ps_set (i := 3) sc_law_kind.nd rfl (Or.inl rfl) (pe_lst (pa_cons pe_str (pa_cons pe_str (pa_cons pe_str (pa_cons pe_str (pa_cons pe_str (pa_cons pe_str (pa_cons pe_str (pa_cons pe_str (pa_cons pe_str (pa_cons pe_str (pa_cons pe_str pa_nil)))))))))))))
      (pss_cons (ps_if (PW.pt (pw_or (pt_cmpR op_ne (pe_bmK (K := K) rfl PySem.F.plainAttrs_list PySem.F.slot_list_count PySem.F.type_list_count (mt_countF (K := K) rfl) (pv 2) (pa_cons pe_bl pa_nil)) pe_int (nomark _)) (pw_or1 (pt_not (pt_val (pe_callB (call_isED (K := K) rfl hC e1 hz hf) (by rfl) T.b_isinstance (by decide +kernel) (pa_cons (pv 1) (pa_cons (pe_bltn (v := .ty "ValueError") (by rfl) T.b_ValueError (by decide +kernel) rfl) pa_nil))))))))
      (pss_one (ps_ret pe_str))
      pss_nil)
      (pss_one (ps_ret (pe_ix (ix_listK (K := K) rfl) (pv 3) (pe_bmK (K := K) rfl PySem.F.plainAttrs_list PySem.F.slot_list_index PySem.F.type_list_index (mt_indexK (K := K) rfl) (pv 2) (pa_cons pe_bl pa_nil)) (fun _ _ => rfl))))))))))))
      (pss_one (ps_ret pe_str))), ?_⟩
    simp only [tCutE, tIfE, false_and, exists_false, false_or, or_false, tRet, tRetN, tAndV, tOrV, tNotV, tChain, rI, rI0, rU, tC, tCB, tCons, tNil, tVar, tOp, tUn, tTest, tB, tAnd, tOr, tNot, tIf, tIfS, tSeq, tAsg, tDrop, tNext, gName, gTup_ref, gCons_cons, gNil_nil, and_assoc, tYes, wipe, rEq, rNe, scal_ss, scal_ii, scal_bb, scal_ns, scal_sn, scal_nn, scal_in, scal_ni, tLc_eq, tFor_eq, iList, iTup, iStr, iRng1, iRng2, iZip, iEnum, gSub, tSl, rSetL_ref, rCat_ref, rRep_ref, rJoin_ref, rSlL_ref, rSlS_ref, rMulS_ref, rIxL_ref, rIxT_ref, rLenK_ref, rAll_ref, rIn_ref, tLst, tTup, tPar, tPar3, tAug, tPart, tNoPart, tCall, List.getElem?_cons_zero, List.getElem?_cons_succ, List.set_cons_zero, List.set_cons_succ, List.map_cons, List.map_nil, List.append_nil, List.nil_append, List.cons_append, Option.some.injEq, exists_eq_left', exists_eq_left, exists_eq_right, exists_eq_right', exists_eq', V.int.injEq, V.str.injEq, V.bl.injEq, V.ref.injEq, List.cons.injEq, tM0, tM1, rNewStrs, sgn_eq, split_dot, split_sp, split_nl, dot_len, sp_len, nl_len, cxOf_K, L2.start, List.length_cons, List.length_nil, List.replicate_succ, List.replicate_zero, Nat.reduceSub, Nat.zero_add, and_true, true_and, and_self, exists_and_left, exists_const, Bool.false_eq_true, if_false, if_true, ite_true, ite_false, reduceIte, decide_eq_true_eq, reduceCtorEq, Nat.reduceAdd, Nat.reduceLT, tMseq, tMret, tNdef1, tThru, tCallV, tCallVF, tCallVO, tListZip, tCallX, tCallXU, tCallV, tCallVS, tLam1, tLamD, tCallS, tCls, tClsD, cx_cells, cx_scope, cx_N, cx_prog, cx_w, cx_base, cx_mg, cx_qual]
    refine ⟨sp, ac, q _ fun cls d H' hx => ?_⟩
    obtain ⟨x, j, rfl, hxd, R, hj, qq⟩ := hx
    refine ⟨true, R.he, fun _ a na => ⟨_, rfl, R.C, ?_⟩, fun z => by cases z⟩
    have hj' : j < 11 := (List.getElem?_eq_some_iff.mp hj).1
    have ko := kinds_ok j (List.mem_range.mpr hj')
    rw [hj] at ko
    obtain ⟨k1, ko⟩ := He.ba (show kindB j x = true from ko)
    obtain ⟨k2, ko⟩ := He.ba ko
    obtain ⟨k3, ko⟩ := He.ba ko
    obtain ⟨k4, k5⟩ := He.ba ko
    have k1 := of_decide_eq_true k1
    have k5 := of_decide_eq_true k5
    have kit : ∀ y, y ∈ own11 → PySem.W.kitOne K (.ref (He.ga K x)) (.ref (He.ga K y)) = some (decide (y = x)) := fun y hy => R.kit y _ (List.mem_map.mpr ⟨y, hy, rfl⟩)
    simp only [tCutE, tIfE, false_and, exists_false, false_or, or_false, tRet, tRetN, tAndV, tOrV, tNotV, tChain, rI, rI0, rU, tC, tCB, tCons, tNil, tVar, tOp, tUn, tTest, tB, tAnd, tOr, tNot, tIf, tIfS, tSeq, tAsg, tDrop, tNext, gName, gTup_ref, gCons_cons, gNil_nil, and_assoc, tYes, wipe, rEq, rNe, scal_ss, scal_ii, scal_bb, scal_ns, scal_sn, scal_nn, scal_in, scal_ni, tLc_eq, tFor_eq, iList, iTup, iStr, iRng1, iRng2, iZip, iEnum, gSub, tSl, rSetL_ref, rCat_ref, rRep_ref, rJoin_ref, rSlL_ref, rSlS_ref, rMulS_ref, rIxL_ref, rIxT_ref, rLenK_ref, rAll_ref, rIn_ref, tLst, tTup, tPar, tPar3, tAug, tPart, tNoPart, tCall, List.getElem?_cons_zero, List.getElem?_cons_succ, List.set_cons_zero, List.set_cons_succ, List.map_cons, List.map_nil, List.append_nil, List.nil_append, List.cons_append, Option.some.injEq, exists_eq_left', exists_eq_left, exists_eq_right, exists_eq_right', exists_eq', V.int.injEq, V.str.injEq, V.bl.injEq, V.ref.injEq, List.cons.injEq, tM0, tM1, rNewStrs, sgn_eq, split_dot, split_sp, split_nl, dot_len, sp_len, nl_len, cxOf_K, L2.start, List.length_cons, List.length_nil, List.replicate_succ, List.replicate_zero, Nat.reduceSub, Nat.zero_add, and_true, true_and, and_self, exists_and_left, exists_const, Bool.false_eq_true, if_false, if_true, ite_true, ite_false, reduceIte, decide_eq_true_eq, reduceCtorEq, Nat.reduceAdd, Nat.reduceLT, tMseq, tMret, tNdef1, tThru, tCallV, tCallVF, tCallVO, tListZip, tCallX, tCallXU, tCallV, tCallVS, tLam1, tLamD, tCallS, tCls, tClsD, cx_cells, cx_scope, cx_N, cx_prog, cx_w, cx_base, cx_mg, cx_qual]
    refine rIsED_ref (kit "BadLine" (by decide +kernel)) hxd (rIsED_ref (kit "BadPattern" (by decide +kernel)) hxd (rIsED_ref (kit "BadWord" (by decide +kernel)) hxd (rIsED_ref (kit "BadCount" (by decide +kernel)) hxd ?_)))
    refine ⟨by decide, fun p1 hp1 => ?_⟩
    have sa1 : ∀ o, Same H' (upd H' p1 o) := fun o => (newF (H := H') rfl hp1).1
    refine rIsED_ref (kit "NoListener" (by decide +kernel)) (hxd.same (sa1 _)) (rIsED_ref (kit "Busy" (by decide +kernel)) (hxd.same (sa1 _)) (rIsED_ref (kit "TooDeep" (by decide +kernel)) (hxd.same (sa1 _)) (rIsED_ref (kit "NotHeld" (by decide +kernel)) (hxd.same (sa1 _)) ?_)))
    refine ⟨by decide, fun p2 hp2 => ?_⟩
    generalize hA : upd H' p1 _ = Ha at hp2 ⊢
    obtain ⟨sa, fa1⟩ := newF hA ‹_›
    generalize hB : upd Ha p2 _ = Hb
    obtain ⟨sb, fb⟩ := newF hB hp2
    refine ⟨_, sb _ _ fa1, _, fb, small (by simp), fun p3 hp3 => ?_⟩
    generalize hC : upd Hb p3 _ = Hc
    obtain ⟨sc, fc⟩ := newF hC hp3
    have sc1 : Same H' Hc := (sa.trans sb).trans sc
    refine rIsED_ref (kit "NoWork" (by decide +kernel)) (hxd.same sc1) (rIsED_ref (kit "BadText" (by decide +kernel)) (hxd.same sc1) (rIsED_ref (kit "Halt" (by decide +kernel)) (hxd.same sc1) ?_))
    refine ⟨by decide, fun p4 hp4 => ?_⟩
    generalize hD : upd Hc p4 _ = Hd
    obtain ⟨sd, fd4⟩ := newF hD hp4
    refine ⟨_, sd _ _ fc, _, fd4, small (by simp), fun p5 hp5 => ?_⟩
    generalize hE : upd Hd p5 _ = He5
    obtain ⟨se, fe⟩ := newF hE hp5
    refine ⟨by decide, fun p6 hp6 => ?_⟩
    generalize hF : upd He5 p6 _ = Hf
    obtain ⟨sf, ff⟩ := newF hF hp6
    have fe' : Hf p5 = some (.lst (kinds11 x)) := sf _ _ fe
    have ff' : Hf p6 = some (.lst (words11.map V.str)) := ff
    have sH : Same H' Hf := ((((sa.trans sb).trans sc).trans sd).trans se).trans sf
    refine ⟨_, rfl, .inl ⟨rfl, _, .of fe'⟩, p5, _, _, rfl, rfl, .of fe', rfl, k4, rfl, ?_⟩
    rw [k1]
    refine ifN (by simp) (rIsED_ty R.ve (hxd.same sH) ⟨_, rfl, ifN (by simp) ⟨_, rfl, .inl ⟨rfl, _, .of fe'⟩, ?_⟩⟩)
    obtain ⟨z, hz1, hz2⟩ : ∃ z, (kinds11 x)[j]? = some z ∧ eqV z (.bl true) = true := by
      cases e : (kinds11 x)[j]? with
      | none => rw [e] at k2; cases k2
      | some z => rw [e] at k2; exact ⟨z, rfl, k2⟩
    refine ⟨p5, _, _, j, z, rfl, rfl, .of fe', rfl, k4, hz1, hz2, fun m z' hm hz' => ?_, p6, _, _, _, rfl, rfl, .of ff', atI_nat (j := j) ?_, qq _ sH⟩
    · have := List.all_eq_true.mp k3 z' (List.mem_iff_getElem?.mpr ⟨m, by rw [List.getElem?_take_of_lt hm]; exact hz'⟩)
      simpa using this
    · rw [List.getElem?_map, k5]; rfl
/-! ### a lambda told to _law_kind: its body over the heap without cells -/
theorem kind_lamG {cm : List (Str × Addr)} {sc : Scope} {N : List Str} {σ : L2.St} {obs : Addr → Obj} {H : Hp} {f : Addr} {L : LF} {fr : List Str} {dvs : List V} {spN : List (Option V) → Sp} {wd : Str} {ws : List V} {N' ps' : List Str} {Q : VK} {E : XK} {R : Hp → Prop} (C : CEnv cm sc N H) (hf : H f = some (LamO f L)) (hc : H L.c = some (CodeO L.c L.qual))
    (ac : Act P w K mg base 40 f (spLam f L fr dvs spN)) (js : List Nat) (hL : L.cl = cloFrom cm L.scope.names []) (hb : ndefB sc L.scope fr = true) (S : NScope N' ps' fr L.scope) (hjs : js.map (fun j => N[j]?) = fr.map some) (hws : js.map (fun j => σ[j]?) = ws.map (fun v => some (some v))) (hdt : DtOk H L.dT dvs)
    (tells : ∀ (Qf : VK) (Ef : XK), (wd = ("" : Str) → ∀ v H', R H' → Qf v H') → (∀ x j d, own11[j]? = some x → words11.getD j "" = wd → Ref11 K x → ∀ H', XdAt H' d → R H' → Ef (.ref (He.ga K x)) d H') → spN (ws.map some) dvs H Qf Ef)
    (q : ∀ H1 H2, R H1 → ((∀ b, InC cm b → exC cm sc N σ obs H b = none → H2 b = none) → Same H1 (delC cm H2)) → Q (.str wd) H2) : sp_law_kind P w K mg base [.ref f] (exC cm sc N σ obs H) Q E := by
  obtain ⟨sp, a, run⟩ := lam_all (vs := []) (R := fun v H' => wd = ("" : Str) ∧ R H') (RE := fun c d H' => XdAt H' d ∧ (∃ x j, own11[j]? = some x ∧ words11.getD j "" = wd ∧ Ref11 K x ∧ c = .ref (He.ga K x)) ∧ R H') (obs := obs) C hf hc ac js hL hb S hjs hws hdt
    (fun Q E hq he => tells Q E (fun z v H' r => hq v H' ⟨z, r⟩) (fun x j d h1 h2 h3 H' hx r => he _ _ H' ⟨hx, ⟨x, j, h1, h2, h3, rfl⟩, r⟩))
  refine ⟨f, rfl, sp, a, fun E' hE => run _ _ (fun v Hl H' ⟨hw, r⟩ o => ?_) (fun c d Hl H' ⟨hd, ⟨x, j, h1, h2, h3, h4⟩, r⟩ o => hE _ _ _ ⟨x, j, h4, fun dd e => (hd dd e).elim fun fs q => ⟨fs, (o dd _ q).1⟩, h3, h1, fun H2 s2 => ?_⟩)⟩
  · have := q H' Hl r (o.same (Same.refl _))
    rw [hw] at this
    exact this
  · rw [h2]
    exact q H' H2 r (o.same s2)
end
end Hk

set_option Elab.async false
set_option linter.all false
set_option maxRecDepth 100000
set_option maxHeartbeats 4000000
namespace Hk
open PySem PySem.Spec PyProof.Rows L2
open LamX NdefX
open TL
section
variable {P : Program} {w : World} {K : PySem.W.Frag} {mg : Str → Option Value} {base : Heap}
section
variable {CX : CXT} {N : List Str} {F : NF} {f : Addr} {A : Around} {outer : List Env} {s : Shared} {H : Hp} {E : XK}
theorem ncx_K : (ncx CX P w K mg base N F f A outer s H E).K = K := rfl
theorem ncx_prog : (ncx CX P w K mg base N F f A outer s H E).prog = P := rfl
theorem ncx_w : (ncx CX P w K mg base N F f A outer s H E).w = w := rfl
theorem ncx_mg : (ncx CX P w K mg base N F f A outer s H E).mg = mg := rfl
theorem ncx_base : (ncx CX P w K mg base N F f A outer s H E).base = base := rfl
theorem ncx_cells : (ncx CX P w K mg base N F f A outer s H E).env.cells = F.cl := rfl
theorem ncx_scope : (ncx CX P w K mg base N F f A outer s H E).env.scope = F.scope := rfl
theorem ncx_N : (ncx CX P w K mg base N F f A outer s H E).N = N := rfl
theorem ncx_s0 : (ncx CX P w K mg base N F f A outer s H E).s_0 = s := rfl
end
/-! ### works of works -/
abbrev st_nfGath : Stmt := (defBody s_gathered).getD 2 (.Pass ⟨0, 0, 0, 0⟩)
def nfGath (cl : List (Str × Addr)) (c : Addr) : NF := ⟨"gather", Str.ofString "gathered.<locals>." ++ Str.ofString "gather", defArgs st_nfGath, defBody st_nfGath, defScope st_nfGath, cl, c⟩
def spGath (P : Program) (w : World) (K : PySem.W.Frag) (mg : Str → Option Value) (base : Heap) (cl : List (Str × Addr)) (k : Nat) : Hp → List V → Sp := fun Hf ws vs H Q E => ∃ (m : Int) (so wk : Addr) (line th : V) (xs : List V), ws = [.int m, .ref so, .ref wk] ∧ vs = [line, th] ∧ H so = some (.lst xs) ∧ xs.length ≤ 100000 ∧
  (((xs.length : Nat) : Int) + 1 < m → Q .non (upd H so (.lst (xs ++ [th])))) ∧
  (¬ ((xs.length : Nat) : Int) + 1 < m → ∀ p, H p = none → ¬ InC cl p → ∃ sp, Act P w K mg base k wk sp ∧ sp [line, .ref p] (putC cl Hf (upd (upd H p (.lst (xs ++ [th]))) so (.lst []))) (fun v H3 => FzK (putC cl Hf (upd (upd H p (.lst (xs ++ [th]))) so (.lst []))) H3 → Q v (delC cl H3)) (fun c d H3 => FzK (putC cl Hf (upd (upd H p (.lst (xs ++ [th]))) so (.lst []))) H3 → E c d (delC cl H3)))
theorem act_gath (T : Tx K mg) (f : Addr) (cl : List (Str × Addr)) (c : Addr) (k : Nat) : Act P w K mg base (k + 1) f (spCloF f (nfGath cl c) ["many", "some", "work"] (spGath P w K mg base cl k)) := by
  have S : NScope ["line", "thing", "many", "some", "work", "things"] ["line", "thing"] ["many", "some", "work"] (nfGath cl c).scope := nscope_by (by kernel_rfl)
  refine act_cloF S (fun Hf ws vs H Q E h => ?_) (fun doc pm ctv us hl => ?_) (fun A outer s Hf vs ws Q E hr hco hz hC ho h => ?_)
  · obtain ⟨_, _, _, _, _, _, _, rfl, _⟩ := h; rfl
  · match us, hl with
    | [_, _], _ => rfl
  · obtain ⟨m, so, wk, line, th, xs, rfl, rfl, hso, hx, q1, q2⟩ := h
    refine ⟨_, (pss_cons (ps_expr (pe_bmK (K := K) rfl PySem.F.plainAttrs_list PySem.F.slot_list_append PySem.F.type_list_append mt_append (pv 3) (pa_cons (pv 1) pa_nil)))
      (pss_cons (ps_if (pt_cmpR op_lt (pe_callB (call_len_seqK (K := K) rfl) (by rfl) T.b_len (by decide +kernel) (pa_cons (pv 3) pa_nil)) (pv 2) (nomark _))
      (pss_one (ps_ret pe_non))
      pss_nil)
      (pss_cons (ps_set (i := 5) S.nd rfl (Or.inl rfl) (pe_callTy (call_list_ofK (K := K) rfl) (by rfl) T.b_list (by decide +kernel) (pa_cons (pv 3) pa_nil)))
      (pss_cons (ps_expr (pe_bm0K (K := K) rfl PySem.F.plainAttrs_list PySem.F.slot_list_clear PySem.F.type_list_clear mt_clear (pv 3)))
      (pss_one (ps_ret (pe_callVFK (P := P) (w := w) (K := K) (mg := mg) (base := base) rfl rfl rfl rfl rfl (k := k) (i := 4) (hr.mono (by first | decide | omega)) (passes_call (takes_of rfl rfl rfl rfl) (fun _ _ _ _ h => h)) S.nd hco hz rfl rfl (Or.inr (Or.inr (by rfl))) (pa_cons (pv 0) (pa_cons (pv 5) pa_nil))))))))), ?_⟩
    simp only [startF, hso, ncx_K, ncx_prog, ncx_w, ncx_mg, ncx_base, ncx_cells, ncx_scope, ncx_N, ncx_s0, rAppend_ref, rClear_ref, tBM, tBM0, tyV_lst, isL_lst, HO.lst.injEq, upd_same, upd_upd, tCutE, tIfE, false_and, exists_false, false_or, or_false, tRet, tRetN, tAndV, tOrV, tNotV, tChain, rI, rI0, rU, tC, tCB, tCons, tNil, tVar, tOp, tUn, tTest, tB, tAnd, tOr, tNot, tIf, tIfS, tSeq, tAsg, tDrop, tNext, gName, gTup_ref, gCons_cons, gNil_nil, and_assoc, tYes, wipe, rEq, rNe, scal_ss, scal_ii, scal_bb, scal_ns, scal_sn, scal_nn, scal_in, scal_ni, tLc_eq, tFor_eq, iList, iTup, iStr, iRng1, iRng2, iZip, iEnum, gSub, tSl, rSetL_ref, rCat_ref, rRep_ref, rJoin_ref, rSlL_ref, rSlS_ref, rMulS_ref, rIxL_ref, rIxT_ref, rLenK_ref, rAll_ref, rIn_ref, tLst, tTup, tPar, tPar3, tAug, tPart, tNoPart, tCall, List.getElem?_cons_zero, List.getElem?_cons_succ, List.set_cons_zero, List.set_cons_succ, List.map_cons, List.map_nil, List.append_nil, List.nil_append, List.cons_append, Option.some.injEq, exists_eq_left', exists_eq_left, exists_eq_right, exists_eq_right', exists_eq', V.int.injEq, V.str.injEq, V.bl.injEq, V.ref.injEq, List.cons.injEq, tM0, tM1, rNewStrs, sgn_eq, split_dot, split_sp, split_nl, dot_len, sp_len, nl_len, cxOf_K, L2.start, List.length_cons, List.length_nil, List.replicate_succ, List.replicate_zero, Nat.reduceSub, Nat.zero_add, and_true, true_and, and_self, exists_and_left, exists_const, Bool.false_eq_true, if_false, if_true, ite_true, ite_false, reduceIte, decide_eq_true_eq, reduceCtorEq, Nat.reduceAdd, Nat.reduceLT, tMseq, tMret, tNdef1, tThru, tCallV, tCallVF, tCallVO, tListZip, tCallX, tCallXU, tCallV, tCallVS, tLam1, tLamD, tCallS, tCls, tClsD, cx_cells, cx_scope, cx_N, cx_prog, cx_w, cx_base, cx_mg, cx_qual]
    refine ⟨smallLt hx, _, .inl (.of upd_same), ?_⟩
    have el : ((xs ++ [th]).length : Int) = (xs.length : Int) + 1 := by simp
    rw [el]
    by_cases e : (xs.length : Int) + 1 < m
    · exact ifP e (q1 e)
    refine ifN e ⟨so, _, rfl, .inl (.of upd_same), fun p np => ?_⟩
    have nps : p ≠ so := fun z => by rw [z, upd_same] at np; cases np
    have np' : delC cl Hf p = none := by rw [upd_ne nps] at np; exact np
    have hsp : ∀ o, upd (upd (delC (nfGath cl c).cl Hf) so (.lst (xs ++ [th]))) p o so = some (.lst (xs ++ [th])) := fun o => by rw [upd_ne nps.symm, upd_same]
    refine ⟨.inl ⟨rfl, _, .of (hsp _)⟩, _, hsp _, fun CE obs hobs => ?_⟩
    have eh : upd (upd (upd (delC (nfGath cl c).cl Hf) so (.lst (xs ++ [th]))) p (.lst (xs ++ [th]))) so (.lst []) = upd (upd (delC cl Hf) p (.lst (xs ++ [th]))) so (.lst []) := funext fun b => by
      by_cases z : b = so
      · rw [z, upd_same, upd_same]
      · rw [upd_ne z, upd_ne z]
        by_cases y : b = p
        · rw [y, upd_same, upd_same]
        · rw [upd_ne y, upd_ne y, upd_ne z]; rfl
    obtain ⟨sp, ac, h⟩ := q2 e p np' (CE.out (a := p) (by rw [upd_ne nps, upd_same]))
    refine ⟨sp, ac, ?_⟩
    rw [exC_put S hC (fun i v hi => ?_) (fun c v ob z e => hobs c ob z (ho c v ob z e)), eh]
    · exact h
    match i, hi with
    | 0, hi => exact congrArg some hi
    | 1, hi => exact congrArg some hi
    | 2, hi => exact congrArg some hi
section
variable {H : Hp} {f so wk : Addr} {m : Int} {line th : V} {xs : List V} {k : Nat} {R : VK} {RE : XK}
/-- too few yet -/
theorem gath_few (T : Tx K mg) (C : CloAt H f nfGath ["many", "some", "work"] [.int m, .ref so, .ref wk]) (hso : H so = some (.lst xs)) (hx : xs.length ≤ 100000) (h : (xs.length : Int) + 1 < m) : ∃ sp, Act P w K mg base (k + 1) f sp ∧ Runs sp [line, th] H (fun v H' => v = .non ∧ H' = upd H so (.lst (xs ++ [th]))) E0 := by
  obtain ⟨cl, c, h1, h2, h3, h4, h5⟩ := C
  have nl : ¬ InC cl so := fun z => by
    obtain ⟨v, ob, e⟩ := h5.tr z
    rw [hso] at e; cases e
  refine ⟨_, act_gath T f cl c k, fun Q E hq he => ⟨_, h1, by rw [h3]; exact h4, by rw [h2]; exact h5, m, so, wk, line, th, xs, rfl, rfl, ?_, hx, fun _ hz => ?_, fun n => absurd h n⟩⟩
  · rw [h2, delC_out nl]; exact hso
  · rw [h2, putC_upd nl, putC_del]
    exact hq _ _ ⟨rfl, rfl⟩
/-- so many -/
theorem gath_full (T : Tx K mg) (C : CloAt H f nfGath ["many", "some", "work"] [.int m, .ref so, .ref wk]) (hso : H so = some (.lst xs)) (hx : xs.length ≤ 100000) (h : ¬ (xs.length : Int) + 1 < m) (hw : ∀ p, H p = none → ∃ sp, Act P w K mg base k wk sp ∧ Runs sp [line, .ref p] (upd (upd H p (.lst (xs ++ [th]))) so (.lst [])) R RE) : ∃ sp, Act P w K mg base (k + 1) f sp ∧ Runs sp [line, th] H R RE := by
  obtain ⟨cl, c, h1, h2, h3, h4, h5⟩ := C
  have nl : ¬ InC cl so := fun z => by
    obtain ⟨v, ob, e⟩ := h5.tr z
    rw [hso] at e; cases e
  refine ⟨_, act_gath T f cl c k, fun Q E hq he => ⟨_, h1, by rw [h3]; exact h4, by rw [h2]; exact h5, m, so, wk, line, th, xs, rfl, rfl, ?_, hx, fun z => absurd z h, fun _ p np ni => ?_⟩⟩
  · rw [h2, delC_out nl]; exact hso
  rw [h2] at np ⊢
  rw [delC_out ni] at np
  obtain ⟨sp, ac, r⟩ := hw p np
  have nps : p ≠ so := fun z => by rw [z, hso] at np; cases np
  have fz : ∀ {H3 : Hp}, FzK (upd (upd H p (.lst (xs ++ [th]))) so (.lst [])) H3 → FzK H H3 := fun {H3} g b o u e => by
    refine g b o u ?_
    have n1 : b ≠ so := fun z => by rw [z, hso] at e; cases e
    have n2 : b ≠ p := fun z => by rw [z, np] at e; cases e
    rw [upd_ne n1, upd_ne n2]; exact e
  refine ⟨sp, ac, ?_⟩
  rw [putC_upd nl, putC_upd ni, putC_del]
  refine r _ _ (fun v H3 q g hz => ?_) (fun cc d H3 q g hz => ?_)
  · rw [put_del h5 (fz g)]; exact hq _ _ q
  · rw [put_del h5 (fz g)]; exact he _ _ _ q
end
/-! .. its maker -/
def sp_gathered (P : Program) (w : World) (K : PySem.W.Frag) (mg : Str → Option Value) (base : Heap) : Sp := fun vs H Q E => ∃ (wk : Addr) (m : Int), vs = [.ref wk, .int m] ∧ Tab K H ∧ (m < 1 → E (.ref (He.ga K "BadCount")) none H) ∧
  (1 ≤ m → ∀ H' f so, Fwd K No H H' → H f = none → H so = none → H' so = some (.lst []) → CloAt H' f nfGath ["many", "some", "work"] [.int m, .ref so, .ref wk] → Q (.ref f) H')
theorem G_gathered (T : Tx K mg) (B : Tb K mg base) : Glob P w K mg base (L2.CX P w) (2) "gathered" p_gathered [] (sp_gathered P w K mg base) := by
  obtain ⟨fd, F⟩ := T.f_gathered
  refine ⟨_, fd, [], okM (p := ("gathered", none)) F sc_gathered (fun vs H Q E h => ?_) (fun A outer s H vs Q E hr h => ?_), T.g_gathered, F.kp, .nil, F.bindsN fun _ _ _ _ _ _ us hl => match us, hl with | [_, _], _ => rfl⟩
  · obtain ⟨wk, m, rfl, _⟩ := h; rfl
  · obtain ⟨wk, m, rfl, hT, q1, q2⟩ := h
    refine ⟨_, (pm_cons (ps_if (pt_cmpR op_lt (pv 1) pe_int (nomark _))
      (pss_one (ps_raise rfl (takes_of rfl rfl rfl rfl) (pmk_own PySem.F.excBase_ValueError T.x_BadCount.1 T.g_BadCount T.x_BadCount.2.1 (raises_own T.x_BadCount.2.2.1 T.x_BadCount.2.2.2) rfl)))
      pss_nil)
      (pm_cons (ps_set (i := 2) sc_gathered.nd rfl (Or.inr rfl) (pe_lst pa_nil))
      (pm_cons (ps_ndef1 (i := 3) (Ts := Ts K) (nm := nm) (B.t_gathered) rfl (m_gathered K) (show nm 41 4 = Str.ofString "gathered.<locals>." ++ Str.ofString "gather" by decide +kernel) (ndef_free (sc := defScope s_gathered) (fr := ["many", "some", "work"]) (by decide +kernel)) rfl rfl rfl sc_gathered.nd rfl (Or.inl rfl) (Or.inr rfl))
      (pm_ret (pv 3) sc_gathered.nd (fun _ _ _ => rfl))))), ?_⟩
    simp only [upd_same, tCutE, tIfE, false_and, exists_false, false_or, or_false, tRet, tRetN, tAndV, tOrV, tNotV, tChain, rI, rI0, rU, tC, tCB, tCons, tNil, tVar, tOp, tUn, tTest, tB, tAnd, tOr, tNot, tIf, tIfS, tSeq, tAsg, tDrop, tNext, gName, gTup_ref, gCons_cons, gNil_nil, and_assoc, tYes, wipe, rEq, rNe, scal_ss, scal_ii, scal_bb, scal_ns, scal_sn, scal_nn, scal_in, scal_ni, tLc_eq, tFor_eq, iList, iTup, iStr, iRng1, iRng2, iZip, iEnum, gSub, tSl, rSetL_ref, rCat_ref, rRep_ref, rJoin_ref, rSlL_ref, rSlS_ref, rMulS_ref, rIxL_ref, rIxT_ref, rLenK_ref, rAll_ref, rIn_ref, tLst, tTup, tPar, tPar3, tAug, tPart, tNoPart, tCall, List.getElem?_cons_zero, List.getElem?_cons_succ, List.set_cons_zero, List.set_cons_succ, List.map_cons, List.map_nil, List.append_nil, List.nil_append, List.cons_append, Option.some.injEq, exists_eq_left', exists_eq_left, exists_eq_right, exists_eq_right', exists_eq', V.int.injEq, V.str.injEq, V.bl.injEq, V.ref.injEq, List.cons.injEq, tM0, tM1, rNewStrs, sgn_eq, split_dot, split_sp, split_nl, dot_len, sp_len, nl_len, cxOf_K, L2.start, List.length_cons, List.length_nil, List.replicate_succ, List.replicate_zero, Nat.reduceSub, Nat.zero_add, and_true, true_and, and_self, exists_and_left, exists_const, Bool.false_eq_true, if_false, if_true, ite_true, ite_false, reduceIte, decide_eq_true_eq, reduceCtorEq, Nat.reduceAdd, Nat.reduceLT, tMseq, tMret, tNdef1, tThru, tCallV, tCallVF, tCallVO, tListZip, tCallX, tCallXU, tCallV, tCallVS, tLam1, tLamD, tCallS, tCls, tClsD, cx_cells, cx_scope, cx_N, cx_prog, cx_w, cx_base, cx_mg, cx_qual]
    by_cases e : m < 1
    · exact ifP e (q1 e)
    refine ifN e ⟨by decide, fun p np => ?_⟩
    have sp1 : Same H (upd H p (.lst [])) := same_put (Same.refl _) np
    refine ⟨hT.ext sp1, fun f c H1 e1 n1 T1 f0 f1 c1 C obs => ?_⟩
    have w1 : Fwd K No (upd H p (.lst [])) H1 := Fw.of_off (hT.ext sp1) e1 n1 T1
    have hp1 : H1 p = some (.lst []) := w1.lst (hT.ext sp1) upd_same (fun z => z)
    exact q2 (by omega) _ f p (((Fw.of_same sp1 hT).trans w1).same C.same) (upd_dom (e := f0)) np (C.same _ _ hp1) (made_clo C f1 c1 rfl rfl rfl [1, 2, 0] (by kernel_rfl) (nscope_by (N := ["line", "thing", "many", "some", "work", "things"]) (ps := ["line", "thing"]) (by kernel_rfl)) rfl rfl)
/-! ### changed -/
abbrev frCh : List Str := ["change", "work"]
def spChg (P : Program) (w : World) (K : PySem.W.Frag) (mg : Str → Option Value) (base : Heap) (cl : List (Str × Addr)) (k : Nat) : Hp → List V → Sp := fun Hf ws vs H Q E => ∃ (fc fw : Addr) (line th : V), ws = [.ref fc, .ref fw] ∧ vs = [line, th] ∧
  ∃ sp, ∃ (R1 : VK) (RE1 : XK), Act P w K mg base k fc sp ∧ Runs sp [line, th] Hf R1 RE1 ∧ (∀ v H3, R1 v H3 → FzK Hf H3 → ∃ sp2, Act P w K mg base k fw sp2 ∧ sp2 [line, v] (putC cl Hf (delC cl H3)) (fun v2 H4 => FzK (putC cl Hf (delC cl H3)) H4 → Q v2 (delC cl H4)) (fun c d H4 => FzK (putC cl Hf (delC cl H3)) H4 → E c d (delC cl H4))) ∧ ∀ c d H3, RE1 c d H3 → FzK Hf H3 → E c d (delC cl H3)
def LamC (P : Program) (w : World) (K : PySem.W.Frag) (mg : Str → Option Value) (base : Heap) (H : Hp) (f : Addr) (ws : List V) : Prop :=
  ∃ L : LF, H f = some (LamO f L) ∧ H L.c = some (CodeO L.c L.qual) ∧ L.dT = none ∧ CapsAt L.cl frCh ws H ∧ ∀ k, Act P w K mg base (k + 1) f (spLamF f L frCh (spChg P w K mg base L.cl k))
theorem LamC.mono {H H' : Hp} {f : Addr} {ws : List V} (h : LamC P w K mg base H f ws) (e : ∀ b o, H b = some o → Imm o → H' b = some o) : LamC P w K mg base H' f ws := by
  obtain ⟨L, h1, h2, h3, h4, h5⟩ := h
  exact ⟨L, e _ _ h1 imm_lam, e _ _ h2 imm_code, h3, h4.mono fun a _ v ⟨ob, q⟩ => ⟨ob, e _ _ q imm_cell⟩, h5⟩
theorem chg_runs {H : Hp} {f fc fw : Addr} {line th : V} {k : Nat} {R1 R : VK} {RE : XK} (h : LamC P w K mg base H f [.ref fc, .ref fw]) (r1 : ∃ sp, Act P w K mg base k fc sp ∧ Runs sp [line, th] H R1 RE) (r2 : ∀ v H1, R1 v H1 → ∃ sp, Act P w K mg base k fw sp ∧ Runs sp [line, v] H1 R RE) (hfz : ∀ v H1, R1 v H1 → FzK H H1) : ∃ sp, Act P w K mg base (k + 1) f sp ∧ Runs sp [line, th] H R RE := by
  obtain ⟨L, h1, h2, h3, h4, h5⟩ := h
  obtain ⟨sp1, a1, g1⟩ := r1
  refine ⟨_, h5 k, fun Q E hq he => ⟨_, h1, h2, h4, h3, fc, fw, line, th, rfl, rfl, sp1, R1, RE, a1, g1, (fun v H3 q fz => ?_), (fun c d H3 q fz hz => ?_)⟩⟩
  · obtain ⟨sp2, a2, g2⟩ := r2 v H3 q
    rw [put_del h4 fz]
    refine ⟨sp2, a2, g2 _ _ (fun v2 H4 q2 fz2 hz => ?_) (fun c d H4 q2 fz2 hz => ?_)⟩
    · rw [put_del h4 (fun b o u e => fz2 b o u (fz b o u e))]; exact hq _ _ q2
    · rw [put_del h4 (fun b o u e => fz2 b o u (fz b o u e))]; exact he _ _ _ q2
  · rw [put_del h4 fz]; exact he _ _ _ q
theorem made_lamC {H : Hp} {f : Addr} {ws : List V} {cm : List (Str × Addr)} {sc : Scope} {N : List Str} {σ : L2.St} {obs : Addr → Obj} {L : LF} {N' ps' : List Str} (C : CEnv cm sc N H) (hf : H f = some (LamO f L)) (hc : H L.c = some (CodeO L.c L.qual)) (hcl : L.cl = cloFrom cm L.scope.names []) (hd : L.dT = none)
    (js : List Nat) (hb : ndefB sc L.scope frCh = true) (S : NScope N' ps' frCh L.scope) (hjs : js.map (fun j => N[j]?) = frCh.map some) (hws : js.map (fun j => σ[j]?) = ws.map (fun v => some (some v))) (ac : ∀ k, Act P w K mg base (k + 1) f (spLamF f L frCh (spChg P w K mg base L.cl k))) : LamC P w K mg base (exC cm sc N σ obs H) f ws :=
  ⟨L, C.same _ _ hf, C.same _ _ hc, hd, hcl ▸ C.caps hb S.free hjs hws (fun a o h _ => h), ac⟩
def sp_changed (P : Program) (w : World) (K : PySem.W.Frag) (mg : Str → Option Value) (base : Heap) : Sp := fun vs H Q _ => ∃ (fw fc : Addr), vs = [.ref fw, .ref fc] ∧ Tabs1 (Ts K) nm H ∧ ∀ H' f, Fw (Ts K) nm No H H' → H f = none → LamC P w K mg base H' f [.ref fc, .ref fw] → Q (.ref f) H'
theorem G_changed (T : Tx K mg) (B : Tb K mg base) : Glob P w K mg base (CX0) (2) "changed" p_changed [] (sp_changed P w K mg base) := by
  obtain ⟨fd, F⟩ := T.f_changed
  refine ⟨_, fd, [], okM (p := ("changed", none)) F sc_changed (fun vs H Q E h => ?_) (fun A outer s H vs Q E hr h => ?_), T.g_changed, F.kp, .nil, F.bindsN fun _ _ _ _ _ _ us hl => match us, hl with | [_, _], _ => rfl⟩
  · obtain ⟨fw, fc, rfl, _⟩ := h; rfl
  · obtain ⟨fw, fc, rfl, hT, q⟩ := h
    refine ⟨_, (pm_ret (pe_lam (Ts := Ts K) (nm := nm) (B.t_changed) rfl (m_changed K) (show nm 50 11 = Str.ofString "changed.<locals>." ++ Str.ofString "<lambda>" by decide +kernel) (ndef_free (sc := defScope s_changed) (fr := ["change", "work"]) (by decide +kernel)) rfl) sc_changed.nd (fun _ _ _ => rfl)), ?_⟩
    simp only [tLstRg, upd_same, tCutE, tIfE, false_and, exists_false, false_or, or_false, tRet, tRetN, tAndV, tOrV, tNotV, tChain, rI, rI0, rU, tC, tCB, tCons, tNil, tVar, tOp, tUn, tTest, tB, tAnd, tOr, tNot, tIf, tIfS, tSeq, tAsg, tDrop, tNext, gName, gTup_ref, gCons_cons, gNil_nil, and_assoc, tYes, wipe, rEq, rNe, scal_ss, scal_ii, scal_bb, scal_ns, scal_sn, scal_nn, scal_in, scal_ni, tLc_eq, tFor_eq, iList, iTup, iStr, iRng1, iRng2, iZip, iEnum, gSub, tSl, rSetL_ref, rCat_ref, rRep_ref, rJoin_ref, rSlL_ref, rSlS_ref, rMulS_ref, rIxL_ref, rIxT_ref, rLenK_ref, rAll_ref, rIn_ref, tLst, tTup, tPar, tPar3, tAug, tPart, tNoPart, tCall, List.getElem?_cons_zero, List.getElem?_cons_succ, List.set_cons_zero, List.set_cons_succ, List.map_cons, List.map_nil, List.append_nil, List.nil_append, List.cons_append, Option.some.injEq, exists_eq_left', exists_eq_left, exists_eq_right, exists_eq_right', exists_eq', V.int.injEq, V.str.injEq, V.bl.injEq, V.ref.injEq, List.cons.injEq, tM0, tM1, rNewStrs, sgn_eq, split_dot, split_sp, split_nl, dot_len, sp_len, nl_len, cxOf_K, L2.start, List.length_cons, List.length_nil, List.replicate_succ, List.replicate_zero, Nat.reduceSub, Nat.zero_add, and_true, true_and, and_self, exists_and_left, exists_const, Bool.false_eq_true, if_false, if_true, ite_true, ite_false, reduceIte, decide_eq_true_eq, reduceCtorEq, Nat.reduceAdd, Nat.reduceLT, tMseq, tMret, tNdef1, tThru, tCallV, tCallVF, tCallVO, tListZip, tCallX, tCallXU, tCallV, tCallVS, tLam1, tLamD, tCallS, tCls, tClsD, cx_cells, cx_scope, cx_N, cx_prog, cx_w, cx_base, cx_mg, cx_qual]
    refine ⟨hT, fun f c' H1 e1 d1 T1 f0 f1 c1 CE obs => ?_⟩
    refine q _ f ((Fw.of_off hT e1 d1 T1).same CE.same) f0 (made_lamC CE f1 c1 rfl rfl [1, 0] (by kernel_rfl) (nscope_by (N := ["line", "thing", "change", "work"]) (ps := ["line", "thing"]) (by kernel_rfl)) rfl rfl (fun k => ?_))
    refine act_lamF (N := ["line", "thing", "change", "work"]) (ps := ["line", "thing"]) (fr := frCh) (nscope_by (by kernel_rfl)) (fun Hf ws vs H Q E h => by obtain ⟨_, _, _, _, _, rfl, _⟩ := h; rfl) (fun pm ctv us hl => match us, hl with | [_, _], _ => rfl) (fun S A outer s Hf vs ws Q E hr hco hz hC ho h => ?_)
    obtain ⟨fc, fw, line, th, rfl, rfl, sp1, R1, RE1, a1, g1, h, hx⟩ := h
    refine ⟨_, (pe_callVFK (P := P) (w := w) (K := K) (mg := mg) (base := base) rfl rfl rfl rfl rfl (k := k) (i := 3) (hr.mono (by first | decide | omega)) (passes_call (takes_of rfl rfl rfl rfl) (fun _ _ _ _ h => h)) S.nd hco hz rfl rfl (Or.inr (Or.inr (by rfl))) (pa_cons (pv 0) (pa_cons (pe_callVFK (P := P) (w := w) (K := K) (mg := mg) (base := base) rfl rfl rfl rfl rfl (k := k) (i := 2) (hr.mono (by first | decide | omega)) (passes_call (takes_of rfl rfl rfl rfl) (fun _ _ _ _ h => h)) S.nd hco hz rfl rfl (Or.inr (Or.inr (by rfl))) (pa_cons (pv 0) (pa_cons (pv 1) pa_nil))) pa_nil))), ?_⟩
    have hσ : ∀ {σ : L2.St} {obs : Addr → Obj} {Hx : Hp}, σ = [some line, some th, some (.ref fc), some (.ref fw)] → (∀ c v ob, InC _ c → Hf c = some (CellO c v ob) → obs c = ob) → exC _ _ _ σ obs Hx = putC _ Hf Hx := fun {σ obs Hx} e hobs => exC_put S hC (fun i v hi => by
      subst e
      match i, hi with
      | 0, hi => exact congrArg some hi
      | 1, hi => exact congrArg some hi) hobs
    simp only [startF, ncx_K, ncx_prog, ncx_w, ncx_mg, ncx_base, ncx_cells, ncx_scope, ncx_N, ncx_s0, tCutE, tIfE, false_and, exists_false, false_or, or_false, tRet, tRetN, tAndV, tOrV, tNotV, tChain, rI, rI0, rU, tC, tCB, tCons, tNil, tVar, tOp, tUn, tTest, tB, tAnd, tOr, tNot, tIf, tIfS, tSeq, tAsg, tDrop, tNext, gName, gTup_ref, gCons_cons, gNil_nil, and_assoc, tYes, wipe, rEq, rNe, scal_ss, scal_ii, scal_bb, scal_ns, scal_sn, scal_nn, scal_in, scal_ni, tLc_eq, tFor_eq, iList, iTup, iStr, iRng1, iRng2, iZip, iEnum, gSub, tSl, rSetL_ref, rCat_ref, rRep_ref, rJoin_ref, rSlL_ref, rSlS_ref, rMulS_ref, rIxL_ref, rIxT_ref, rLenK_ref, rAll_ref, rIn_ref, tLst, tTup, tPar, tPar3, tAug, tPart, tNoPart, tCall, List.getElem?_cons_zero, List.getElem?_cons_succ, List.set_cons_zero, List.set_cons_succ, List.map_cons, List.map_nil, List.append_nil, List.nil_append, List.cons_append, Option.some.injEq, exists_eq_left', exists_eq_left, exists_eq_right, exists_eq_right', exists_eq', V.int.injEq, V.str.injEq, V.bl.injEq, V.ref.injEq, List.cons.injEq, tM0, tM1, rNewStrs, sgn_eq, split_dot, split_sp, split_nl, dot_len, sp_len, nl_len, cxOf_K, L2.start, List.length_cons, List.length_nil, List.replicate_succ, List.replicate_zero, Nat.reduceSub, Nat.zero_add, and_true, true_and, and_self, exists_and_left, exists_const, Bool.false_eq_true, if_false, if_true, ite_true, ite_false, reduceIte, decide_eq_true_eq, reduceCtorEq, Nat.reduceAdd, Nat.reduceLT, tMseq, tMret, tNdef1, tThru, tCallV, tCallVF, tCallVO, tListZip, tCallX, tCallXU, tCallV, tCallVS, tLam1, tLamD, tCallS, tCls, tClsD, cx_cells, cx_scope, cx_N, cx_prog, cx_w, cx_base, cx_mg, cx_qual]
    refine fun hE obs hobs => ⟨sp1, a1, ?_⟩
    rw [hσ rfl (fun c v ob z e => hobs c ob z (ho c v ob z e)), put_self]
    refine g1 _ _ (fun v H3 q fz CE2 obs2 hobs2 => ?_) hx
    obtain ⟨sp2, a2, h2⟩ := h v H3 q fz
    refine ⟨sp2, a2, ?_⟩
    rw [hσ rfl (fun c v ob z e => hobs2 c ob z (ho c v ob z e))]
    exact h2
end
end Hk

set_option Elab.async false
set_option linter.all false
set_option maxRecDepth 100000
set_option maxHeartbeats 4000000
namespace Hk
open PySem PySem.Spec PyProof.Rows L2
open LamX NdefX
open TL
section
variable {P : Program} {w : World} {K : PySem.W.Frag} {mg : Str → Option Value} {base : Heap}
/-! ### works that note -/
abbrev st_nfWrk : Stmt := (defBody s_law_worker).getD 0 (.Pass ⟨0, 0, 0, 0⟩)
def nfWrk (cl : List (Str × Addr)) (c : Addr) : NF := ⟨"_law_call", Str.ofString "_law_worker.<locals>." ++ Str.ofString "_law_call", defArgs st_nfWrk, defBody st_nfWrk, defScope st_nfWrk, cl, c⟩
def sp_law_worker (K : PySem.W.Frag) : Sp := fun vs H Q _ => ∃ (lg : Addr) (mark : V), vs = [.ref lg, mark] ∧ Tab K H ∧ ∀ H' f, Fwd K No H H' → H f = none → CloAt H' f nfWrk ["_law_log", "_law_mark"] [.ref lg, mark] → Q (.ref f) H'
theorem G_law_worker (T : Tx K mg) (B : Tb K mg base) : Glob P w K mg base (CX0) (1) "_law_worker" p_law_worker [] (sp_law_worker K) := by
  obtain ⟨fd, F⟩ := T.f_law_worker
  refine ⟨_, fd, [], okM (p := ("_law_worker", none)) F sc_law_worker (fun vs H Q E h => ?_) (fun A outer s H vs Q E hr h => ?_), T.g__law_worker, F.kp, .nil, F.bindsN fun _ _ _ _ _ _ us hl => match us, hl with | [_, _], _ => rfl⟩
  · obtain ⟨lg, mark, rfl, _⟩ := h; rfl
  · obtain ⟨lg, mark, rfl, hT, q⟩ := h
    refine ⟨_, (pm_cons (ps_ndef1 (i := 2) (Ts := Ts K) (nm := nm) (B.t_law_worker) rfl (m_law_worker K) (show nm 100 4 = Str.ofString "_law_worker.<locals>." ++ Str.ofString "_law_call" by decide +kernel) (ndef_free (sc := defScope s_law_worker) (fr := ["_law_log", "_law_mark"]) (by decide +kernel)) rfl rfl rfl sc_law_worker.nd rfl (Or.inl rfl) (Or.inr rfl))
      (pm_ret (pv 2) sc_law_worker.nd (fun _ _ _ => rfl))), ?_⟩
    simp only [upd_same, tCutE, tIfE, false_and, exists_false, false_or, or_false, tRet, tRetN, tAndV, tOrV, tNotV, tChain, rI, rI0, rU, tC, tCB, tCons, tNil, tVar, tOp, tUn, tTest, tB, tAnd, tOr, tNot, tIf, tIfS, tSeq, tAsg, tDrop, tNext, gName, gTup_ref, gCons_cons, gNil_nil, and_assoc, tYes, wipe, rEq, rNe, scal_ss, scal_ii, scal_bb, scal_ns, scal_sn, scal_nn, scal_in, scal_ni, tLc_eq, tFor_eq, iList, iTup, iStr, iRng1, iRng2, iZip, iEnum, gSub, tSl, rSetL_ref, rCat_ref, rRep_ref, rJoin_ref, rSlL_ref, rSlS_ref, rMulS_ref, rIxL_ref, rIxT_ref, rLenK_ref, rAll_ref, rIn_ref, tLst, tTup, tPar, tPar3, tAug, tPart, tNoPart, tCall, List.getElem?_cons_zero, List.getElem?_cons_succ, List.set_cons_zero, List.set_cons_succ, List.map_cons, List.map_nil, List.append_nil, List.nil_append, List.cons_append, Option.some.injEq, exists_eq_left', exists_eq_left, exists_eq_right, exists_eq_right', exists_eq', V.int.injEq, V.str.injEq, V.bl.injEq, V.ref.injEq, List.cons.injEq, tM0, tM1, rNewStrs, sgn_eq, split_dot, split_sp, split_nl, dot_len, sp_len, nl_len, cxOf_K, L2.start, List.length_cons, List.length_nil, List.replicate_succ, List.replicate_zero, Nat.reduceSub, Nat.zero_add, and_true, true_and, and_self, exists_and_left, exists_const, Bool.false_eq_true, if_false, if_true, ite_true, ite_false, reduceIte, decide_eq_true_eq, reduceCtorEq, Nat.reduceAdd, Nat.reduceLT, tMseq, tMret, tNdef1, tThru, tCallV, tCallVF, tCallVO, tListZip, tCallX, tCallXU, tCallV, tCallVS, tLam1, tLamD, tCallS, tCls, tClsD, cx_cells, cx_scope, cx_N, cx_prog, cx_w, cx_base, cx_mg, cx_qual]
    refine ⟨hT, fun f c H1 e1 n1 T1 f0 f1 c1 C obs => ?_⟩
    exact q _ f ((Fw.of_off hT e1 n1 T1).same C.same) f0 (made_clo C f1 c1 rfl rfl rfl [0, 1] (by kernel_rfl) (nscope_by (N := ["_law_line", "_law_thing", "_law_log", "_law_mark"]) (ps := ["_law_line", "_law_thing"]) (by kernel_rfl)) rfl rfl)
def spWrk : List (Option V) → Sp := fun ws vs H Q _ => ∃ (lg : Addr) (mark line th : V) (xs : List V), ws = [some (.ref lg), some mark] ∧ vs = [line, th] ∧ H lg = some (.lst xs) ∧ xs.length ≤ 100000 ∧ ∀ t, H t = none → Q (.int (xs.length + 1)) (upd (upd H t (.tup [mark, line, th])) lg (.lst (xs ++ [.ref t])))
theorem nok_wrk (T : Tx K mg) (f : Addr) (cl : List (Str × Addr)) (c : Addr) : NOk P w K mg base (L2.CX P w) 1 f (nfWrk cl c) ["_law_line", "_law_thing"] ["_law_log", "_law_mark"] spWrk := by
  have S : NScope ["_law_line", "_law_thing", "_law_log", "_law_mark"] ["_law_line", "_law_thing"] ["_law_log", "_law_mark"] (nfWrk cl c).scope := nscope_by (by kernel_rfl)
  refine nok_of S (fun doc pm ctv us hl => ?_) (fun ws vs H Q E h => ?_) (fun A outer s H vs ws Q E hr hf hc hl h => ?_)
  · match us, hl with
    | [_, _], _ => rfl
  · obtain ⟨_, _, _, _, _, _, rfl, _⟩ := h; rfl
  · obtain ⟨lg, mark, line, th, xs, rfl, rfl, hlg, hx, q⟩ := h
    refine ⟨_, PSs.nox (pss_cons (ps_expr (pe_bmK (K := K) rfl PySem.F.plainAttrs_list PySem.F.slot_list_append PySem.F.type_list_append mt_append (pv 2) (pa_cons (pe_tup (pa_cons (pv 3) (pa_cons (pv 0) (pa_cons (pv 1) pa_nil)))) pa_nil)))
      (pss_one (ps_ret (pe_callB (call_len_seqK (K := K) rfl) (by rfl) T.b_len (by decide +kernel) (pa_cons (pv 2) pa_nil))))), ?_⟩
    simp only [startF, hlg, rAppend_ref, tBM, tBM0, tyV_lst, isL_lst, HO.lst.injEq, upd_same, tCutE, tIfE, false_and, exists_false, false_or, or_false, tRet, tRetN, tAndV, tOrV, tNotV, tChain, rI, rI0, rU, tC, tCB, tCons, tNil, tVar, tOp, tUn, tTest, tB, tAnd, tOr, tNot, tIf, tIfS, tSeq, tAsg, tDrop, tNext, gName, gTup_ref, gCons_cons, gNil_nil, and_assoc, tYes, wipe, rEq, rNe, scal_ss, scal_ii, scal_bb, scal_ns, scal_sn, scal_nn, scal_in, scal_ni, tLc_eq, tFor_eq, iList, iTup, iStr, iRng1, iRng2, iZip, iEnum, gSub, tSl, rSetL_ref, rCat_ref, rRep_ref, rJoin_ref, rSlL_ref, rSlS_ref, rMulS_ref, rIxL_ref, rIxT_ref, rLenK_ref, rAll_ref, rIn_ref, tLst, tTup, tPar, tPar3, tAug, tPart, tNoPart, tCall, List.getElem?_cons_zero, List.getElem?_cons_succ, List.set_cons_zero, List.set_cons_succ, List.map_cons, List.map_nil, List.append_nil, List.nil_append, List.cons_append, Option.some.injEq, exists_eq_left', exists_eq_left, exists_eq_right, exists_eq_right', exists_eq', V.int.injEq, V.str.injEq, V.bl.injEq, V.ref.injEq, List.cons.injEq, tM0, tM1, rNewStrs, sgn_eq, split_dot, split_sp, split_nl, dot_len, sp_len, nl_len, cxOf_K, L2.start, List.length_cons, List.length_nil, List.replicate_succ, List.replicate_zero, Nat.reduceSub, Nat.zero_add, and_true, true_and, and_self, exists_and_left, exists_const, Bool.false_eq_true, if_false, if_true, ite_true, ite_false, reduceIte, decide_eq_true_eq, reduceCtorEq, Nat.reduceAdd, Nat.reduceLT, tMseq, tMret, tNdef1, tThru, tCallV, tCallVF, tCallVO, tListZip, tCallX, tCallXU, tCallV, tCallVS, tLam1, tLamD, tCallS, tCls, tClsD, cx_cells, cx_scope, cx_N, cx_prog, cx_w, cx_base, cx_mg, cx_qual]
    refine ⟨by decide, fun t nt => ⟨_, by rw [upd_ne (ne_of_none hlg nt)]; exact hlg, smallLt hx, _, .inl (.of upd_same), ?_⟩⟩
    rw [List.length_append, List.length_singleton, Int.natCast_add]
    exact q t nt
theorem wrk_runs (T : Tx K mg) {H : Hp} {f lg : Addr} {mark line th : V} {xs : List V} (C : CloAt H f nfWrk ["_law_log", "_law_mark"] [.ref lg, mark]) (hlg : H lg = some (.lst xs)) (hx : xs.length ≤ 100000) :
    ∃ sp, Act P w K mg base 1 f sp ∧ Runs sp [line, th] H (fun v H' => v = .int (xs.length + 1) ∧ ∃ t, H t = none ∧ H' = upd (upd H t (.tup [mark, line, th])) lg (.lst (xs ++ [.ref t]))) E0 := by
  refine clo_runs C (nok_wrk T) fun cl hcl Q E hq he => ?_
  have nl : ¬ InC cl lg := fun z => by
    obtain ⟨v, ob, e⟩ := hcl lg z
    rw [hlg] at e; cases e
  refine ⟨lg, mark, line, th, xs, rfl, rfl, by rw [delC_out nl]; exact hlg, hx, fun t nt => hq _ _ fun hz => ?_⟩
  have nt2 : ¬ InC cl t := fun z => by
    have := hz t z
    by_cases e : t = lg
    · rw [e, upd_same] at this; cases this
    · rw [upd_ne e, upd_same] at this; cases this
  rw [delC_out nt2] at nt
  refine ⟨rfl, t, nt, ?_⟩
  rw [putC_upd nl, putC_upd nt2, putC_del]
/-! ### what is kept in mind -/
abbrev st_nfMind : Stmt := (defBody s_kept_in_mind).getD 1 (.Pass ⟨0, 0, 0, 0⟩)
def nfMind (cl : List (Str × Addr)) (c : Addr) : NF := ⟨"mind", Str.ofString "kept_in_mind.<locals>." ++ Str.ofString "mind", defArgs st_nfMind, defBody st_nfMind, defScope st_nfMind, cl, c⟩
def sp_kept_in_mind (P : Program) (w : World) (K : PySem.W.Frag) (mg : Str → Option Value) (base : Heap) : Sp := fun vs H Q _ => ∃ (wk : Addr), vs = [.ref wk] ∧ Tab K H ∧ ∀ H' f rw, Fwd K No H H' → H f = none → H rw = none → H' rw = some (.lst []) → CloAt H' f nfMind ["rows", "work"] [.ref rw, .ref wk] → Q (.ref f) H'
theorem G_kept_in_mind (T : Tx K mg) (B : Tb K mg base) : Glob P w K mg base (CX0) (2) "kept_in_mind" p_kept_in_mind [] (sp_kept_in_mind P w K mg base) := by
  obtain ⟨fd, F⟩ := T.f_kept_in_mind
  refine ⟨_, fd, [], okM (p := ("kept_in_mind", none)) F sc_kept_in_mind (fun vs H Q E h => ?_) (fun A outer s H vs Q E hr h => ?_), T.g_kept_in_mind, F.kp, .nil, F.bindsN fun _ _ _ _ _ _ us hl => match us, hl with | [_], _ => rfl⟩
  · obtain ⟨wk, rfl, _⟩ := h; rfl
  · obtain ⟨wk, rfl, hT, q2⟩ := h
    refine ⟨_, (pm_cons (ps_set (i := 1) sc_kept_in_mind.nd rfl (Or.inr rfl) (pe_lst pa_nil))
      (pm_cons (ps_ndef1 (i := 2) (Ts := Ts K) (nm := nm) (B.t_kept_in_mind) rfl (m_kept_in_mind K) (show nm 54 4 = Str.ofString "kept_in_mind.<locals>." ++ Str.ofString "mind" by decide +kernel) (ndef_free (sc := defScope s_kept_in_mind) (fr := ["rows", "work"]) (by decide +kernel)) rfl rfl rfl sc_kept_in_mind.nd rfl (Or.inl rfl) (Or.inr rfl))
      (pm_ret (pv 2) sc_kept_in_mind.nd (fun _ _ _ => rfl)))), ?_⟩
    simp only [upd_same, tCutE, tIfE, false_and, exists_false, false_or, or_false, tRet, tRetN, tAndV, tOrV, tNotV, tChain, rI, rI0, rU, tC, tCB, tCons, tNil, tVar, tOp, tUn, tTest, tB, tAnd, tOr, tNot, tIf, tIfS, tSeq, tAsg, tDrop, tNext, gName, gTup_ref, gCons_cons, gNil_nil, and_assoc, tYes, wipe, rEq, rNe, scal_ss, scal_ii, scal_bb, scal_ns, scal_sn, scal_nn, scal_in, scal_ni, tLc_eq, tFor_eq, iList, iTup, iStr, iRng1, iRng2, iZip, iEnum, gSub, tSl, rSetL_ref, rCat_ref, rRep_ref, rJoin_ref, rSlL_ref, rSlS_ref, rMulS_ref, rIxL_ref, rIxT_ref, rLenK_ref, rAll_ref, rIn_ref, tLst, tTup, tPar, tPar3, tAug, tPart, tNoPart, tCall, List.getElem?_cons_zero, List.getElem?_cons_succ, List.set_cons_zero, List.set_cons_succ, List.map_cons, List.map_nil, List.append_nil, List.nil_append, List.cons_append, Option.some.injEq, exists_eq_left', exists_eq_left, exists_eq_right, exists_eq_right', exists_eq', V.int.injEq, V.str.injEq, V.bl.injEq, V.ref.injEq, List.cons.injEq, tM0, tM1, rNewStrs, sgn_eq, split_dot, split_sp, split_nl, dot_len, sp_len, nl_len, cxOf_K, L2.start, List.length_cons, List.length_nil, List.replicate_succ, List.replicate_zero, Nat.reduceSub, Nat.zero_add, and_true, true_and, and_self, exists_and_left, exists_const, Bool.false_eq_true, if_false, if_true, ite_true, ite_false, reduceIte, decide_eq_true_eq, reduceCtorEq, Nat.reduceAdd, Nat.reduceLT, tMseq, tMret, tNdef1, tThru, tCallV, tCallVF, tCallVO, tListZip, tCallX, tCallXU, tCallV, tCallVS, tLam1, tLamD, tCallS, tCls, tClsD, cx_cells, cx_scope, cx_N, cx_prog, cx_w, cx_base, cx_mg, cx_qual]
    refine ⟨by decide, fun p np => ?_⟩
    have sp1 : Same H (upd H p (.lst [])) := same_put (Same.refl _) np
    refine ⟨hT.ext sp1, fun f c H1 e1 n1 T1 f0 f1 c1 C obs => ?_⟩
    have w1 : Fwd K No (upd H p (.lst [])) H1 := Fw.of_off (hT.ext sp1) e1 n1 T1
    have hp1 : H1 p = some (.lst []) := w1.lst (hT.ext sp1) upd_same (fun z => z)
    exact q2 _ f p (((Fw.of_same sp1 hT).trans w1).same C.same) (upd_dom (e := f0)) np (C.same _ _ hp1) (made_clo C f1 c1 rfl rfl rfl [1, 0] (by kernel_rfl) (nscope_by (N := ["line", "thing", "rows", "work", "one", "other", "told", "found"]) (ps := ["line", "thing"]) (by kernel_rfl)) rfl rfl)
def rowM (x : Str × Int × V) : List V := [.str x.1, .int x.2.1, x.2.2]
def findM (rows : List (Str × Int × V)) (line : Str) (th : Int) : Option V := (rows.find? fun x => decide (x.1 = line ∧ x.2.1 = th)).map (·.2.2)
def spMind (P : Program) (w : World) (K : PySem.W.Frag) (mg : Str → Option Value) (base : Heap) (cl : List (Str × Addr)) (k : Nat) : Hp → List V → Sp := fun Hf ws vs H Q E => ∃ (rw wk : Addr) (line : Str) (th : Int) (rows : List (Str × Int × V)) (ts : List Addr), ws = [.ref rw, .ref wk] ∧ vs = [.str line, .int th] ∧ H rw = some (.lst (ts.map V.ref)) ∧ TupsAt H ts (rows.map rowM) ∧ rows.length ≤ 10000 ∧
  (∀ v, findM rows line th = some v → Q v H) ∧
  (findM rows line th = none → ∃ sp, ∃ (R1 : VK) (RE1 : XK), Act P w K mg base k wk sp ∧ Runs sp [.str line, .int th] Hf R1 RE1 ∧ (∀ v H3, R1 v H3 → FzK Hf H3 → ∃ xs, delC cl H3 rw = some (.lst xs) ∧ xs.length ≤ 10000 ∧ ∀ p, delC cl H3 p = none → Q v (upd (upd (delC cl H3) p (.tup [.str line, .int th, v])) rw (.lst (xs ++ [.ref p])))) ∧ ∀ c d H3, RE1 c d H3 → FzK Hf H3 → E c d (delC cl H3))
theorem find_at {rows : List (Str × Int × V)} {line : Str} {th : Int} {i : Nat} {x : Str × Int × V} (h : ∀ x ∈ rows.take i, ¬ (x.1 = line ∧ x.2.1 = th)) (hx : rows[i]? = some x) (e : x.1 = line ∧ x.2.1 = th) : findM rows line th = some x.2.2 := by
  obtain ⟨hi, hx⟩ := List.getElem?_eq_some_iff.mp hx
  have e2 : rows = rows.take i ++ x :: rows.drop (i + 1) := by rw [← hx, ← List.drop_eq_getElem_cons hi, List.take_append_drop]
  unfold findM
  rw [e2, List.find?_append, List.find?_eq_none.mpr (fun y hy => by simpa using h y hy), Option.none_or, List.find?_cons_of_pos (by simpa using e)]
  rfl
theorem find_none {rows : List (Str × Int × V)} {line : Str} {th : Int} (h : ∀ x ∈ rows, ¬ (x.1 = line ∧ x.2.1 = th)) : findM rows line th = none := by
  unfold findM
  rw [List.find?_eq_none.mpr (fun y hy => by simpa using h y hy)]
  rfl
theorem act_mind (T : Tx K mg) (f : Addr) (cl : List (Str × Addr)) (c : Addr) (k : Nat) : Act P w K mg base (k + 1) f (spCloF f (nfMind cl c) ["rows", "work"] (spMind P w K mg base cl k)) := by
  have S : NScope ["line", "thing", "rows", "work", "one", "other", "told", "found"] ["line", "thing"] ["rows", "work"] (nfMind cl c).scope := nscope_by (by kernel_rfl)
  refine act_cloF S (fun Hf ws vs H Q E h => ?_) (fun doc pm ctv us hl => ?_) (fun A outer s Hf vs ws Q E hr hco hz hC ho h => ?_)
  · obtain ⟨_, _, _, _, _, _, _, rfl, _⟩ := h; rfl
  · match us, hl with
    | [_, _], _ => rfl
  · obtain ⟨rw, wk, line, th, rows, ts, rfl, rfl, hrw, ht, hx, q1, q2⟩ := h
    refine ⟨_, (pss_cons (ps_for (passes_of rfl) rfl (pi_listK (K := K) rfl (pv 2)) (pg_tupK (K := K) rfl rfl (pgs_cons (pg_name (i := 4) S.nd rfl (Or.inl rfl)) (pgs_cons (pg_name (i := 5) S.nd rfl (Or.inl rfl)) (pgs_cons (pg_name (i := 6) S.nd rfl (Or.inl rfl)) pgs_nil))))
      (pss_one (ps_if (PW.pt (pw_and (pt_cmpR op_eq (pv 4) (pv 0) (nomark _)) (pw_and1 (pt_cmpR op_eq (pv 5) (pv 1) (nomark _)))))
      (pss_one (ps_ret (pv 6)))
      pss_nil)))
      (pss_cons (ps_set (i := 7) S.nd rfl (Or.inl rfl) (pe_callVFK (P := P) (w := w) (K := K) (mg := mg) (base := base) rfl rfl rfl rfl rfl (k := k) (i := 3) (hr.mono (by first | decide | omega)) (passes_call (takes_of rfl rfl rfl rfl) (fun _ _ _ _ h => h)) S.nd hco hz rfl rfl (Or.inr (Or.inr (by rfl))) (pa_cons (pv 0) (pa_cons (pv 1) pa_nil))))
      (pss_cons (ps_expr (pe_bmK (K := K) rfl PySem.F.plainAttrs_list PySem.F.slot_list_append PySem.F.type_list_append mt_append (pv 2) (pa_cons (pe_tup (pa_cons (pv 0) (pa_cons (pv 1) (pa_cons (pv 7) pa_nil)))) pa_nil)))
      (pss_one (ps_ret (pv 7)))))), ?_⟩
    simp only [startF, ncx_K, ncx_prog, ncx_w, ncx_mg, ncx_base, ncx_cells, ncx_scope, ncx_N, ncx_s0, rAppend_ref, tBM, tBM0, tyV_lst, isL_lst, HO.lst.injEq, upd_same, upd_upd, tCutE, tIfE, false_and, exists_false, false_or, or_false, tRet, tRetN, tAndV, tOrV, tNotV, tChain, rI, rI0, rU, tC, tCB, tCons, tNil, tVar, tOp, tUn, tTest, tB, tAnd, tOr, tNot, tIf, tIfS, tSeq, tAsg, tDrop, tNext, gName, gTup_ref, gCons_cons, gNil_nil, and_assoc, tYes, wipe, rEq, rNe, scal_ss, scal_ii, scal_bb, scal_ns, scal_sn, scal_nn, scal_in, scal_ni, tLc_eq, tFor_eq, iList, iTup, iStr, iRng1, iRng2, iZip, iEnum, gSub, tSl, rSetL_ref, rCat_ref, rRep_ref, rJoin_ref, rSlL_ref, rSlS_ref, rMulS_ref, rIxL_ref, rIxT_ref, rLenK_ref, rAll_ref, rIn_ref, tLst, tTup, tPar, tPar3, tAug, tPart, tNoPart, tCall, List.getElem?_cons_zero, List.getElem?_cons_succ, List.set_cons_zero, List.set_cons_succ, List.map_cons, List.map_nil, List.append_nil, List.nil_append, List.cons_append, Option.some.injEq, exists_eq_left', exists_eq_left, exists_eq_right, exists_eq_right', exists_eq', V.int.injEq, V.str.injEq, V.bl.injEq, V.ref.injEq, List.cons.injEq, tM0, tM1, rNewStrs, sgn_eq, split_dot, split_sp, split_nl, dot_len, sp_len, nl_len, cxOf_K, L2.start, List.length_cons, List.length_nil, List.replicate_succ, List.replicate_zero, Nat.reduceSub, Nat.zero_add, and_true, true_and, and_self, exists_and_left, exists_const, Bool.false_eq_true, if_false, if_true, ite_true, ite_false, reduceIte, decide_eq_true_eq, reduceCtorEq, Nat.reduceAdd, Nat.reduceLT, tMseq, tMret, tNdef1, tThru, tCallV, tCallVF, tCallVO, tListZip, tCallX, tCallXU, tCallV, tCallVS, tLam1, tLamD, tCallS, tCls, tClsD, cx_cells, cx_scope, cx_N, cx_prog, cx_w, cx_base, cx_mg, cx_qual]
    have tl := ht.len
    rw [List.length_map] at tl
    have hrw : delC cl Hf rw = some (.lst (ts.map V.ref)) := hrw
    have ht : TupsAt (delC cl Hf) ts (rows.map rowM) := ht
    refine ⟨⟨_, .of hrw⟩, forG (walk_listm ts V.ref) (fun i σ H' => (∃ x4 x5 x6, σ = [some (.str line), some (.int th), some (.ref rw), some (.ref wk), x4, x5, x6, none]) ∧ H' = delC cl Hf ∧ ∀ x ∈ rows.take i, ¬ (x.1 = line ∧ x.2.1 = th)) ⟨⟨_, _, _, rfl⟩, rfl, by simp⟩ (fun i σ H' _ hP => by rw [hP.2.1]; exact .of hrw) (fun i x σ H1 H2 hi hP hy => ?_) (fun σ H' hP => ?_)⟩
    · obtain ⟨⟨x4, x5, x6, rfl⟩, rfl, hno⟩ := hP
      obtain ⟨rfl, t, hti, rfl⟩ := hy
      have hir : i < rows.length := by omega
      obtain ⟨⟨a, b, v⟩, hx⟩ : ∃ x, rows[i]? = some x := ⟨rows[i], List.getElem?_eq_getElem hir⟩
      have htup : delC cl Hf t = some (.tup [.str a, .int b, v]) := by
        obtain ⟨y, e1, e2⟩ := ht.get hti
        rw [List.getElem?_map, hx] at e1
        cases e1
        exact e2
      simp only [tCutE, tIfE, false_and, exists_false, false_or, or_false, tRet, tRetN, tAndV, tOrV, tNotV, tChain, rI, rI0, rU, tC, tCB, tCons, tNil, tVar, tOp, tUn, tTest, tB, tAnd, tOr, tNot, tIf, tIfS, tSeq, tAsg, tDrop, tNext, gName, gTup_ref, gCons_cons, gNil_nil, and_assoc, tYes, wipe, rEq, rNe, scal_ss, scal_ii, scal_bb, scal_ns, scal_sn, scal_nn, scal_in, scal_ni, tLc_eq, tFor_eq, iList, iTup, iStr, iRng1, iRng2, iZip, iEnum, gSub, tSl, rSetL_ref, rCat_ref, rRep_ref, rJoin_ref, rSlL_ref, rSlS_ref, rMulS_ref, rIxL_ref, rIxT_ref, rLenK_ref, rAll_ref, rIn_ref, tLst, tTup, tPar, tPar3, tAug, tPart, tNoPart, tCall, List.getElem?_cons_zero, List.getElem?_cons_succ, List.set_cons_zero, List.set_cons_succ, List.map_cons, List.map_nil, List.append_nil, List.nil_append, List.cons_append, Option.some.injEq, exists_eq_left', exists_eq_left, exists_eq_right, exists_eq_right', exists_eq', V.int.injEq, V.str.injEq, V.bl.injEq, V.ref.injEq, List.cons.injEq, tM0, tM1, rNewStrs, sgn_eq, split_dot, split_sp, split_nl, dot_len, sp_len, nl_len, cxOf_K, L2.start, List.length_cons, List.length_nil, List.replicate_succ, List.replicate_zero, Nat.reduceSub, Nat.zero_add, and_true, true_and, and_self, exists_and_left, exists_const, Bool.false_eq_true, if_false, if_true, ite_true, ite_false, reduceIte, decide_eq_true_eq, reduceCtorEq, Nat.reduceAdd, Nat.reduceLT, tMseq, tMret, tNdef1, tThru, tCallV, tCallVF, tCallVO, tListZip, tCallX, tCallXU, tCallV, tCallVS, tLam1, tLamD, tCallS, tCls, tClsD, cx_cells, cx_scope, cx_N, cx_prog, cx_w, cx_base, cx_mg, cx_qual]
      refine ⟨_, .of htup, rfl, ?_⟩
      simp only [tCutE, tIfE, false_and, exists_false, false_or, or_false, tRet, tRetN, tAndV, tOrV, tNotV, tChain, rI, rI0, rU, tC, tCB, tCons, tNil, tVar, tOp, tUn, tTest, tB, tAnd, tOr, tNot, tIf, tIfS, tSeq, tAsg, tDrop, tNext, gName, gTup_ref, gCons_cons, gNil_nil, and_assoc, tYes, wipe, rEq, rNe, scal_ss, scal_ii, scal_bb, scal_ns, scal_sn, scal_nn, scal_in, scal_ni, tLc_eq, tFor_eq, iList, iTup, iStr, iRng1, iRng2, iZip, iEnum, gSub, tSl, rSetL_ref, rCat_ref, rRep_ref, rJoin_ref, rSlL_ref, rSlS_ref, rMulS_ref, rIxL_ref, rIxT_ref, rLenK_ref, rAll_ref, rIn_ref, tLst, tTup, tPar, tPar3, tAug, tPart, tNoPart, tCall, List.getElem?_cons_zero, List.getElem?_cons_succ, List.set_cons_zero, List.set_cons_succ, List.map_cons, List.map_nil, List.append_nil, List.nil_append, List.cons_append, Option.some.injEq, exists_eq_left', exists_eq_left, exists_eq_right, exists_eq_right', exists_eq', V.int.injEq, V.str.injEq, V.bl.injEq, V.ref.injEq, List.cons.injEq, tM0, tM1, rNewStrs, sgn_eq, split_dot, split_sp, split_nl, dot_len, sp_len, nl_len, cxOf_K, L2.start, List.length_cons, List.length_nil, List.replicate_succ, List.replicate_zero, Nat.reduceSub, Nat.zero_add, and_true, true_and, and_self, exists_and_left, exists_const, Bool.false_eq_true, if_false, if_true, ite_true, ite_false, reduceIte, decide_eq_true_eq, reduceCtorEq, Nat.reduceAdd, Nat.reduceLT, tMseq, tMret, tNdef1, tThru, tCallV, tCallVF, tCallVO, tListZip, tCallX, tCallXU, tCallV, tCallVS, tLam1, tLamD, tCallS, tCls, tClsD, cx_cells, cx_scope, cx_N, cx_prog, cx_w, cx_base, cx_mg, cx_qual]
      by_cases e : a = line ∧ b = th
      · exact ifP e.1 (ifP e.2 (q1 v (find_at hno hx e)))
      · have go : ∀ x ∈ rows.take (i + 1), ¬ (x.1 = line ∧ x.2.1 = th) := fun y hy => by
          rw [List.take_add_one, hx] at hy
          rcases List.mem_append.mp hy with hy | hy
          · exact hno y hy
          · have hy : y = (a, b, v) := by simpa using hy
            rw [hy]; exact e
        by_cases e1 : a = line
        · exact ifP e1 (ifN (fun z => e ⟨e1, z⟩) go)
        · exact ifN e1 go
    · obtain ⟨⟨x4, x5, x6, rfl⟩, rfl, hno⟩ := hP
      rw [tl, List.take_length] at hno
      simp only [tCutE, tIfE, false_and, exists_false, false_or, or_false, tRet, tRetN, tAndV, tOrV, tNotV, tChain, rI, rI0, rU, tC, tCB, tCons, tNil, tVar, tOp, tUn, tTest, tB, tAnd, tOr, tNot, tIf, tIfS, tSeq, tAsg, tDrop, tNext, gName, gTup_ref, gCons_cons, gNil_nil, and_assoc, tYes, wipe, rEq, rNe, scal_ss, scal_ii, scal_bb, scal_ns, scal_sn, scal_nn, scal_in, scal_ni, tLc_eq, tFor_eq, iList, iTup, iStr, iRng1, iRng2, iZip, iEnum, gSub, tSl, rSetL_ref, rCat_ref, rRep_ref, rJoin_ref, rSlL_ref, rSlS_ref, rMulS_ref, rIxL_ref, rIxT_ref, rLenK_ref, rAll_ref, rIn_ref, tLst, tTup, tPar, tPar3, tAug, tPart, tNoPart, tCall, List.getElem?_cons_zero, List.getElem?_cons_succ, List.set_cons_zero, List.set_cons_succ, List.map_cons, List.map_nil, List.append_nil, List.nil_append, List.cons_append, Option.some.injEq, exists_eq_left', exists_eq_left, exists_eq_right, exists_eq_right', exists_eq', V.int.injEq, V.str.injEq, V.bl.injEq, V.ref.injEq, List.cons.injEq, tM0, tM1, rNewStrs, sgn_eq, split_dot, split_sp, split_nl, dot_len, sp_len, nl_len, cxOf_K, L2.start, List.length_cons, List.length_nil, List.replicate_succ, List.replicate_zero, Nat.reduceSub, Nat.zero_add, and_true, true_and, and_self, exists_and_left, exists_const, Bool.false_eq_true, if_false, if_true, ite_true, ite_false, reduceIte, decide_eq_true_eq, reduceCtorEq, Nat.reduceAdd, Nat.reduceLT, tMseq, tMret, tNdef1, tThru, tCallV, tCallVF, tCallVO, tListZip, tCallX, tCallXU, tCallV, tCallVS, tLam1, tLamD, tCallS, tCls, tClsD, cx_cells, cx_scope, cx_N, cx_prog, cx_w, cx_base, cx_mg, cx_qual]
      refine fun CE obs hobs => ?_
      obtain ⟨sp, R1, RE1, ac, g, h, hx⟩ := q2 (find_none hno)
      refine ⟨sp, ac, ?_⟩
      rw [exC_put S hC (fun i v hi => ?_) (fun c v ob z e => hobs c ob z (ho c v ob z e)), show putC (nfMind cl c).cl Hf (delC cl Hf) = Hf from put_self]
      · refine g _ _ (fun v H3 r fz => ?_) (fun c d H3 r fz => hx c d H3 r fz)
        obtain ⟨xs, e1, e2, e3⟩ := h v H3 r fz
        have e1 : delC (nfMind cl c).cl H3 rw = some (.lst xs) := e1
        simp only [e1, rAppend_ref, tBM, tBM0, tyV_lst, isL_lst, HO.lst.injEq, upd_same, tCutE, tIfE, false_and, exists_false, false_or, or_false, tRet, tRetN, tAndV, tOrV, tNotV, tChain, rI, rI0, rU, tC, tCB, tCons, tNil, tVar, tOp, tUn, tTest, tB, tAnd, tOr, tNot, tIf, tIfS, tSeq, tAsg, tDrop, tNext, gName, gTup_ref, gCons_cons, gNil_nil, and_assoc, tYes, wipe, rEq, rNe, scal_ss, scal_ii, scal_bb, scal_ns, scal_sn, scal_nn, scal_in, scal_ni, tLc_eq, tFor_eq, iList, iTup, iStr, iRng1, iRng2, iZip, iEnum, gSub, tSl, rSetL_ref, rCat_ref, rRep_ref, rJoin_ref, rSlL_ref, rSlS_ref, rMulS_ref, rIxL_ref, rIxT_ref, rLenK_ref, rAll_ref, rIn_ref, tLst, tTup, tPar, tPar3, tAug, tPart, tNoPart, tCall, List.getElem?_cons_zero, List.getElem?_cons_succ, List.set_cons_zero, List.set_cons_succ, List.map_cons, List.map_nil, List.append_nil, List.nil_append, List.cons_append, Option.some.injEq, exists_eq_left', exists_eq_left, exists_eq_right, exists_eq_right', exists_eq', V.int.injEq, V.str.injEq, V.bl.injEq, V.ref.injEq, List.cons.injEq, tM0, tM1, rNewStrs, sgn_eq, split_dot, split_sp, split_nl, dot_len, sp_len, nl_len, cxOf_K, L2.start, List.length_cons, List.length_nil, List.replicate_succ, List.replicate_zero, Nat.reduceSub, Nat.zero_add, and_true, true_and, and_self, exists_and_left, exists_const, Bool.false_eq_true, if_false, if_true, ite_true, ite_false, reduceIte, decide_eq_true_eq, reduceCtorEq, Nat.reduceAdd, Nat.reduceLT, tMseq, tMret, tNdef1, tThru, tCallV, tCallVF, tCallVO, tListZip, tCallX, tCallXU, tCallV, tCallVS, tLam1, tLamD, tCallS, tCls, tClsD, cx_cells, cx_scope, cx_N, cx_prog, cx_w, cx_base, cx_mg, cx_qual]
        refine ⟨by decide, fun p np => ⟨_, by rw [upd_ne (ne_of_none e1 np)]; exact e1, smallLt (by omega), e3 p np⟩⟩
      match i, hi with
      | 0, hi => exact congrArg some hi
      | 1, hi => exact congrArg some hi
section
variable {H : Hp} {f rw wk : Addr} {line : Str} {th : Int} {rows : List (Str × Int × V)} {ts : List Addr} {k : Nat}
/-- it is in mind -/
theorem mind_old (T : Tx K mg) {v : V} (C : CloAt H f nfMind ["rows", "work"] [.ref rw, .ref wk]) (hrw : H rw = some (.lst (ts.map V.ref))) (ht : TupsAt H ts (rows.map rowM)) (hx : rows.length ≤ 10000) (h : findM rows line th = some v) : ∃ sp, Act P w K mg base (k + 1) f sp ∧ Runs sp [.str line, .int th] H (fun u H' => u = v ∧ H' = H) E0 := by
  obtain ⟨cl, c, h1, h2, h3, h4, h5⟩ := C
  have nl : ∀ {b o}, H b = some o → (∀ ob u, o ≠ .frz ob u) → ¬ InC cl b := fun {b o} e n z => by
    obtain ⟨v, ob, e2⟩ := h5.tr z
    rw [e] at e2; exact n _ _ (Option.some.inj e2)
  refine ⟨_, act_mind T f cl c k, fun Q E hq he => ⟨_, h1, by rw [h3]; exact h4, by rw [h2]; exact h5, rw, wk, line, th, rows, ts, rfl, rfl, ?_, ?_, hx, fun u hu hz => ?_, fun n => ?_⟩⟩
  · rw [h2, delC_out (nl hrw fun _ _ z => by cases z)]; exact hrw
  · exact ht.mono fun t x e => by rw [h2, delC_out (nl e fun _ _ z => by cases z)]; exact e
  · rw [h] at hu
    rw [h2, putC_del]
    exact hq _ _ ⟨(Option.some.inj hu).symm, rfl⟩
  · rw [h] at n; cases n
/-- it is new -/
theorem mind_new (T : Tx K mg) {R1 : VK} (C : CloAt H f nfMind ["rows", "work"] [.ref rw, .ref wk]) (hrw : H rw = some (.lst (ts.map V.ref))) (ht : TupsAt H ts (rows.map rowM)) (hx : rows.length ≤ 9999) (h : findM rows line th = none)
    (hw : ∃ sp, Act P w K mg base k wk sp ∧ Runs sp [.str line, .int th] H R1 E0) (hR : ∀ v H1, R1 v H1 → H1 rw = some (.lst (ts.map V.ref))) : ∃ sp, Act P w K mg base (k + 1) f sp ∧ Runs sp [.str line, .int th] H (fun u H' => ∃ H1 p, R1 u H1 ∧ H1 p = none ∧ H' = upd (upd H1 p (.tup [.str line, .int th, u])) rw (.lst (ts.map V.ref ++ [.ref p]))) E0 := by
  obtain ⟨cl, c, h1, h2, h3, h4, h5⟩ := C
  have nl : ∀ {b o}, H b = some o → (∀ ob u, o ≠ .frz ob u) → ¬ InC cl b := fun {b o} e n z => by
    obtain ⟨v, ob, e2⟩ := h5.tr z
    rw [e] at e2; exact n _ _ (Option.some.inj e2)
  obtain ⟨sp, ac, g⟩ := hw
  have tl := ht.len
  rw [List.length_map] at tl
  have nrw := nl hrw fun _ _ z => by cases z
  refine ⟨_, act_mind T f cl c k, fun Q E hq he => ⟨_, h1, by rw [h3]; exact h4, by rw [h2]; exact h5, rw, wk, line, th, rows, ts, rfl, rfl, ?_, ?_, by omega, fun u hu hz => ?_, fun n => ⟨sp, R1, E0, ac, g, fun v H3 r fz => ⟨ts.map V.ref, ?_, by rw [List.length_map]; omega, fun p np hz => ?_⟩, fun _ _ _ z => z.elim⟩⟩⟩
  · rw [h2, delC_out nrw]; exact hrw
  · exact ht.mono fun t x e => by rw [h2, delC_out (nl e fun _ _ z => by cases z)]; exact e
  · rw [h] at hu; cases hu
  · rw [delC_out nrw]; exact hR v H3 r
  · rw [h2] at hz ⊢
    have np2 : ¬ InC cl p := fun z => by
      have := hz p z
      by_cases e : p = rw
      · rw [e, upd_same] at this; cases this
      · rw [upd_ne e, upd_same] at this; cases this
    rw [putC_upd nrw, putC_upd np2, put_del h5 fz]
    rw [delC_out np2] at np
    exact hq _ _ ⟨H3, p, r, np, rfl⟩
end
/-! ### an echo -/
abbrev st_nfEcho : Stmt := (defBody s_law_echo).getD 0 (.Pass ⟨0, 0, 0, 0⟩)
def nfEcho (cl : List (Str × Addr)) (c : Addr) : NF := ⟨"_law_call", Str.ofString "_law_echo.<locals>." ++ Str.ofString "_law_call", defArgs st_nfEcho, defBody st_nfEcho, defScope st_nfEcho, cl, c⟩
def sp_law_echo (K : PySem.W.Frag) : Sp := fun vs H Q _ => ∃ (lg ag : Addr), vs = [.ref lg, .ref ag] ∧ Tab K H ∧ ∀ H' f, Fwd K No H H' → H f = none → CloAt H' f nfEcho ["_law_again", "_law_log"] [.ref ag, .ref lg] → Q (.ref f) H'
theorem G_law_echo (T : Tx K mg) (B : Tb K mg base) : Glob P w K mg base (CX0) (1) "_law_echo" p_law_echo [] (sp_law_echo K) := by
  obtain ⟨fd, F⟩ := T.f_law_echo
  refine ⟨_, fd, [], okM (p := ("_law_echo", none)) F sc_law_echo (fun vs H Q E h => ?_) (fun A outer s H vs Q E hr h => ?_), T.g__law_echo, F.kp, .nil, F.bindsN fun _ _ _ _ _ _ us hl => match us, hl with | [_, _], _ => rfl⟩
  · obtain ⟨lg, ag, rfl, _⟩ := h; rfl
  · obtain ⟨lg, ag, rfl, hT, q⟩ := h
    refine ⟨_, (pm_cons (ps_ndef1 (i := 2) (Ts := Ts K) (nm := nm) (B.t_law_echo) rfl (m_law_echo K) (show nm 106 4 = Str.ofString "_law_echo.<locals>." ++ Str.ofString "_law_call" by decide +kernel) (ndef_free (sc := defScope s_law_echo) (fr := ["_law_again", "_law_log"]) (by decide +kernel)) rfl rfl rfl sc_law_echo.nd rfl (Or.inl rfl) (Or.inr rfl))
      (pm_ret (pv 2) sc_law_echo.nd (fun _ _ _ => rfl))), ?_⟩
    simp only [upd_same, tCutE, tIfE, false_and, exists_false, false_or, or_false, tRet, tRetN, tAndV, tOrV, tNotV, tChain, rI, rI0, rU, tC, tCB, tCons, tNil, tVar, tOp, tUn, tTest, tB, tAnd, tOr, tNot, tIf, tIfS, tSeq, tAsg, tDrop, tNext, gName, gTup_ref, gCons_cons, gNil_nil, and_assoc, tYes, wipe, rEq, rNe, scal_ss, scal_ii, scal_bb, scal_ns, scal_sn, scal_nn, scal_in, scal_ni, tLc_eq, tFor_eq, iList, iTup, iStr, iRng1, iRng2, iZip, iEnum, gSub, tSl, rSetL_ref, rCat_ref, rRep_ref, rJoin_ref, rSlL_ref, rSlS_ref, rMulS_ref, rIxL_ref, rIxT_ref, rLenK_ref, rAll_ref, rIn_ref, tLst, tTup, tPar, tPar3, tAug, tPart, tNoPart, tCall, List.getElem?_cons_zero, List.getElem?_cons_succ, List.set_cons_zero, List.set_cons_succ, List.map_cons, List.map_nil, List.append_nil, List.nil_append, List.cons_append, Option.some.injEq, exists_eq_left', exists_eq_left, exists_eq_right, exists_eq_right', exists_eq', V.int.injEq, V.str.injEq, V.bl.injEq, V.ref.injEq, List.cons.injEq, tM0, tM1, rNewStrs, sgn_eq, split_dot, split_sp, split_nl, dot_len, sp_len, nl_len, cxOf_K, L2.start, List.length_cons, List.length_nil, List.replicate_succ, List.replicate_zero, Nat.reduceSub, Nat.zero_add, and_true, true_and, and_self, exists_and_left, exists_const, Bool.false_eq_true, if_false, if_true, ite_true, ite_false, reduceIte, decide_eq_true_eq, reduceCtorEq, Nat.reduceAdd, Nat.reduceLT, tMseq, tMret, tNdef1, tThru, tCallV, tCallVF, tCallVO, tListZip, tCallX, tCallXU, tCallV, tCallVS, tLam1, tLamD, tCallS, tCls, tClsD, cx_cells, cx_scope, cx_N, cx_prog, cx_w, cx_base, cx_mg, cx_qual]
    refine ⟨hT, fun f c H1 e1 n1 T1 f0 f1 c1 C obs => ?_⟩
    exact q _ f ((Fw.of_off hT e1 n1 T1).same C.same) f0 (made_clo C f1 c1 rfl rfl rfl [1, 0] (by kernel_rfl) (nscope_by (N := ["_law_line", "_law_some", "_law_again", "_law_log"]) (ps := ["_law_line", "_law_some"]) (by kernel_rfl)) rfl rfl)
def spEcho (P : Program) (w : World) (K : PySem.W.Frag) (mg : Str → Option Value) (base : Heap) (cl : List (Str × Addr)) (k : Nat) : Hp → List V → Sp := fun Hf ws vs H Q E => ∃ (ag lg : Addr) (line sm : V) (xs : List V), ws = [.ref ag, .ref lg] ∧ vs = [line, sm] ∧ H lg = some (.lst xs) ∧ xs.length ≤ 100000 ∧
  (xs ≠ [] → Q (.int 0) (upd H lg (.lst (xs ++ [sm])))) ∧
  (xs = [] → ∃ sp, Act P w K mg base k ag sp ∧ sp [] (putC cl Hf (upd H lg (.lst [sm]))) (fun v H3 => FzK (putC cl Hf (upd H lg (.lst [sm]))) H3 → Q (.int 0) (delC cl H3)) (fun c d H3 => FzK (putC cl Hf (upd H lg (.lst [sm]))) H3 → E c d (delC cl H3)))
theorem act_echo (T : Tx K mg) (f : Addr) (cl : List (Str × Addr)) (c : Addr) (k : Nat) : Act P w K mg base (k + 1) f (spCloF f (nfEcho cl c) ["_law_again", "_law_log"] (spEcho P w K mg base cl k)) := by
  have S : NScope ["_law_line", "_law_some", "_law_again", "_law_log"] ["_law_line", "_law_some"] ["_law_again", "_law_log"] (nfEcho cl c).scope := nscope_by (by kernel_rfl)
  refine act_cloF S (fun Hf ws vs H Q E h => ?_) (fun doc pm ctv us hl => ?_) (fun A outer s Hf vs ws Q E hr hco hz hC ho h => ?_)
  · obtain ⟨_, _, _, _, _, _, rfl, _⟩ := h; rfl
  · match us, hl with
    | [_, _], _ => rfl
  · obtain ⟨ag, lg, line, sm, xs, rfl, rfl, hlg, hx, q1, q2⟩ := h
    refine ⟨_, (pss_cons (ps_expr (pe_bmK (K := K) rfl PySem.F.plainAttrs_list PySem.F.slot_list_append PySem.F.type_list_append mt_append (pv 3) (pa_cons (pv 1) pa_nil)))
      (pss_cons (ps_if (pt_cmpR op_eq (pe_callB (call_len_seqK (K := K) rfl) (by rfl) T.b_len (by decide +kernel) (pa_cons (pv 3) pa_nil)) pe_int (nomark _))
      (pss_one (ps_expr (pe_callVF0K (P := P) (w := w) (K := K) (mg := mg) (base := base) rfl rfl rfl rfl rfl (k := k) (i := 2) (hr.mono (by first | decide | omega)) (passes_call (takes_of rfl rfl rfl rfl) (fun _ _ _ _ h => h)) S.nd hco hz rfl rfl (Or.inr (Or.inr (by rfl))))))
      pss_nil)
      (pss_one (ps_ret pe_int)))), ?_⟩
    simp only [startF, hlg, ncx_K, ncx_prog, ncx_w, ncx_mg, ncx_base, ncx_cells, ncx_scope, ncx_N, ncx_s0, rAppend_ref, tBM, tBM0, tyV_lst, isL_lst, HO.lst.injEq, upd_same, upd_upd, tCutE, tIfE, false_and, exists_false, false_or, or_false, tRet, tRetN, tAndV, tOrV, tNotV, tChain, rI, rI0, rU, tC, tCB, tCons, tNil, tVar, tOp, tUn, tTest, tB, tAnd, tOr, tNot, tIf, tIfS, tSeq, tAsg, tDrop, tNext, gName, gTup_ref, gCons_cons, gNil_nil, and_assoc, tYes, wipe, rEq, rNe, scal_ss, scal_ii, scal_bb, scal_ns, scal_sn, scal_nn, scal_in, scal_ni, tLc_eq, tFor_eq, iList, iTup, iStr, iRng1, iRng2, iZip, iEnum, gSub, tSl, rSetL_ref, rCat_ref, rRep_ref, rJoin_ref, rSlL_ref, rSlS_ref, rMulS_ref, rIxL_ref, rIxT_ref, rLenK_ref, rAll_ref, rIn_ref, tLst, tTup, tPar, tPar3, tAug, tPart, tNoPart, tCall, List.getElem?_cons_zero, List.getElem?_cons_succ, List.set_cons_zero, List.set_cons_succ, List.map_cons, List.map_nil, List.append_nil, List.nil_append, List.cons_append, Option.some.injEq, exists_eq_left', exists_eq_left, exists_eq_right, exists_eq_right', exists_eq', V.int.injEq, V.str.injEq, V.bl.injEq, V.ref.injEq, List.cons.injEq, tM0, tM1, rNewStrs, sgn_eq, split_dot, split_sp, split_nl, dot_len, sp_len, nl_len, cxOf_K, L2.start, List.length_cons, List.length_nil, List.replicate_succ, List.replicate_zero, Nat.reduceSub, Nat.zero_add, and_true, true_and, and_self, exists_and_left, exists_const, Bool.false_eq_true, if_false, if_true, ite_true, ite_false, reduceIte, decide_eq_true_eq, reduceCtorEq, Nat.reduceAdd, Nat.reduceLT, tMseq, tMret, tNdef1, tThru, tCallV, tCallVF, tCallVO, tListZip, tCallX, tCallXU, tCallV, tCallVS, tLam1, tLamD, tCallS, tCls, tClsD, cx_cells, cx_scope, cx_N, cx_prog, cx_w, cx_base, cx_mg, cx_qual]
    refine ⟨smallLt hx, _, .inl (.of upd_same), ?_⟩
    by_cases e : xs = []
    · subst e
      refine ifP (by simp) fun CE obs hobs => ?_
      obtain ⟨sp, ac, h⟩ := q2 rfl
      refine ⟨sp, ac, ?_⟩
      rw [exC_put S hC (fun i v hi => ?_) (fun c v ob z e => hobs c ob z (ho c v ob z e))]
      · exact h
      match i, hi with
      | 0, hi => exact congrArg some hi
      | 1, hi => exact congrArg some hi
    · exact ifN (by rw [List.length_append]; have := List.length_pos_iff.mpr e; simp; omega) (q1 e)
section
variable {H : Hp} {f ag lg : Addr} {line sm : V} {xs : List V} {k : Nat}
theorem echo_more (T : Tx K mg) (C : CloAt H f nfEcho ["_law_again", "_law_log"] [.ref ag, .ref lg]) (hlg : H lg = some (.lst xs)) (hx : xs.length ≤ 100000) (n : xs ≠ []) : ∃ sp, Act P w K mg base (k + 1) f sp ∧ Runs sp [line, sm] H (fun v H' => v = .int 0 ∧ H' = upd H lg (.lst (xs ++ [sm]))) E0 := by
  obtain ⟨cl, c, h1, h2, h3, h4, h5⟩ := C
  have nl : ¬ InC cl lg := fun z => by
    obtain ⟨v, ob, e2⟩ := h5.tr z
    rw [hlg] at e2; cases e2
  refine ⟨_, act_echo T f cl c k, fun Q E hq he => ⟨_, h1, by rw [h3]; exact h4, by rw [h2]; exact h5, ag, lg, line, sm, xs, rfl, rfl, ?_, hx, fun _ hz => ?_, fun z => absurd z n⟩⟩
  · rw [h2, delC_out nl]; exact hlg
  · rw [h2, putC_upd nl, putC_del]
    exact hq _ _ ⟨rfl, rfl⟩
theorem echo_first (T : Tx K mg) {R1 : VK} (C : CloAt H f nfEcho ["_law_again", "_law_log"] [.ref ag, .ref lg]) (hlg : H lg = some (.lst [])) (hw : ∃ sp, Act P w K mg base k ag sp ∧ Runs sp [] (upd H lg (.lst [sm])) R1 E0) : ∃ sp, Act P w K mg base (k + 1) f sp ∧ Runs sp [line, sm] H (fun v H' => v = .int 0 ∧ ∃ u, R1 u H') E0 := by
  obtain ⟨cl, c, h1, h2, h3, h4, h5⟩ := C
  have nl : ¬ InC cl lg := fun z => by
    obtain ⟨v, ob, e2⟩ := h5.tr z
    rw [hlg] at e2; cases e2
  obtain ⟨sp, ac, g⟩ := hw
  have fz : ∀ {H3 : Hp}, FzK (upd H lg (.lst [sm])) H3 → FzK H H3 := fun {H3} g b o u e => g b o u (by rw [upd_ne (fun z => by rw [z, hlg] at e; cases e)]; exact e)
  refine ⟨_, act_echo T f cl c k, fun Q E hq he => ⟨_, h1, by rw [h3]; exact h4, by rw [h2]; exact h5, ag, lg, line, sm, [], rfl, rfl, ?_, by simp, fun z => absurd rfl z, fun _ => ⟨sp, ac, ?_⟩⟩⟩
  · rw [h2, delC_out nl]; exact hlg
  · rw [h2, putC_upd nl, putC_del]
    refine g _ _ (fun v H3 r fz3 hz => ?_) (fun _ _ _ z => z.elim)
    rw [put_del h5 (fz fz3)]
    exact hq _ _ ⟨rfl, v, r⟩
end
/-! ### one that notes the thing -/
abbrev st_nfNth : Stmt := (defBody s_law_nothing).getD 0 (.Pass ⟨0, 0, 0, 0⟩)
def nfNth (cl : List (Str × Addr)) (c : Addr) : NF := ⟨"_law_call", Str.ofString "_law_nothing.<locals>." ++ Str.ofString "_law_call", defArgs st_nfNth, defBody st_nfNth, defScope st_nfNth, cl, c⟩
def sp_law_nothing (K : PySem.W.Frag) : Sp := fun vs H Q _ => ∃ (lg : Addr), vs = [.ref lg] ∧ Tab K H ∧ ∀ H' f, Fwd K No H H' → H f = none → CloAt H' f nfNth ["_law_log"] [.ref lg] → Q (.ref f) H'
theorem G_law_nothing (T : Tx K mg) (B : Tb K mg base) : Glob P w K mg base (CX0) (1) "_law_nothing" p_law_nothing [] (sp_law_nothing K) := by
  obtain ⟨fd, F⟩ := T.f_law_nothing
  refine ⟨_, fd, [], okM (p := ("_law_nothing", none)) F sc_law_nothing (fun vs H Q E h => ?_) (fun A outer s H vs Q E hr h => ?_), T.g__law_nothing, F.kp, .nil, F.bindsN fun _ _ _ _ _ _ us hl => match us, hl with | [_], _ => rfl⟩
  · obtain ⟨lg, rfl, _⟩ := h; rfl
  · obtain ⟨lg, rfl, hT, q⟩ := h
    refine ⟨_, (pm_cons (ps_ndef1 (i := 1) (Ts := Ts K) (nm := nm) (B.t_law_nothing) rfl (m_law_nothing K) (show nm 114 4 = Str.ofString "_law_nothing.<locals>." ++ Str.ofString "_law_call" by decide +kernel) (ndef_free (sc := defScope s_law_nothing) (fr := ["_law_log"]) (by decide +kernel)) rfl rfl rfl sc_law_nothing.nd rfl (Or.inl rfl) (Or.inr rfl))
      (pm_ret (pv 1) sc_law_nothing.nd (fun _ _ _ => rfl))), ?_⟩
    simp only [upd_same, tCutE, tIfE, false_and, exists_false, false_or, or_false, tRet, tRetN, tAndV, tOrV, tNotV, tChain, rI, rI0, rU, tC, tCB, tCons, tNil, tVar, tOp, tUn, tTest, tB, tAnd, tOr, tNot, tIf, tIfS, tSeq, tAsg, tDrop, tNext, gName, gTup_ref, gCons_cons, gNil_nil, and_assoc, tYes, wipe, rEq, rNe, scal_ss, scal_ii, scal_bb, scal_ns, scal_sn, scal_nn, scal_in, scal_ni, tLc_eq, tFor_eq, iList, iTup, iStr, iRng1, iRng2, iZip, iEnum, gSub, tSl, rSetL_ref, rCat_ref, rRep_ref, rJoin_ref, rSlL_ref, rSlS_ref, rMulS_ref, rIxL_ref, rIxT_ref, rLenK_ref, rAll_ref, rIn_ref, tLst, tTup, tPar, tPar3, tAug, tPart, tNoPart, tCall, List.getElem?_cons_zero, List.getElem?_cons_succ, List.set_cons_zero, List.set_cons_succ, List.map_cons, List.map_nil, List.append_nil, List.nil_append, List.cons_append, Option.some.injEq, exists_eq_left', exists_eq_left, exists_eq_right, exists_eq_right', exists_eq', V.int.injEq, V.str.injEq, V.bl.injEq, V.ref.injEq, List.cons.injEq, tM0, tM1, rNewStrs, sgn_eq, split_dot, split_sp, split_nl, dot_len, sp_len, nl_len, cxOf_K, L2.start, List.length_cons, List.length_nil, List.replicate_succ, List.replicate_zero, Nat.reduceSub, Nat.zero_add, and_true, true_and, and_self, exists_and_left, exists_const, Bool.false_eq_true, if_false, if_true, ite_true, ite_false, reduceIte, decide_eq_true_eq, reduceCtorEq, Nat.reduceAdd, Nat.reduceLT, tMseq, tMret, tNdef1, tThru, tCallV, tCallVF, tCallVO, tListZip, tCallX, tCallXU, tCallV, tCallVS, tLam1, tLamD, tCallS, tCls, tClsD, cx_cells, cx_scope, cx_N, cx_prog, cx_w, cx_base, cx_mg, cx_qual]
    refine ⟨hT, fun f c H1 e1 n1 T1 f0 f1 c1 C obs => ?_⟩
    exact q _ f ((Fw.of_off hT e1 n1 T1).same C.same) f0 (made_clo C f1 c1 rfl rfl rfl [0] (by kernel_rfl) (nscope_by (N := ["_law_line", "_law_thing", "_law_log"]) (ps := ["_law_line", "_law_thing"]) (by kernel_rfl)) rfl rfl)
def spNth : List (Option V) → Sp := fun ws vs H Q _ => ∃ (lg : Addr) (line th : V) (xs : List V), ws = [some (.ref lg)] ∧ vs = [line, th] ∧ H lg = some (.lst xs) ∧ xs.length ≤ 100000 ∧ Q .non (upd H lg (.lst (xs ++ [th])))
theorem nok_nth (f : Addr) (cl : List (Str × Addr)) (c : Addr) : NOk P w K mg base (L2.CX P w) 1 f (nfNth cl c) ["_law_line", "_law_thing"] ["_law_log"] spNth := by
  have S : NScope ["_law_line", "_law_thing", "_law_log"] ["_law_line", "_law_thing"] ["_law_log"] (nfNth cl c).scope := nscope_by (by kernel_rfl)
  refine nok_of S (fun doc pm ctv us hl => ?_) (fun ws vs H Q E h => ?_) (fun A outer s H vs ws Q E hr hf hc hl h => ?_)
  · match us, hl with
    | [_, _], _ => rfl
  · obtain ⟨_, _, _, _, _, rfl, _⟩ := h; rfl
  · obtain ⟨lg, line, th, xs, rfl, rfl, hlg, hx, q⟩ := h
    refine ⟨_, PSs.nox (pss_one (ps_expr (pe_bmK (K := K) rfl PySem.F.plainAttrs_list PySem.F.slot_list_append PySem.F.type_list_append mt_append (pv 2) (pa_cons (pv 1) pa_nil)))), ?_⟩
    simp only [startF, hlg, rAppend_ref, tBM, tBM0, tyV_lst, isL_lst, HO.lst.injEq, upd_same, tCutE, tIfE, false_and, exists_false, false_or, or_false, tRet, tRetN, tAndV, tOrV, tNotV, tChain, rI, rI0, rU, tC, tCB, tCons, tNil, tVar, tOp, tUn, tTest, tB, tAnd, tOr, tNot, tIf, tIfS, tSeq, tAsg, tDrop, tNext, gName, gTup_ref, gCons_cons, gNil_nil, and_assoc, tYes, wipe, rEq, rNe, scal_ss, scal_ii, scal_bb, scal_ns, scal_sn, scal_nn, scal_in, scal_ni, tLc_eq, tFor_eq, iList, iTup, iStr, iRng1, iRng2, iZip, iEnum, gSub, tSl, rSetL_ref, rCat_ref, rRep_ref, rJoin_ref, rSlL_ref, rSlS_ref, rMulS_ref, rIxL_ref, rIxT_ref, rLenK_ref, rAll_ref, rIn_ref, tLst, tTup, tPar, tPar3, tAug, tPart, tNoPart, tCall, List.getElem?_cons_zero, List.getElem?_cons_succ, List.set_cons_zero, List.set_cons_succ, List.map_cons, List.map_nil, List.append_nil, List.nil_append, List.cons_append, Option.some.injEq, exists_eq_left', exists_eq_left, exists_eq_right, exists_eq_right', exists_eq', V.int.injEq, V.str.injEq, V.bl.injEq, V.ref.injEq, List.cons.injEq, tM0, tM1, rNewStrs, sgn_eq, split_dot, split_sp, split_nl, dot_len, sp_len, nl_len, cxOf_K, L2.start, List.length_cons, List.length_nil, List.replicate_succ, List.replicate_zero, Nat.reduceSub, Nat.zero_add, and_true, true_and, and_self, exists_and_left, exists_const, Bool.false_eq_true, if_false, if_true, ite_true, ite_false, reduceIte, decide_eq_true_eq, reduceCtorEq, Nat.reduceAdd, Nat.reduceLT, tMseq, tMret, tNdef1, tThru, tCallV, tCallVF, tCallVO, tListZip, tCallX, tCallXU, tCallV, tCallVS, tLam1, tLamD, tCallS, tCls, tClsD, cx_cells, cx_scope, cx_N, cx_prog, cx_w, cx_base, cx_mg, cx_qual]
    exact ⟨smallLt hx, q⟩
theorem nth_runs {H : Hp} {f lg : Addr} {line th : V} {xs : List V} (C : CloAt H f nfNth ["_law_log"] [.ref lg]) (hlg : H lg = some (.lst xs)) (hx : xs.length ≤ 100000) :
    ∃ sp, Act P w K mg base 1 f sp ∧ Runs sp [line, th] H (fun v H' => v = .non ∧ H' = upd H lg (.lst (xs ++ [th]))) E0 := by
  refine clo_runs C nok_nth fun cl hcl Q E hq he => ?_
  have nl : ¬ InC cl lg := fun z => by
    obtain ⟨v, ob, e⟩ := hcl lg z
    rw [hlg] at e; cases e
  refine ⟨lg, line, th, xs, rfl, rfl, by rw [delC_out nl]; exact hlg, hx, hq _ _ fun hz => ?_⟩
  refine ⟨rfl, ?_⟩
  rw [putC_upd nl, putC_del]
end
end Hk

set_option Elab.async false
set_option linter.all false
set_option maxRecDepth 100000
set_option maxHeartbeats 4000000
namespace Hk
open PySem PySem.Spec PyProof.Rows L2
open LamX NdefX
open TL
section
variable {P : Program} {w : World} {K : PySem.W.Frag} {mg : Str → Option Value} {base : Heap}
def rowV (x : R17) : List V := [.str x.1, .int x.2]
def Row17 (x : R17) : Prop := (x.1 = "a" ∨ x.1 = "b") ∧ 0 ≤ x.2 ∧ x.2 < 4
abbrev rRows (ts : List Addr) (ls : List R17) : Rg := rImm fun H => TupsAt H ts (ls.map rowV)
theorem rRows_ok {ts : List Addr} {ls : List R17} : ∀ S H H', TupsAt H ts (ls.map rowV) → Fwd K S H H' → TupsAt H' ts (ls.map rowV) := fun S H H' t w => t.mono fun t x e => w.tup e
theorem tups_take {H : Hp} : ∀ {ts : List Addr} {xs : List (List V)} (m : Nat), TupsAt H ts xs → TupsAt H (ts.take m) (xs.take m)
  | [], [], _, _ => by simp [TupsAt]
  | [], _ :: _, _, h => h.elim
  | _ :: _, [], _, h => h.elim
  | _ :: _, _ :: _, 0, _ => by simp [TupsAt]
  | _ :: _, _ :: _, m + 1, h => ⟨h.1, tups_take m h.2⟩
theorem tups_drop {H : Hp} : ∀ {ts : List Addr} {xs : List (List V)} (m : Nat), TupsAt H ts xs → TupsAt H (ts.drop m) (xs.drop m)
  | [], [], _, _ => by simp [TupsAt]
  | [], _ :: _, _, h => h.elim
  | _ :: _, [], _, h => h.elim
  | _ :: _, _ :: _, 0, h => h
  | _ :: _, _ :: _, m + 1, h => tups_drop m h.2
/-! ### a list of notes with lists in them -/
abbrev Q17 := Str × Addr × List Int
abbrev ntV (q : Q17) : List V := [.int 1, .str q.1, .ref q.2.1]
abbrev sQ (q : Q17) : Str × List Int := (q.1, q.2.2)
def dQ (q : Str × List Int) : PyData := .tuple [.int 1, .str q.1, .list (q.2.map .int)]
structure LgAt (H : Hp) (p : Addr) (qs : List Q17) : Prop where
  lst : ∃ ts : List Addr, H p = some (.lst (ts.map V.ref)) ∧ TupsAt H ts (qs.map ntV)
  inn : ∀ q ∈ qs, H q.2.1 = some (.lst (q.2.2.map V.int))
  ne : ∀ q ∈ qs, q.2.1 ≠ p
abbrev rLg (p : Addr) (qs : List Q17) : Rg := ((fun b => b = p ∨ ∃ q ∈ qs, q.2.1 = b), fun H => LgAt H p qs)
theorem stb_lg {p : Addr} {qs : List Q17} : Stb K (rLg p qs) := fun S H H' t ⟨⟨ts, e, ht⟩, hi, hn⟩ w n => ⟨⟨ts, w.lst t e (fun z => n _ z (.inl rfl)), ht.mono fun t x e => w.tup e⟩, fun q hq => w.lst t (hi q hq) fun z => n _ z (.inr ⟨q, hq, rfl⟩), hn⟩
section
variable {H H' : Hp} {Rs : List Rg} {p p' : Addr} {qs qs' : List Q17} {S : Addr → Prop}
theorem LgAt.dp (h : LgAt H p qs) : Dp K H (.ref p) (.list ((qs.map sQ).map dQ)) := by
  obtain ⟨⟨ts, e, ht⟩, hi, _⟩ := h
  rw [List.map_map]
  refine dp_rows (f := ntV) (d := dQ ∘ sQ) e ht fun q hq => ⟨?_, _, rfl⟩
  exact .cons (.int _) (.cons (.str _) (.cons (.lst (.of (hi q hq)) (dpAll_map fun x _ => .int _)) .nil))
theorem Sep.lgNew (s : Sep K H Rs) (e : Same H H') (n : H p = none) (hp : H' p = some (.lst [])) : Sep K H' (Rs ++ [rLg p []]) :=
  s.new (.of_same e s.tab) stb_lg ⟨⟨[], hp, trivial⟩, (fun _ h => nomatch h), (fun _ h => nomatch h)⟩ fun b z => by
    rcases z with z | ⟨_, h, _⟩
    · subst z
      exact ⟨n, by rw [hp]; simp⟩
    · cases h
theorem Sep.lgSet (s : Sep K H Rs) (i : Nat) (hi : Rs[i]? = some (rLg p qs)) (w : Fwd K S H H') (hS : ∀ b, S b → b = p ∨ H b = none) (c : LgAt H' p' qs') (h1 : p' = p ∨ H p' = none) (h2 : ∀ q ∈ qs', q ∈ qs ∨ H q.2.1 = none) : Sep K H' (Rs.set i (rLg p' qs')) :=
  s.set i hi w (fun b z => (hS b z).imp .inl id) stb_lg c fun b z => by
    rcases z with rfl | ⟨q, hq, rfl⟩
    · exact ⟨h1.imp .inl id, by obtain ⟨_, e, _⟩ := c.lst; rw [e]; simp⟩
    · exact ⟨(h2 q hq).imp (fun z => .inr ⟨q, z, rfl⟩) id, by rw [c.inn q hq]; simp⟩
theorem upd_comm {H : Hp} {a b : Addr} {x y : HO} (n : a ≠ b) : upd (upd H a x) b y = upd (upd H b y) a x := funext fun c => by
  by_cases e1 : c = a
  · subst e1; rw [upd_ne n, upd_same, upd_same]
  · rw [upd_ne e1]
    by_cases e2 : c = b
    · subst e2; rw [upd_same, upd_same]
    · rw [upd_ne e2, upd_ne e2, upd_ne e1]
/-- a note more -/
theorem Sep.lgAdd (s : Sep K H Rs) (i : Nat) (hi : Rs[i]? = some (rLg p qs)) {xs : List V} {q t : Addr} {line : Str} {zs : List Int} (hx : H p = some (.lst xs)) (nq : H q = none) (nt : upd H q (.lst (zs.map V.int)) t = none) :
    Sep K (upd (upd (upd H q (.lst (zs.map V.int))) t (.tup (ntV (line, q, zs)))) p (.lst (xs ++ [.ref t]))) (Rs.set i (rLg p (qs ++ [(line, q, zs)]))) := by
  obtain ⟨⟨ts, e, ht⟩, hin, hne⟩ := s.at_ i hi
  rw [hx] at e
  cases e
  have n1 : p ≠ q := ne_of_none hx nq
  have hx1 : upd H q (.lst (zs.map V.int)) p = some (.lst (ts.map V.ref)) := by rw [upd_ne n1]; exact hx
  have n2 : p ≠ t := ne_of_none hx1 nt
  have n3 : q ≠ t := fun z => by rw [← z, upd_same] at nt; cases nt
  have s1 : Same H (upd H q (.lst (zs.map V.int))) := same_put (Same.refl _) nq
  have s2 : Same H (upd (upd H q (.lst (zs.map V.int))) t (.tup (ntV (line, q, zs)))) := same_new s1 nt
  have hx2 := s2 _ _ hx
  refine s.lgSet (S := fun b => b = p) i hi ((Fw.of_same s2 s.tab).put hx2 (fun _ z => by cases z) (fun z => z) (.inl rfl)) (fun b z => .inl z) ⟨⟨ts ++ [t], by rw [upd_same, List.map_append]; rfl, ?_⟩, fun q' hq' => ?_, fun q' hq' => ?_⟩ (.inl rfl) fun q' hq' => ?_
  · rw [List.map_append]
    refine TupsAt.snoc (by rw [upd_ne n2.symm, upd_same]) (TupsAt.mono (fun b x e => ?_) ht)
    rw [upd_ne (fun z => by rw [z, hx] at e; cases e)]
    exact s2 _ _ e
  · rcases List.mem_append.mp hq' with hq' | hq'
    · rw [upd_ne (hne q' hq')]; exact s2 _ _ (hin q' hq')
    · rw [List.mem_singleton.mp hq']
      show upd _ p _ q = _
      rw [upd_ne n1.symm, upd_ne n3, upd_same]
  · rcases List.mem_append.mp hq' with hq' | hq'
    · exact hne q' hq'
    · rw [List.mem_singleton.mp hq']; exact n1.symm
  · rcases List.mem_append.mp hq' with hq' | hq'
    · exact .inl hq'
    · rw [List.mem_singleton.mp hq']; exact .inr nq
/-- the notes in a new list, with one more -/
theorem Sep.dueAdd (s : Sep K H Rs) (i : Nat) (hi : Rs[i]? = some (rLg p qs)) {xs : List V} {q t : Addr} {line : Str} {zs : List Int} (hx : H p = some (.lst xs)) (e : Same H H') (n : H p' = none) (nq : H q = none) (ne : q ≠ p') (hp : H' p' = some (.lst (xs ++ [.ref t]))) (ht : H' t = some (.tup (ntV (line, q, zs)))) (hq : H' q = some (.lst (zs.map V.int))) : Sep K H' (Rs.set i (rLg p' (qs ++ [(line, q, zs)]))) := by
  obtain ⟨⟨ts, e1, ht1⟩, hin, hne⟩ := s.at_ i hi
  rw [hx] at e1
  cases e1
  refine s.lgSet (S := No) i hi (.of_same e s.tab) (fun b z => z.elim) ⟨⟨ts ++ [t], by rw [hp, List.map_append]; rfl, ?_⟩, fun q' hq' => ?_, fun q' hq' => ?_⟩ (.inr n) fun q' hq' => ?_
  · rw [List.map_append]
    exact TupsAt.snoc ht (TupsAt.mono (fun b x h => e _ _ h) ht1)
  · rcases List.mem_append.mp hq' with hq' | hq'
    · exact e _ _ (hin q' hq')
    · rw [List.mem_singleton.mp hq']; exact hq
  · rcases List.mem_append.mp hq' with hq' | hq'
    · exact ne_of_none (hin q' hq') n
    · rw [List.mem_singleton.mp hq']; exact ne
  · rcases List.mem_append.mp hq' with hq' | hq'
    · exact .inl hq'
    · rw [List.mem_singleton.mp hq']; exact .inr nq
theorem Sep.dueSame (s : Sep K H Rs) (i : Nat) (hi : Rs[i]? = some (rLg p qs)) {xs : List V} (hx : H p = some (.lst xs)) (e : Same H H') (n : H p' = none) (hp : H' p' = some (.lst xs)) : Sep K H' (Rs.set i (rLg p' qs)) := by
  obtain ⟨⟨ts, e1, ht1⟩, hin, hne⟩ := s.at_ i hi
  rw [hx] at e1
  cases e1
  exact s.lgSet (S := No) i hi (.of_same e s.tab) (fun b z => z.elim) ⟨⟨ts, hp, TupsAt.mono (fun b x h => e _ _ h) ht1⟩, fun q' hq' => e _ _ (hin q' hq'), fun q' hq' => ne_of_none (hin q' hq') n⟩ (.inr n) fun q' hq' => .inl hq'
theorem LgAt.len (h : LgAt H p qs) : ∃ ts : List Addr, H p = some (.lst (ts.map V.ref)) ∧ ts.length = qs.length := by
  obtain ⟨⟨ts, e, ht⟩, _⟩ := h
  exact ⟨ts, e, by have := ht.len; rwa [List.length_map] at this⟩
end
/-! ### the calls -/
section
variable {G : Hp} {wf g so lg : Addr} {m : Int} {line : V} {th : V} {xs ys : List V}
theorem clo_upd {H : Hp} {f b : Addr} {o u : HO} {mk : List (Str × Addr) → Addr → NF} {fr : List Str} {ws : List V} (C : CloAt H f mk fr ws) (h : H b = none ∨ (H b = some u ∧ ¬ Imm u)) : CloAt (upd H b o) f mk fr ws := C.mono fun c x e i => by
  rw [upd_ne fun z => ?_]
  · exact e
  · rw [z] at e
    rcases h with h | ⟨h, n⟩
    · rw [h] at e; cases e
    · rw [h] at e; cases e; exact n i
theorem tell_full (T : Tx K mg) {mk : V} (cw : CloAt G wf nfWrk ["_law_log", "_law_mark"] [.ref lg, mk]) (cg : CloAt G g nfGath ["many", "some", "work"] [.int m, .ref so, .ref wf]) (hso : G so = some (.lst xs)) (hlg : G lg = some (.lst ys)) (n : so ≠ lg) (hx : xs.length ≤ 100000) (hy : ys.length ≤ 100000) (h : ¬ (xs.length : Int) + 1 < m) :
    ∃ sp, Act P w K mg base 20 g sp ∧ Runs sp [line, th] G (fun v H' => v = .int (ys.length + 1) ∧ ∃ p t, G p = none ∧ upd (upd G p (.lst (xs ++ [th]))) so (.lst []) t = none ∧ H' = upd (upd (upd (upd G p (.lst (xs ++ [th]))) so (.lst [])) t (.tup [mk, line, .ref p])) lg (.lst (ys ++ [.ref t]))) E0 := by
  refine gath_full (k := 19) T cg hso hx h fun p np => ?_
  have n1 : so ≠ p := ne_of_none hso np
  have n2 : lg ≠ p := ne_of_none hlg np
  have c2 := clo_upd (u := .lst xs) (o := .lst []) (clo_upd (u := .lst []) (o := .lst (xs ++ [th])) cw (.inl np)) (.inr ⟨by rw [upd_ne n1]; exact hso, fun z => z⟩)
  obtain ⟨sp, ac, r⟩ := wrk_runs (P := P) (w := w) (base := base) T (line := line) (th := .ref p) c2 (by rw [upd_ne n.symm, upd_ne n2]; exact hlg) hy
  exact ⟨sp, ac.mono (by decide), r.mono (fun v H' ⟨e1, t, nt, e2⟩ => ⟨e1, p, t, np, nt, e2⟩) fun _ _ _ z => z⟩
theorem tell_few (T : Tx K mg) {m : Int} (cg : CloAt G g nfGath ["many", "some", "work"] [.int m, .ref so, .ref wf]) (hso : G so = some (.lst xs)) (hx : xs.length ≤ 100000) (h : (xs.length : Int) + 1 < m) :
    ∃ sp, Act P w K mg base 20 g sp ∧ Runs sp [line, th] G (fun v H' => v = .non ∧ H' = upd G so (.lst (xs ++ [th]))) E0 := gath_few (k := 19) T cg hso hx h
theorem ok17 {qs : List Q17} (h1 : qs.length ≤ 20) (h2 : ∀ q ∈ qs, q.2.2.length ≤ 16) : DOk 3 (.list ((qs.map sQ).map dQ)) := by
  rw [List.map_map]
  exact DOk.list (dok_map fun q hq => DOk.tuple (dok_cons .int (dok_cons .str (dok_cons (DOk.list (dok_map fun _ _ => .int) (by rw [List.length_map]; have := h2 q hq; show q.2.2.length ≤ _; omega)) dok_nil))) (by simp)) (by rw [List.length_map]; omega)
abbrev nv (x : Int × Str × Int) : List V := [.int x.1, .str x.2.1, .int x.2.2]
def dN (x : Int × Str × Int) : PyData := .tuple [.int x.1, .str x.2.1, .int x.2.2]
theorem nv_dp {H : Hp} {p : Addr} {ts : List Addr} {ns : List (Int × Str × Int)} (h : H p = some (.lst (ts.map V.ref))) (t : TupsAt H ts (ns.map nv)) : Dp K H (.ref p) (.list (ns.map dN)) :=
  dp_rows h t fun x _ => ⟨.cons (.int _) (.cons (.str _) (.cons (.int _) .nil)), _, rfl⟩
theorem okN {ns : List (Int × Str × Int)} (h : ns.length ≤ 100) : DOk 2 (.list (ns.map dN)) := DOk.list (dok_map fun _ _ => DOk.tuple (dok_cons .int (dok_cons .str (dok_cons .int dok_nil))) (by simp)) (by rw [List.length_map]; omega)
theorem Sep.rowSet {H H' : Hp} {Rs : List Rg} {p p' : Addr} {rows rows' : List (List V)} {ts : List Addr} {S : Addr → Prop} (s : Sep K H Rs) (i : Nat) (hi : Rs[i]? = some (rRow p rows)) (w : Fwd K S H H') (hS : ∀ b, S b → b = p ∨ H b = none) (h1 : p' = p ∨ H p' = none) (hp : H' p' = some (.lst (ts.map V.ref))) (ht : TupsAt H' ts rows') : Sep K H' (Rs.set i (rRow p' rows')) :=
  s.set i hi w hS stb_row ⟨ts, hp, ht⟩ fun b z => by
    have z : b = p' := z
    subst z
    exact ⟨h1, by rw [hp]; simp⟩
theorem tell_chg (T : Tx K mg) {w1 w2 : Addr} {m1 m2 : V} (c1 : CloAt G w1 nfWrk ["_law_log", "_law_mark"] [.ref lg, m1]) (c2 : CloAt G w2 nfWrk ["_law_log", "_law_mark"] [.ref lg, m2]) (cg : LamC P w K mg base G g [.ref w2, .ref w1]) (hlg : G lg = some (.lst ys)) (hy : ys.length ≤ 90000) :
    ∃ sp, Act P w K mg base 20 g sp ∧ Runs sp [line, th] G (fun v H' => v = .int ((ys.length : Int) + 1 + 1) ∧ ∃ t1 t2, G t1 = none ∧ upd (upd G t1 (.tup [m2, line, th])) lg (.lst (ys ++ [.ref t1])) t2 = none ∧ H' = upd (upd (upd (upd G t1 (.tup [m2, line, th])) lg (.lst (ys ++ [.ref t1]))) t2 (.tup [m1, line, .int (ys.length + 1)])) lg (.lst (ys ++ [.ref t1] ++ [.ref t2]))) E0 := by
  obtain ⟨sp, ac, r⟩ := wrk_runs (P := P) (w := w) (base := base) T (line := line) (th := th) c2 hlg (by omega)
  refine chg_runs (k := 19) cg ⟨sp, ac.mono (by decide), r⟩ (fun v H1 ⟨e1, t1, n1, e2⟩ => ?_) (fun v H1 ⟨e1, t1, n1, e2⟩ => ?_)
  · subst e1 e2
    have n2 : lg ≠ t1 := ne_of_none hlg n1
    have c3 := clo_upd (u := .lst ys) (o := .lst (ys ++ [.ref t1])) (clo_upd (u := .lst []) (o := .tup [m2, line, th]) c1 (.inl n1)) (.inr ⟨by rw [upd_ne n2]; exact hlg, fun z => z⟩)
    obtain ⟨sp2, ac2, r2⟩ := wrk_runs (P := P) (w := w) (base := base) T (line := line) (th := .int (ys.length + 1)) c3 upd_same (by rw [List.length_append]; simp; omega)
    refine ⟨sp2, ac2.mono (by decide), r2.mono (fun v H' ⟨e3, t2, nt, e4⟩ => ⟨?_, t1, t2, n1, nt, e4⟩) fun _ _ _ z => z⟩
    rw [e3, List.length_append, List.length_singleton, Int.natCast_add]; rfl
  · subst e2
    intro b o u e
    rw [upd_ne (fun z => by rw [z, hlg] at e; cases e), upd_ne (fun z => by rw [z, n1] at e; cases e)]
    exact e
abbrev lgV (x : R17) : List V := [.int 1, .str x.1, .int x.2]
def msM (ss : List R17) : List (Str × Int × V) := ss.zipIdx.map fun q => (q.1.1, q.1.2, V.int ((q.2 : Int) + 1))
theorem ms_get {ss : List R17} {j : Nat} {x : R17} (h : ss[j]? = some x) : (msM ss)[j]? = some (x.1, x.2, V.int ((j : Int) + 1)) := by
  unfold msM
  rw [List.getElem?_map, List.getElem?_zipIdx, h]
  simp
theorem ms_len {ss : List R17} : (msM ss).length = ss.length := by unfold msM; rw [List.length_map, List.length_zipIdx]
theorem ms_mem {ss : List R17} {y : Str × Int × V} (h : y ∈ msM ss) : (y.1, y.2.1) ∈ ss := by
  obtain ⟨j, hj⟩ := List.mem_iff_getElem?.mp h
  have hl := (List.getElem?_eq_some_iff.mp hj).1
  rw [ms_len] at hl
  have := ms_get (List.getElem?_eq_getElem hl)
  rw [hj] at this
  rw [Option.some.inj this]
  exact List.getElem_mem hl
theorem ms_snoc {ss : List R17} {x : R17} : msM (ss ++ [x]) = msM ss ++ [(x.1, x.2, V.int ((ss.length : Int) + 1))] := by
  unfold msM
  rw [List.zipIdx_append]
  simp
theorem find_ms {ss : List R17} {j : Nat} {x : R17} (hn : ss.Nodup) (h : ss[j]? = some x) : findM (msM ss) x.1 x.2 = some (V.int ((j : Int) + 1)) := by
  refine find_at (i := j) (fun y hy e => ?_) (ms_get h) ⟨rfl, rfl⟩
  obtain ⟨m, hm⟩ := List.mem_iff_getElem?.mp hy
  rw [List.getElem?_take] at hm
  split at hm
  · next lt =>
    have hl := (List.getElem?_eq_some_iff.mp hm).1
    rw [ms_len] at hl
    have h2 := ms_get (List.getElem?_eq_getElem hl)
    rw [hm] at h2
    have h3 := Option.some.inj h2
    rw [h3] at e
    have e4 : ss[m] = x := Prod.ext e.1 e.2
    obtain ⟨hj, ej⟩ := List.getElem?_eq_some_iff.mp h
    have := (List.getElem_inj hn).mp (e4.trans ej.symm)
    omega
  · cases hm
theorem find_msN {ss : List R17} {x : R17} (h : x ∉ ss) : findM (msM ss) x.1 x.2 = none := find_none fun y hy e => h (by
  have := ms_mem hy
  rw [e.1, e.2] at this
  exact this)
def dR (x : R17) : PyData := .tuple [.str x.1, .int x.2]
def dL (x : R17) : PyData := .tuple [.int 1, .str x.1, .int x.2]
theorem eqv_dR {x y : R17} : PyData.eqv (dR x) (dR y) = decide (x = y) := by
  unfold dR
  by_cases e : x = y
  · subst e; simp [PyData.eqv, PyData.eqvAll]
  · rw [decide_eq_false e]
    have : ¬ (x.1 = y.1 ∧ x.2 = y.2) := fun z => e (Prod.ext z.1 z.2)
    simp [PyData.eqv, PyData.eqvAll]
    intro h1 h2
    exact this ⟨h1, h2⟩
theorem deR {x : R17} (h : Row17 x) : DEq 1 (dR x) := DEq.tuple (deq_cons (.str (by rcases h.1 with e | e <;> rw [e] <;> decide +kernel)) (deq_cons .int deq_nil))
theorem deL {x : R17} (h : Row17 x) : DEq 1 (dL x) := DEq.tuple (deq_cons .int (deq_cons (.str (by rcases h.1 with e | e <;> rw [e] <;> decide +kernel)) (deq_cons .int deq_nil)))
theorem any_dR {ss : List R17} {x : R17} : ((ss.map dR).any fun z => PyData.eqv z (dR x)) = decide (x ∈ ss) := by
  rw [List.any_map]
  by_cases h : x ∈ ss
  · rw [decide_eq_true h]
    exact List.any_eq_true.mpr ⟨x, h, by show PyData.eqv (dR x) (dR x) = true; rw [eqv_dR]; simp⟩
  · rw [decide_eq_false h]
    refine List.any_eq_false.mpr fun y hy => ?_
    show ¬ PyData.eqv (dR y) (dR x) = true
    rw [eqv_dR]
    simp only [decide_eq_true_eq]
    intro e
    exact h (e ▸ hy)
theorem dp_R {H : Hp} {p : Addr} {ts : List Addr} {ss : List R17} (h : H p = some (.lst (ts.map V.ref))) (t : TupsAt H ts (ss.map rowV)) : Dp K H (.ref p) (.list (ss.map dR)) := dp_rows h t fun x _ => ⟨.cons (.str _) (.cons (.int _) .nil), _, rfl⟩
theorem dp_L {H : Hp} {p : Addr} {ts : List Addr} {ss : List R17} (h : H p = some (.lst (ts.map V.ref))) (t : TupsAt H ts (ss.map lgV)) : Dp K H (.ref p) (.list (ss.map dL)) := dp_rows h t fun x _ => ⟨.cons (.int _) (.cons (.str _) (.cons (.int _) .nil)), _, rfl⟩
section
variable {rw : Addr} {ln : Str} {ti : Int} {rows : List (Str × Int × V)} {tr : List Addr}
theorem tell_old (T : Tx K mg) {v : V} (cg : CloAt G g nfMind ["rows", "work"] [.ref rw, .ref wf]) (hrw : G rw = some (.lst (tr.map V.ref))) (ht : TupsAt G tr (rows.map rowM)) (hx : rows.length ≤ 1000) (h : findM rows ln ti = some v) : ∃ sp, Act P w K mg base 20 g sp ∧ Runs sp [.str ln, .int ti] G (fun u H' => u = v ∧ H' = G) E0 := mind_old (k := 19) T cg hrw ht (by omega) h
theorem tell_new (T : Tx K mg) {mk : V} (cw : CloAt G wf nfWrk ["_law_log", "_law_mark"] [.ref lg, mk]) (cg : CloAt G g nfMind ["rows", "work"] [.ref rw, .ref wf]) (hrw : G rw = some (.lst (tr.map V.ref))) (ht : TupsAt G tr (rows.map rowM)) (hx : rows.length ≤ 1000) (hlg : G lg = some (.lst ys)) (hy : ys.length ≤ 1000) (n : rw ≠ lg) (h : findM rows ln ti = none) :
    ∃ sp, Act P w K mg base 20 g sp ∧ Runs sp [.str ln, .int ti] G (fun u H' => u = .int (ys.length + 1) ∧ ∃ t1 p, G t1 = none ∧ upd (upd G t1 (.tup [mk, .str ln, .int ti])) lg (.lst (ys ++ [.ref t1])) p = none ∧ H' = upd (upd (upd (upd G t1 (.tup [mk, .str ln, .int ti])) lg (.lst (ys ++ [.ref t1]))) p (.tup [.str ln, .int ti, .int (ys.length + 1)])) rw (.lst (tr.map V.ref ++ [.ref p]))) E0 := by
  obtain ⟨sp, ac, r⟩ := wrk_runs (P := P) (w := w) (base := base) T (line := .str ln) (th := .int ti) cw hlg (by omega)
  obtain ⟨sp2, ac2, r2⟩ := mind_new (k := 19) T cg hrw ht (by omega) h ⟨sp, ac.mono (by decide), r⟩ (fun v H1 ⟨_, t, nt, e⟩ => by
    subst e
    rw [upd_ne n, upd_ne (ne_of_none hrw nt)]; exact hrw)
  refine ⟨sp2, ac2, r2.mono (fun u H' ⟨H1, p, ⟨e1, t1, n1, e2⟩, np, e3⟩ => ?_) fun _ _ _ z => z⟩
  subst e1 e2 e3
  exact ⟨rfl, t1, p, n1, np, rfl⟩
end
end
end
end Hk

set_option Elab.async false
set_option linter.all false
set_option maxRecDepth 100000
set_option maxHeartbeats 4000000
namespace Hk
open PySem PySem.Spec PyProof.Rows L2
open LamX NdefX
open TL
section
variable {P : Program} {w : World} {K : PySem.W.Frag} {mg : Str → Option Value} {base : Heap}
/-! ### lists of lists of ints -/
abbrev A17 := Addr × List Int
def dI (zs : List Int) : PyData := .list (zs.map .int)
structure LLAt (H : Hp) (p : Addr) (qs : List A17) : Prop where
  lst : H p = some (.lst (qs.map fun q => V.ref q.1))
  inn : ∀ q ∈ qs, H q.1 = some (.lst (q.2.map V.int))
  ne : ∀ q ∈ qs, q.1 ≠ p
abbrev rLL (p : Addr) (qs : List A17) : Rg := ((fun b => b = p ∨ ∃ q ∈ qs, q.1 = b), fun H => LLAt H p qs)
theorem stb_ll {p : Addr} {qs : List A17} : Stb K (rLL p qs) := fun S H H' t ⟨e, hi, hn⟩ w n => ⟨w.lst t e (fun z => n _ z (.inl rfl)), fun q hq => w.lst t (hi q hq) fun z => n _ z (.inr ⟨q, hq, rfl⟩), hn⟩
section
variable {H H' : Hp} {Rs : List Rg} {p : Addr} {qs : List A17}
theorem LLAt.dp (h : LLAt H p qs) : Dp K H (.ref p) (.list ((qs.map (·.2)).map dI)) := by
  rw [List.map_map]
  exact .lst (.of h.lst) (dpAll_map fun q hq => .lst (.of (h.inn q hq)) (dpAll_map fun _ _ => .int _))
theorem Sep.llNew (s : Sep K H Rs) (e : Same H H') (n : H p = none) (hp : H' p = some (.lst [])) : Sep K H' (Rs ++ [rLL p []]) :=
  s.new (.of_same e s.tab) stb_ll ⟨hp, (fun _ h => nomatch h), (fun _ h => nomatch h)⟩ fun b z => by
    rcases z with z | ⟨_, h, _⟩
    · subst z
      exact ⟨n, by rw [hp]; simp⟩
    · cases h
theorem Sep.llAdd (s : Sep K H Rs) (i : Nat) (hi : Rs[i]? = some (rLL p qs)) {q : Addr} {zs : List Int} (nq : H q = none) :
    Sep K (upd (upd H q (.lst (zs.map V.int))) p (.lst (qs.map (fun q => V.ref q.1) ++ [.ref q]))) (Rs.set i (rLL p (qs ++ [(q, zs)]))) := by
  obtain ⟨e, hin, hne⟩ := s.at_ i hi
  have n1 : p ≠ q := ne_of_none e nq
  have s1 : Same H (upd H q (.lst (zs.map V.int))) := same_put (Same.refl _) nq
  refine s.set (S := fun b => b = p) i hi ((Fw.of_same s1 s.tab).put (s1 _ _ e) (fun _ z => by cases z) (fun z => z) (.inl rfl)) (fun b z => .inl (.inl z)) stb_ll ⟨by rw [upd_same, List.map_append]; rfl, fun q' hq' => ?_, fun q' hq' => ?_⟩ fun b z => ?_
  · rcases List.mem_append.mp hq' with hq' | hq'
    · rw [upd_ne (hne q' hq')]; exact s1 _ _ (hin q' hq')
    · rw [List.mem_singleton.mp hq']
      show upd _ p _ q = _
      rw [upd_ne n1.symm, upd_same]
  · rcases List.mem_append.mp hq' with hq' | hq'
    · exact hne q' hq'
    · rw [List.mem_singleton.mp hq']; exact n1.symm
  · rcases z with rfl | ⟨q', hq', rfl⟩
    · exact ⟨.inl (.inl rfl), by rw [upd_same]; simp⟩
    · rcases List.mem_append.mp hq' with hq' | hq'
      · exact ⟨.inl (.inr ⟨q', hq', rfl⟩), by rw [upd_ne (hne q' hq'), s1 _ _ (hin q' hq')]; simp⟩
      · rw [List.mem_singleton.mp hq']
        exact ⟨.inr nq, by show upd _ p _ q ≠ none; rw [upd_ne n1.symm, upd_same]; simp⟩
theorem okI {zss : List (List Int)} {k : Nat} : DEq (k + 2) (.list (zss.map dI)) := DEq.list (deq_map fun zs _ => DEq.list (deq_map fun _ _ => .int))
end
/-! ### the lambda that tells once more -/
abbrev frAg : List Str := ["_law_work"]
def spAg (P : Program) (w : World) (K : PySem.W.Frag) (mg : Str → Option Value) (base : Heap) (cl : List (Str × Addr)) (k : Nat) : Hp → List V → Sp := fun Hf ws vs H Q E => ∃ (g : Addr), ws = [.ref g] ∧ vs = [] ∧ ∃ sp, Act P w K mg base k g sp ∧ sp [.str (Str.ofString "a"), .int 99] Hf (fun v H3 => FzK Hf H3 → Q v (delC cl H3)) (fun c d H3 => FzK Hf H3 → E c d (delC cl H3))
structure AgL (P : Program) (w : World) (K : PySem.W.Frag) (mg : Str → Option Value) (base : Heap) (f : Addr) (L : LF) (cm : List (Str × Addr)) (sc : Scope) (N : List Str) : Prop where
  cl : L.cl = cloFrom cm L.scope.names []
  dT : L.dT = none
  ac : ∀ k, Act P w K mg base (k + 1) f (spLamF f L frAg (spAg P w K mg base L.cl k))
  nb : ndefB sc L.scope frAg = true
  fr : ∀ y ∈ L.scope.names, y.2 = .free → y.1 ∈ frAg
  ix : N[8]? = some (Str.ofString "_law_work")
section
variable {G : Hp} {f g so lg e : Addr} {L : LF} {m : Int} {line th : V} {xs ys : List V} {k : Nat} {R : VK}
theorem ag_runs (ac : Act P w K mg base (k + 1) f (spLamF f L frAg (spAg P w K mg base L.cl k))) (dT : L.dT = none) (hf : G f = some (LamO f L)) (hc : G L.c = some (CodeO L.c L.qual)) (caps : CapsAt L.cl frAg [.ref g] G) (r : ∃ sp, Act P w K mg base k g sp ∧ Runs sp [.str (Str.ofString "a"), .int 99] G R E0) : ∃ sp, Act P w K mg base (k + 1) f sp ∧ Runs sp [] G R E0 := by
  obtain ⟨sp, a2, g2⟩ := r
  refine ⟨_, ac, fun Q E hq he => ⟨_, hf, hc, caps, dT, g, rfl, rfl, sp, a2, g2 _ _ (fun v H3 r fz hz => ?_) (fun _ _ _ z => z.elim)⟩⟩
  rw [put_del caps fz]
  exact hq _ _ r
theorem tell_more (T : Tx K mg) {ag : Addr} (ce : CloAt G e nfEcho ["_law_again", "_law_log"] [.ref ag, .ref lg]) (cg : CloAt G g nfGath ["many", "some", "work"] [.int m, .ref so, .ref e]) (hso : G so = some (.lst xs)) (hlg : G lg = some (.lst ys)) (n : so ≠ lg) (hx : xs.length ≤ 100000) (hy : ys.length ≤ 100000) (h : ¬ (xs.length : Int) + 1 < m) (ny : ys ≠ []) :
    ∃ sp, Act P w K mg base 20 g sp ∧ Runs sp [line, th] G (fun v H' => ∃ p, G p = none ∧ H' = upd (upd (upd G p (.lst (xs ++ [th]))) so (.lst [])) lg (.lst (ys ++ [.ref p]))) E0 := by
  refine gath_full (k := 19) T cg hso hx h fun p np => ?_
  have n1 : so ≠ p := ne_of_none hso np
  have n2 : lg ≠ p := ne_of_none hlg np
  have c2 := clo_upd (u := .lst xs) (o := .lst []) (clo_upd (u := .lst []) (o := .lst (xs ++ [th])) ce (.inl np)) (.inr ⟨by rw [upd_ne n1]; exact hso, fun z => z⟩)
  obtain ⟨sp, ac, r⟩ := echo_more (P := P) (w := w) (base := base) (k := 18) T (line := line) (sm := .ref p) c2 (by rw [upd_ne n.symm, upd_ne n2]; exact hlg) hy ny
  exact ⟨sp, ac, r.mono (fun v H' ⟨e1, e2⟩ => ⟨p, np, e2⟩) fun _ _ _ z => z⟩
theorem tell_first (T : Tx K mg) (ac : Act P w K mg base 18 f (spLamF f L frAg (spAg P w K mg base L.cl 17))) (dT : L.dT = none) (hf : G f = some (LamO f L)) (hc : G L.c = some (CodeO L.c L.qual)) (caps : CapsAt L.cl frAg [.ref g] G) (ce : CloAt G e nfEcho ["_law_again", "_law_log"] [.ref f, .ref lg]) (cg : CloAt G g nfGath ["many", "some", "work"] [.int m, .ref so, .ref e]) (hso : G so = some (.lst xs)) (hlg : G lg = some (.lst [])) (n : so ≠ lg) (hx : xs.length ≤ 100000) (h : ¬ (xs.length : Int) + 1 < m) (hm : 1 < m) :
    ∃ sp, Act P w K mg base 20 g sp ∧ Runs sp [line, th] G (fun v H' => ∃ p, G p = none ∧ H' = upd (upd (upd (upd G p (.lst (xs ++ [th]))) so (.lst [])) lg (.lst [.ref p])) so (.lst [.int 99])) E0 := by
  refine gath_full (k := 19) T cg hso hx h fun p np => ?_
  have n1 : so ≠ p := ne_of_none hso np
  have n2 : lg ≠ p := ne_of_none hlg np
  have h1 : upd G p (.lst (xs ++ [th])) so = some (.lst xs) := by rw [upd_ne n1]; exact hso
  have h2 : upd (upd G p (.lst (xs ++ [th]))) so (.lst []) lg = some (.lst []) := by rw [upd_ne n.symm, upd_ne n2]; exact hlg
  have kp : ∀ b o, G b = some o → Imm o → upd (upd (upd G p (.lst (xs ++ [th]))) so (.lst [])) lg (.lst [.ref p]) b = some o := fun b o eb i => by
    rw [upd_ne (fun z => by rw [z, hlg] at eb; cases eb; exact i), upd_ne (fun z => by rw [z, hso] at eb; cases eb; exact i), upd_ne (fun z => by rw [z, np] at eb; cases eb)]
    exact eb
  have kp2 : ∀ b o, G b = some o → Imm o → upd (upd G p (.lst (xs ++ [th]))) so (.lst []) b = some o := fun b o eb i => by
    rw [upd_ne (fun z => by rw [z, hso] at eb; cases eb; exact i), upd_ne (fun z => by rw [z, np] at eb; cases eb)]
    exact eb
  obtain ⟨sp, ac, r⟩ := echo_first (P := P) (w := w) (base := base) (k := 18) T (line := line) (sm := .ref p) (R1 := fun v H' => H' = upd (upd (upd (upd G p (.lst (xs ++ [th]))) so (.lst [])) lg (.lst [.ref p])) so (.lst [.int 99])) (ce.mono kp2) h2
    (ag_runs ac dT (kp _ _ hf imm_lam) (kp _ _ hc imm_code) (caps.mono fun a _ v ⟨ob, q⟩ => ⟨ob, kp _ _ q imm_cell⟩) (by
      obtain ⟨sp, ac, r⟩ := gath_few (P := P) (w := w) (base := base) (k := 16) (line := .str (Str.ofString "a")) (th := .int 99) T (cg.mono kp) (xs := []) (by rw [upd_ne n, upd_same]) (by simp) (by simp; omega)
      exact ⟨sp, ac, r.mono (fun v H' ⟨_, e2⟩ => e2) fun _ _ _ z => z⟩))
  exact ⟨sp, ac, r.mono (fun v H' ⟨e1, u, e2⟩ => ⟨p, np, e2⟩) fun _ _ _ z => z⟩
end
/-! ### where it stands -/
def irg (n m : Nat) : List Int := (List.range' n m).map fun (j : Nat) => (j : Int)
def st4 (W k : Nat) : List Int × List (List Int) := if k < W then (irg 0 k, []) else if k + 1 < 2 * W then (99 :: irg W (k - W), [irg 0 W]) else ([], [irg 0 W, 99 :: irg W (W - 1)])
theorem irg_snoc (n m : Nat) : irg n (m + 1) = irg n m ++ [((n + m : Nat) : Int)] := by
  unfold irg
  rw [List.range'_1_concat, List.map_append]; rfl
theorem irg_len (n m : Nat) : (irg n m).length = m := by unfold irg; simp
theorem st_few {W k : Nat} (h : k + 1 < W ∨ (W ≤ k ∧ k + 2 < 2 * W)) : st4 W (k + 1) = ((st4 W k).1 ++ [(k : Int)], (st4 W k).2) ∧ (st4 W k).1.length + 1 < W := by
  unfold st4
  rcases h with h | ⟨h, h2⟩
  · rw [if_pos h, if_pos (show k < W by omega)]
    refine ⟨?_, by rw [irg_len]; omega⟩
    rw [irg_snoc, Nat.zero_add]
  · rw [if_neg (show ¬ k + 1 < W by omega), if_pos (show k + 1 + 1 < 2 * W by omega), if_neg (show ¬ k < W by omega), if_pos (show k + 1 < 2 * W by omega)]
    refine ⟨?_, by rw [List.length_cons, irg_len]; omega⟩
    rw [show k + 1 - W = (k - W) + 1 by omega, irg_snoc, show W + (k - W) = k by omega]
    rfl
theorem st_first {W k : Nat} (h : k + 1 = W) (h2 : 2 ≤ W) : st4 W k = (irg 0 k, []) ∧ st4 W (k + 1) = ([99], [irg 0 k ++ [(k : Int)]]) := by
  unfold st4
  rw [if_pos (show k < W by omega), if_neg (show ¬ k + 1 < W by omega), if_pos (show k + 1 + 1 < 2 * W by omega), h, Nat.sub_self, ← h, irg_snoc, Nat.zero_add]
  exact ⟨rfl, rfl⟩
theorem st_more {W k : Nat} (h : k + 2 = 2 * W) (h2 : 2 ≤ W) : st4 W k = (99 :: irg W (k - W), [irg 0 W]) ∧ st4 W (k + 1) = ([], [irg 0 W, (99 :: irg W (k - W)) ++ [(k : Int)]]) := by
  unfold st4
  rw [if_neg (show ¬ k < W by omega), if_pos (show k + 1 < 2 * W by omega), if_neg (show ¬ k + 1 < W by omega), if_neg (show ¬ k + 1 + 1 < 2 * W by omega)]
  refine ⟨rfl, ?_⟩
  rw [show W - 1 = (k - W) + 1 by omega, irg_snoc, show W + (k - W) = k by omega]
  rfl
theorem rg_irg (n m : Nat) : rgV (n : Int) ((n + m : Nat) : Int) = (irg n m).map V.int := by
  unfold rgV irg
  rw [show (((n + m : Nat) : Int) - (n : Int)).toNat = m by omega, List.range'_eq_map_range, List.map_map, List.map_map]
  refine List.map_congr_left fun i _ => ?_
  simp
/-! ### kept in mind, by one that tells nothing -/
def lg5 (i : Nat) : List Int := if i = 0 then [] else if i = 1 then [1] else [1, 2]
def ms5 (i : Nat) : List (Str × Int × V) := (lg5 i).map fun t => (Str.ofString "a", t, V.non)
def th5 : List Int := [1, 2, 1, 2]
theorem go5 {i : Nat} {t : Int} (h : th5[i]? = some t) : (findM (ms5 i) (Str.ofString "a") t = none ∧ lg5 (i + 1) = lg5 i ++ [t]) ∨ (findM (ms5 i) (Str.ofString "a") t = some .non ∧ lg5 (i + 1) = lg5 i) := by
  have hi := (List.getElem?_eq_some_iff.mp h).1
  have : i = 0 ∨ i = 1 ∨ i = 2 ∨ i = 3 := by
    have : th5.length = 4 := rfl
    omega
  rcases this with rfl | rfl | rfl | rfl <;> cases h <;> simp [findM, ms5, lg5]
section
variable {G : Hp} {g lg rw wf : Addr} {ys : List V} {ln : Str} {ti : Int} {rows : List (Str × Int × V)} {tr : List Addr}
theorem tell_nth (T : Tx K mg) (cw : CloAt G wf nfNth ["_law_log"] [.ref lg]) (cg : CloAt G g nfMind ["rows", "work"] [.ref rw, .ref wf]) (hrw : G rw = some (.lst (tr.map V.ref))) (ht : TupsAt G tr (rows.map rowM)) (hx : rows.length ≤ 1000) (hlg : G lg = some (.lst ys)) (hy : ys.length ≤ 1000) (n : rw ≠ lg) (h : findM rows ln ti = none) :
    ∃ sp, Act P w K mg base 20 g sp ∧ Runs sp [.str ln, .int ti] G (fun u H' => u = .non ∧ ∃ p, upd G lg (.lst (ys ++ [.int ti])) p = none ∧ H' = upd (upd (upd G lg (.lst (ys ++ [.int ti]))) p (.tup [.str ln, .int ti, .non])) rw (.lst (tr.map V.ref ++ [.ref p]))) E0 := by
  obtain ⟨sp, ac, r⟩ := nth_runs (P := P) (w := w) (K := K) (mg := mg) (base := base) (line := .str ln) (th := .int ti) cw hlg (by omega)
  obtain ⟨sp2, ac2, r2⟩ := mind_new (k := 19) T cg hrw ht (by omega) h ⟨sp, ac.mono (by decide), r⟩ (fun v H1 ⟨_, e⟩ => by
    subst e
    rw [upd_ne n]; exact hrw)
  refine ⟨sp2, ac2, r2.mono (fun u H' ⟨H1, p, ⟨e1, e2⟩, np, e3⟩ => ?_) fun _ _ _ z => z⟩
  subst e1 e2 e3
  exact ⟨rfl, p, np, rfl⟩
end
theorem eqI {zs : List Int} : DEq 1 (.list (zs.map .int)) := DEq.list (deq_map fun _ _ => .int)
end
end Hk

set_option Elab.async false
set_option linter.all false
set_option maxRecDepth 100000
set_option maxHeartbeats 4000000
namespace Hk
open PySem PySem.Spec PyProof.Rows L2
open LamX NdefX
open TL
section
variable {P : Program} {w : World} {K : PySem.W.Frag} {mg : Str → Option Value} {base : Heap}
def spK17 (K : PySem.W.Frag) : List (Option V) → Sp := fun ws vs H Q E => ∃ far : Int, ws = [some (.int far)] ∧ 0 ≤ far ∧ vs = [] ∧ Tab K H ∧ ∀ H', Fwd K No H H' → E (.ref (He.ga K "BadCount")) none H'
def sp_law (K : PySem.W.Frag) : Sp := fun vs H Q _ => ∃ (a : Addr) (ns : List Int), vs = [.ref a] ∧ SqL K H a (ns.map V.int) ∧ ns.length ≤ 63 ∧ Tabs1 (Ts K) nm H ∧ ∀ H', Q (.bl true) H'
theorem F_law_ok (T : Tx K mg) (B : Tb K mg base) {fd : FuncData} (F : F_law K (He.fAd K ("law", none)) fd) : FnOk P w K mg base CX0 50 (He.fAd K ("law", none)) fd p_law (sp_law K) := by
  refine okT (p := ("law", none)) F sc_law (fun vs H Q E h => ?_) (fun A outer s H vs Q E hr h => ?_)
  · obtain ⟨a, ns, rfl, _⟩ := h; rfl
  · obtain ⟨a, ns, rfl, hS, hn, hT, q⟩ := h
    refine ⟨_, PSs.nox (pss_cons (ps_set (i := 1) sc_law.nd rfl (Or.inr rfl) (pe_callG (G_law_mix T) (hr.mono (by first | decide | omega)) (by rfl) pass0 (pa_cons (pv 0) (pa_cons pe_int pa_nil))))
      (pss_cons (ps_for PassesOwn.never rfl (pi_range1 (by rfl) T.b_range (pa_cons pe_int pa_nil)) (pg_name (i := 2) sc_law.nd rfl (Or.inl rfl))
      (pss_cutE (ps_setLc (i := 3) (own := [("_law_k", 4)]) (g := (gName 4)) (tt := tYes) rfl sc_law.nd rfl rfl (sw_true rfl rfl rfl (by kernel_rfl)) (pi_range1 (by rfl) T.b_range (pa_cons (pe_callG (G_law_next T) (hr.mono (by first | decide | omega)) (by rfl) pass0 (pa_cons (pv 1) (pa_cons pe_int pa_nil))) pa_nil)) (blkOk_by (by kernel_rfl)) (fun _ _ _ _ _ => (pg_name (i := 4) sc_law.nd rfl (Or.inl rfl))) (fun _ _ _ _ _ => pts_nil) (fun _ _ _ _ _ => (pe_tup (pa_cons (pe_ix (ix_listK (K := K) rfl) (pe_lst (pa_cons pe_str (pa_cons pe_str pa_nil))) (pe_callG (G_law_next T) (hr.mono (by first | decide | omega)) (by rfl) pass0 (pa_cons (pv 1) (pa_cons pe_int pa_nil))) (fun _ _ => rfl)) (pa_cons (pe_callG (G_law_next T) (hr.mono (by first | decide | omega)) (by rfl) pass0 (pa_cons (pv 1) (pa_cons pe_int pa_nil))) pa_nil)))))
      (pss_cons (ps_par3 (i := 5) (j := 6) (l := 7) rfl sc_law.nd rfl rfl rfl (by decide) (by decide) (by decide) rfl rfl rfl (pa_cons (pe_op op_add pe_int (pe_callG (G_law_next T) (hr.mono (by first | decide | omega)) (by rfl) pass0 (pa_cons (pv 1) (pa_cons pe_int pa_nil)))) (pa_cons (pe_lst pa_nil) (pa_cons (pe_lst pa_nil) pa_nil))) (by rfl))
      (pss_cons (ps_set (i := 8) sc_law.nd rfl (Or.inr rfl) (pe_callG (G_gathered T B) (hr.mono (by first | decide | omega)) (by rfl) passN (pa_cons (pe_callG (G_law_worker T B) (hr.mono (by first | decide | omega)) (by rfl) pass0 (pa_cons (pv 6) (pa_cons pe_int pa_nil))) (pa_cons (pv 5) pa_nil))))
      (pss_cutE (ps_for PassesOwn.never rfl (pi_range1 (by rfl) T.b_range (pa_cons (pe_callB (call_len_seqK (K := K) rfl) (by rfl) T.b_len (by decide +kernel) (pa_cons (pv 3) pa_nil)) pa_nil)) (pg_name (i := 4) sc_law.nd rfl (Or.inl rfl))
      (pss_cons (ps_set (i := 9) sc_law.nd rfl (Or.inl rfl) (pe_cmpR op_eq (pe_op op_mod (pe_op op_add (pv 4) pe_int) (pv 5)) pe_int (nomark _)))
      (pss_cons (ps_set (i := 7) sc_law.nd rfl (Or.inl rfl) (pe_op op_cat (pv 7) (pe_op op_rep (pe_lst (pa_cons (pe_tup (pa_cons pe_int (pa_cons (pe_ix (ix_tupK (K := K) rfl) (pe_ix (ix_listK (K := K) rfl) (pv 3) (pv 4) (fun _ _ => rfl)) pe_int (fun _ _ => rfl)) (pa_cons (pe_lc (own := [("_law_one", 10)]) (g := (gName 10)) (tt := tYes) rfl sc_law.nd (pi_listK (K := K) rfl (pe_slice (sl_listK (K := K) rfl) (pv 3) (po_some (pe_op op_sub (pe_op op_add (pv 4) pe_int) (pv 5))) (po_some (pe_op op_add (pv 4) pe_int)))) (blkOk_by (by kernel_rfl)) (fun _ _ _ _ _ => (pg_name (i := 10) sc_law.nd rfl (Or.inl rfl))) (fun _ _ _ _ _ => pts_nil) (fun _ _ _ _ _ => (pe_ix (ix_tupK (K := K) rfl) (pv 10) pe_int (fun _ _ => rfl)))) pa_nil)))) pa_nil)) (pe_callTy call_int1 (by rfl) T.b_int (by decide +kernel) (pa_cons (pv 9) pa_nil)))))
      (pss_cons (ps_set (i := 11) sc_law.nd rfl (Or.inl rfl) (pe_callVO (P := P) (w := w) (K := K) (mg := mg) (base := base) rfl rfl rfl rfl rfl (k := 20) (i := 8) (hr.mono (by first | decide | omega)) passN sc_law.nd (fun _ _ _ => rfl) rfl (Or.inr (Or.inl rfl)) (pa_cons (pe_ix (ix_tupK (K := K) rfl) (pe_ix (ix_listK (K := K) rfl) (pv 3) (pv 4) (fun _ _ => rfl)) pe_int (fun _ _ => rfl)) (pa_cons (pe_ix (ix_tupK (K := K) rfl) (pe_ix (ix_listK (K := K) rfl) (pv 3) (pv 4) (fun _ _ => rfl)) pe_int (fun _ _ => rfl)) pa_nil))))
      (pss_one (ps_if (PW.pt (pw_or (pt_not (pt_val (pe_callG (G_law_alike T 16) (hr.mono (by first | decide | omega)) (by rfl) pass0 (pa_cons (pv 11) (pa_cons (pe_ifExp (pt_val (pv 9)) (pe_callB (call_len_seqK (K := K) rfl) (by rfl) T.b_len (by decide +kernel) (pa_cons (pv 7) pa_nil)) pe_non) pa_nil))))) (pw_or1 (pt_not (pt_val (pe_callG (G_law_alike T 16) (hr.mono (by first | decide | omega)) (by rfl) pass0 (pa_cons (pv 6) (pa_cons (pv 7) pa_nil))))))))
      (pss_one (ps_ret pe_bl))
      pss_nil))))))
      (pss_cons (ps_par (i := 6) (j := 7) rfl sc_law.nd rfl rfl (by decide) rfl rfl (pa_cons (pe_lst pa_nil) (pa_cons (pe_lst pa_nil) pa_nil)) (by rfl))
      (pss_cons (ps_set (i := 8) sc_law.nd rfl (Or.inr rfl) (pe_callG (G_changed T B) (hr.mono (by first | decide | omega)) (by rfl) pass0 (pa_cons (pe_callG (G_law_worker T B) (hr.mono (by first | decide | omega)) (by rfl) pass0 (pa_cons (pv 6) (pa_cons pe_int pa_nil))) (pa_cons (pe_callG (G_law_worker T B) (hr.mono (by first | decide | omega)) (by rfl) pass0 (pa_cons (pv 6) (pa_cons pe_int pa_nil))) pa_nil))))
      (pss_cutE (ps_for PassesOwn.never rfl (pi_listK (K := K) rfl (pv 3)) (pg_tupK (K := K) rfl rfl (pgs_cons (pg_name (i := 12) sc_law.nd rfl (Or.inl rfl)) (pgs_cons (pg_name (i := 13) sc_law.nd rfl (Or.inl rfl)) pgs_nil)))
      (pss_cons (ps_set (i := 7) sc_law.nd rfl (Or.inl rfl) (pe_op op_cat (pv 7) (pe_lst (pa_cons (pe_tup (pa_cons pe_int (pa_cons (pv 12) (pa_cons (pv 13) pa_nil)))) (pa_cons (pe_tup (pa_cons pe_int (pa_cons (pv 12) (pa_cons (pe_op op_add (pe_callB (call_len_seqK (K := K) rfl) (by rfl) T.b_len (by decide +kernel) (pa_cons (pv 7) pa_nil)) pe_int) pa_nil)))) pa_nil)))))
      (pss_one (ps_if (PW.pt (pw_or (pt_not (pt_val (pe_callG (G_law_alike T 16) (hr.mono (by first | decide | omega)) (by rfl) pass0 (pa_cons (pe_callVO (P := P) (w := w) (K := K) (mg := mg) (base := base) rfl rfl rfl rfl rfl (k := 20) (i := 8) (hr.mono (by first | decide | omega)) passN sc_law.nd (fun _ _ _ => rfl) rfl (Or.inr (Or.inl rfl)) (pa_cons (pv 12) (pa_cons (pv 13) pa_nil))) (pa_cons (pe_callB (call_len_seqK (K := K) rfl) (by rfl) T.b_len (by decide +kernel) (pa_cons (pv 7) pa_nil)) pa_nil))))) (pw_or1 (pt_not (pt_val (pe_callG (G_law_alike T 16) (hr.mono (by first | decide | omega)) (by rfl) pass0 (pa_cons (pv 6) (pa_cons (pv 7) pa_nil))))))))
      (pss_one (ps_ret pe_bl))
      pss_nil))))
      (pss_cons (ps_par (i := 6) (j := 14) rfl sc_law.nd rfl rfl (by decide) rfl rfl (pa_cons (pe_lst pa_nil) (pa_cons (pe_lst pa_nil) pa_nil)) (by rfl))
      (pss_cons (ps_set (i := 8) sc_law.nd rfl (Or.inr rfl) (pe_callG (G_kept_in_mind T B) (hr.mono (by first | decide | omega)) (by rfl) pass0 (pa_cons (pe_callG (G_law_worker T B) (hr.mono (by first | decide | omega)) (by rfl) pass0 (pa_cons (pv 6) (pa_cons pe_int pa_nil))) pa_nil)))
      (pss_cutE (ps_for PassesOwn.never rfl (pi_listK (K := K) rfl (pv 3)) (pg_name (i := 15) sc_law.nd rfl (Or.inl rfl))
      (pss_cons (ps_set (i := 14) sc_law.nd rfl (Or.inl rfl) (pe_op op_cat (pv 14) (pe_op op_rep (pe_lst (pa_cons (pv 15) pa_nil)) (pe_callTy call_int1 (by rfl) T.b_int (by decide +kernel) (pa_cons (pe_cmpR (op_notInDK (K := K) rfl (un65 hr)) (pv 15) (pv 14) (by rfl)) pa_nil)))))
      (pss_one (ps_if (PW.pt (pw_or (pt_not (pt_val (pe_callG (G_law_alike T 16) (hr.mono (by first | decide | omega)) (by rfl) pass0 (pa_cons (pe_callVO (P := P) (w := w) (K := K) (mg := mg) (base := base) rfl rfl rfl rfl rfl (k := 20) (i := 8) (hr.mono (by first | decide | omega)) passN sc_law.nd (fun _ _ _ => rfl) rfl (Or.inr (Or.inl rfl)) (pa_cons (pe_ix (ix_tupK (K := K) rfl) (pv 15) pe_int (fun _ _ => rfl)) (pa_cons (pe_ix (ix_tupK (K := K) rfl) (pv 15) pe_int (fun _ _ => rfl)) pa_nil))) (pa_cons (pe_op op_add (pe_bmK (K := K) rfl PySem.F.plainAttrs_list PySem.F.slot_list_index PySem.F.type_list_index (mt_indexDK (K := K) rfl (un65 hr)) (pv 14) (pa_cons (pv 15) pa_nil)) pe_int) pa_nil))))) (pw_or1 (pt_cmpR (op_neDK (K := K) rfl hr.units) (pv 6) (pe_lc (own := [("_law_one", 10)]) (g := (gName 10)) (tt := tYes) rfl sc_law.nd (pi_listK (K := K) rfl (pv 14)) (blkOk_by (by kernel_rfl)) (fun _ _ _ _ _ => (pg_name (i := 10) sc_law.nd rfl (Or.inl rfl))) (fun _ _ _ _ _ => pts_nil) (fun _ _ _ _ _ => (pe_op (op_catAK (K := K) rfl) (pe_tup (pa_cons pe_int pa_nil)) (pv 10)))) (nomark _)))))
      (pss_one (ps_ret pe_bl))
      pss_nil))))
      (pss_cons (ps_par (i := 6) (j := 5) rfl sc_law.nd rfl rfl (by decide) rfl rfl (pa_cons (pe_lst pa_nil) (pa_cons (pe_op op_add pe_int (pe_callG (G_law_next T) (hr.mono (by first | decide | omega)) (by rfl) pass0 (pa_cons (pv 1) (pa_cons pe_int pa_nil)))) pa_nil)) (by rfl))
      (pss_cons (ps_set (i := 8) sc_law.nd rfl (Or.inr rfl) (pe_callG (G_gathered T B) (hr.mono (by first | decide | omega)) (by rfl) passN (pa_cons (pe_callG (G_law_echo T B) (hr.mono (by first | decide | omega)) (by rfl) pass0 (pa_cons (pv 6) (pa_cons (pe_lam (Ts := Ts K) (nm := nm) (B.t_law) rfl (m_law K) (show nm 142 49 = Str.ofString "law.<locals>." ++ Str.ofString "<lambda>" by decide +kernel) (ndef_free (sc := defScope s_law) (fr := ["_law_work"]) (by decide +kernel)) rfl) pa_nil))) (pa_cons (pv 5) pa_nil))))
      (pss_cutE (ps_for PassesOwn.never rfl (pi_range1 (by rfl) T.b_range (pa_cons (pe_op op_sub (pe_op op_mul pe_int (pv 5)) pe_int) pa_nil)) (pg_name (i := 4) sc_law.nd rfl (Or.inl rfl))
      (pss_one (ps_expr (pe_callVO (P := P) (w := w) (K := K) (mg := mg) (base := base) rfl rfl rfl rfl rfl (k := 20) (i := 8) (hr.mono (by first | decide | omega)) passN sc_law.nd (fun _ _ _ => rfl) rfl (Or.inr (Or.inl rfl)) (pa_cons pe_str (pa_cons (pv 4) pa_nil))))))
      (pss_cutE (ps_if (pt_cmpR (op_neDK (K := K) rfl hr.units) (pv 6) (pe_lst (pa_cons (pe_listRg rfl (by rfl) T.b_list (prg_1 (by rfl) T.b_range (pv 5))) (pa_cons (pe_op op_cat (pe_lst (pa_cons pe_int pa_nil)) (pe_listRg rfl (by rfl) T.b_list (prg_2 (by rfl) T.b_range (pv 5) (pe_op op_sub (pe_op op_mul pe_int (pv 5)) pe_int)))) pa_nil))) (nomark _))
      (pss_one (ps_ret pe_bl))
      pss_nil)
      (pss_cons (ps_set (i := 6) sc_law.nd rfl (Or.inl rfl) (pe_lst pa_nil))
      (pss_cons (ps_set (i := 8) sc_law.nd rfl (Or.inr rfl) (pe_callG (G_kept_in_mind T B) (hr.mono (by first | decide | omega)) (by rfl) pass0 (pa_cons (pe_callG (G_law_nothing T B) (hr.mono (by first | decide | omega)) (by rfl) pass0 (pa_cons (pv 6) pa_nil)) pa_nil)))
      (pss_one (ps_if (PW.pt (pw_or (pt_cmpR (op_neDK (K := K) rfl hr.units) (pe_lc (own := [("_law_thing", 13)]) (g := (gName 13)) (tt := tYes) rfl sc_law.nd (pi_listK (K := K) rfl (pe_lst (pa_cons pe_int (pa_cons pe_int (pa_cons pe_int (pa_cons pe_int pa_nil)))))) (blkOk_by (by kernel_rfl)) (fun _ _ _ _ _ => (pg_name (i := 13) sc_law.nd rfl (Or.inl rfl))) (fun _ _ _ _ _ => pts_nil) (fun _ _ _ _ _ => (pe_callVK (P := P) (w := w) (K := K) (mg := mg) (base := base) rfl rfl rfl rfl rfl (k := 20) (i := 8) (hr.mono (by first | decide | omega)) passN rfl (by first | exact Or.inl rfl | exact Or.inr (Or.inl rfl) | exact Or.inr (Or.inr rfl)) (pa_cons pe_str (pa_cons (pv 13) pa_nil))))) (pe_op op_rep (pe_lst (pa_cons pe_non pa_nil)) pe_int) (nomark _)) (pw_or1 (pt_cmpR (op_neDK (K := K) rfl hr.units) (pv 6) (pe_lst (pa_cons pe_int (pa_cons pe_int pa_nil))) (nomark _)))))
      (pss_one (ps_ret pe_bl))
      pss_nil)))))))))))))))))))
      (pss_cons (ps_set (i := 16) sc_law.nd rfl (Or.inr rfl) (pe_callG (G_law_next T) (hr.mono (by first | decide | omega)) (by rfl) pass0 (pa_cons (pv 1) (pa_cons (pe_op op_pow pe_int pe_int) pa_nil))))
      (pss_one (ps_ret (pe_cmpR op_eq (pe_callXU ((G_law_kind T)).weak (hr.mono (by first | decide | omega)) (by rfl) passN sc_law.nd (fun _ _ _ => rfl) (pa_cons (pe_lam (Ts := Ts K) (nm := nm) (B.t_law) rfl (m_law K) (show nm 152 21 = Str.ofString "law.<locals>." ++ Str.ofString "<lambda>" by decide +kernel) (ndef_free (sc := defScope s_law) (fr := ["_law_far"]) (by decide +kernel)) rfl) pa_nil)) pe_str (nomark _))))))), ?_⟩
    simp only [upd_same, tCutE, tIfE, false_and, exists_false, false_or, or_false, tRet, tRetN, tAndV, tOrV, tNotV, tChain, rI, rI0, rU, tC, tCB, tCons, tNil, tVar, tOp, tUn, tTest, tB, tAnd, tOr, tNot, tIf, tIfS, tSeq, tAsg, tDrop, tNext, gName, gTup_ref, gCons_cons, gNil_nil, and_assoc, tYes, wipe, rEq, rNe, scal_ss, scal_ii, scal_bb, scal_ns, scal_sn, scal_nn, scal_in, scal_ni, tLc_eq, tFor_eq, iList, iTup, iStr, iRng1, iRng2, iZip, iEnum, gSub, tSl, rSetL_ref, rCat_ref, rRep_ref, rJoin_ref, rSlL_ref, rSlS_ref, rMulS_ref, rIxL_ref, rIxT_ref, rLenK_ref, rAll_ref, rIn_ref, tLst, tTup, tPar, tPar3, tAug, tPart, tNoPart, tCall, List.getElem?_cons_zero, List.getElem?_cons_succ, List.set_cons_zero, List.set_cons_succ, List.map_cons, List.map_nil, List.append_nil, List.nil_append, List.cons_append, Option.some.injEq, exists_eq_left', exists_eq_left, exists_eq_right, exists_eq_right', exists_eq', V.int.injEq, V.str.injEq, V.bl.injEq, V.ref.injEq, List.cons.injEq, tM0, tM1, rNewStrs, sgn_eq, split_dot, split_sp, split_nl, dot_len, sp_len, nl_len, cxOf_K, L2.start, List.length_cons, List.length_nil, List.replicate_succ, List.replicate_zero, Nat.reduceSub, Nat.zero_add, and_true, true_and, and_self, exists_and_left, exists_const, Bool.false_eq_true, if_false, if_true, ite_true, ite_false, reduceIte, decide_eq_true_eq, reduceCtorEq, Nat.reduceAdd, Nat.reduceLT, tMseq, tMret, tNdef1, tThru, tCallV, tCallVF, tCallVO, tListZip, tCallX, tCallXU, tCallV, tCallVS, tLam1, tLamD, tCallS, tCls, tClsD, cx_cells, cx_scope, cx_N, cx_prog, cx_w, cx_base, cx_mg, cx_qual]
    refine ⟨a, ns, 67, rfl, hS, hn, by decide, by decide, fun H1 h l s1 n1 n2 S1 => ?_⟩
    have Z1 : Sep K H1 [rSrc h l] := (sep_nil (hT.ext s1)).cons stb_src S1 fun b z => ⟨by
        obtain ⟨m, p, cs, e1, e2, _⟩ := S1
        rcases z with z | z
        · rw [z, e1]; simp
        · rw [z, e2]; simp, fun Q hQ => nomatch hQ⟩
    clear S1 n1 n2 s1 hT
    refine ⟨by decide, by decide, ?_⟩
    obtain ⟨Pt, hPt⟩ : ∃ Pt : Nat → L2.St → Hp → Prop, ∀ i σ H', Pt i σ H' ↔ ∃ x2 x3 x4 x5 x6 x7 x8 x9 x10 x11 x12 x13 x14 x15 x16, σ = [some (.ref a), some (.ref h), x2, x3, x4, x5, x6, x7, x8, x9, x10, x11, x12, x13, x14, x15, x16] ∧ Sep K H' [rSrc h l] := ⟨_, fun _ _ _ => Iff.rfl⟩
    refine forG walk_range Pt ((hPt _ _ _).mpr ⟨_, _, _, _, _, _, _, _, _, _, _, _, _, _, _, rfl, Z1⟩) (fun _ _ _ _ _ => trivial) (fun i x σ H2 H2' hi hP hy => ?_) (fun σ H2 hP => ?_)
    rotate_left
    · obtain ⟨x2, x3, x4, x5, x6, x7, x8, x9, x10, x11, x12, x13, x14, x15, x16, rfl, s2⟩ := (hPt _ _ _).mp hP
      clear Z1 hP
      simp only [upd_same, tCutE, tIfE, false_and, exists_false, false_or, or_false, tRet, tRetN, tAndV, tOrV, tNotV, tChain, rI, rI0, rU, tC, tCB, tCons, tNil, tVar, tOp, tUn, tTest, tB, tAnd, tOr, tNot, tIf, tIfS, tSeq, tAsg, tDrop, tNext, gName, gTup_ref, gCons_cons, gNil_nil, and_assoc, tYes, wipe, rEq, rNe, scal_ss, scal_ii, scal_bb, scal_ns, scal_sn, scal_nn, scal_in, scal_ni, tLc_eq, tFor_eq, iList, iTup, iStr, iRng1, iRng2, iZip, iEnum, gSub, tSl, rSetL_ref, rCat_ref, rRep_ref, rJoin_ref, rSlL_ref, rSlS_ref, rMulS_ref, rIxL_ref, rIxT_ref, rLenK_ref, rAll_ref, rIn_ref, tLst, tTup, tPar, tPar3, tAug, tPart, tNoPart, tCall, List.getElem?_cons_zero, List.getElem?_cons_succ, List.set_cons_zero, List.set_cons_succ, List.map_cons, List.map_nil, List.append_nil, List.nil_append, List.cons_append, Option.some.injEq, exists_eq_left', exists_eq_left, exists_eq_right, exists_eq_right', exists_eq', V.int.injEq, V.str.injEq, V.bl.injEq, V.ref.injEq, List.cons.injEq, tM0, tM1, rNewStrs, sgn_eq, split_dot, split_sp, split_nl, dot_len, sp_len, nl_len, cxOf_K, L2.start, List.length_cons, List.length_nil, List.replicate_succ, List.replicate_zero, Nat.reduceSub, Nat.zero_add, and_true, true_and, and_self, exists_and_left, exists_const, Bool.false_eq_true, if_false, if_true, ite_true, ite_false, reduceIte, decide_eq_true_eq, reduceCtorEq, Nat.reduceAdd, Nat.reduceLT, tMseq, tMret, tNdef1, tThru, tCallV, tCallVF, tCallVO, tListZip, tCallX, tCallXU, tCallV, tCallVS, tLam1, tLamD, tCallS, tCls, tClsD, cx_cells, cx_scope, cx_N, cx_prog, cx_w, cx_base, cx_mg, cx_qual]
      refine ⟨⟨by decide, by decide, by decide⟩, h, l, 1000000, rfl, s2.at_ 0 rfl, by decide, by decide, fun H3 far xt3 S3 far0 far1 => ?_⟩
      have s3 := s2.draw 0 rfl xt3 S3
      have T3 := s3.tab
      simp only [upd_same, tCutE, tIfE, false_and, exists_false, false_or, or_false, tRet, tRetN, tAndV, tOrV, tNotV, tChain, rI, rI0, rU, tC, tCB, tCons, tNil, tVar, tOp, tUn, tTest, tB, tAnd, tOr, tNot, tIf, tIfS, tSeq, tAsg, tDrop, tNext, gName, gTup_ref, gCons_cons, gNil_nil, and_assoc, tYes, wipe, rEq, rNe, scal_ss, scal_ii, scal_bb, scal_ns, scal_sn, scal_nn, scal_in, scal_ni, tLc_eq, tFor_eq, iList, iTup, iStr, iRng1, iRng2, iZip, iEnum, gSub, tSl, rSetL_ref, rCat_ref, rRep_ref, rJoin_ref, rSlL_ref, rSlS_ref, rMulS_ref, rIxL_ref, rIxT_ref, rLenK_ref, rAll_ref, rIn_ref, tLst, tTup, tPar, tPar3, tAug, tPart, tNoPart, tCall, List.getElem?_cons_zero, List.getElem?_cons_succ, List.set_cons_zero, List.set_cons_succ, List.map_cons, List.map_nil, List.append_nil, List.nil_append, List.cons_append, Option.some.injEq, exists_eq_left', exists_eq_left, exists_eq_right, exists_eq_right', exists_eq', V.int.injEq, V.str.injEq, V.bl.injEq, V.ref.injEq, List.cons.injEq, tM0, tM1, rNewStrs, sgn_eq, split_dot, split_sp, split_nl, dot_len, sp_len, nl_len, cxOf_K, L2.start, List.length_cons, List.length_nil, List.replicate_succ, List.replicate_zero, Nat.reduceSub, Nat.zero_add, and_true, true_and, and_self, exists_and_left, exists_const, Bool.false_eq_true, if_false, if_true, ite_true, ite_false, reduceIte, decide_eq_true_eq, reduceCtorEq, Nat.reduceAdd, Nat.reduceLT, tMseq, tMret, tNdef1, tThru, tCallV, tCallVF, tCallVO, tListZip, tCallX, tCallXU, tCallV, tCallVS, tLam1, tLamD, tCallS, tCls, tClsD, cx_cells, cx_scope, cx_N, cx_prog, cx_w, cx_base, cx_mg, cx_qual]
      refine ⟨T3, fun f c H4 e4 n4 T4 f0 f1 c1 C4 obs => ?_⟩
      refine kind_lamG (fr := ["_law_far"]) (dvs := []) (ws := [.int far]) (spN := spK17 K) (wd := "count") (R := fun _ => True) C4 f1 c1
        (act_lam (N := ["_law_far"]) (ps := []) (nscope_by (by kernel_rfl)) rfl (fun ws vs H Q E h => ?_) (fun pm ctv us hl => ?_) (fun A outer s H vs ws Q E hr hl h => ?_))
        [16] rfl (by kernel_rfl) (nscope_by (N := ["_law_far"]) (ps := []) (by kernel_rfl)) (by rfl) (by rfl) (by rfl) (fun Qf Ef _ g2 => ⟨far, rfl, far0, rfl, T4, fun H' w => g2 "BadCount" 3 none rfl rfl (ref11_of T.e_rC) H' (fun dd e => by cases e) trivial⟩) (fun H5 H6 s5 o5 => ?_)
      · obtain ⟨_, _, _, rfl, _⟩ := h; rfl
      · match us, hl with
        | [], _ => rfl
      · obtain ⟨far, rfl, far0, rfl, hT, h⟩ := h
        refine ⟨_, (pe_callG (G_gathered T B) (hr.mono (by first | decide | omega)) (by rfl) (passes_call (takes_of rfl rfl rfl rfl) (fun _ _ _ _ h => h)) (pa_cons (pe_callG (G_law_worker T B) (hr.mono (by first | decide | omega)) (by rfl) pass0 (pa_cons (pe_lst pa_nil) (pa_cons pe_int pa_nil))) (pa_cons (pe_op op_sub pe_int (pv 0)) pa_nil))), ?_⟩
        simp only [startF, upd_same, tCutE, tIfE, false_and, exists_false, false_or, or_false, tRet, tRetN, tAndV, tOrV, tNotV, tChain, rI, rI0, rU, tC, tCB, tCons, tNil, tVar, tOp, tUn, tTest, tB, tAnd, tOr, tNot, tIf, tIfS, tSeq, tAsg, tDrop, tNext, gName, gTup_ref, gCons_cons, gNil_nil, and_assoc, tYes, wipe, rEq, rNe, scal_ss, scal_ii, scal_bb, scal_ns, scal_sn, scal_nn, scal_in, scal_ni, tLc_eq, tFor_eq, iList, iTup, iStr, iRng1, iRng2, iZip, iEnum, gSub, tSl, rSetL_ref, rCat_ref, rRep_ref, rJoin_ref, rSlL_ref, rSlS_ref, rMulS_ref, rIxL_ref, rIxT_ref, rLenK_ref, rAll_ref, rIn_ref, tLst, tTup, tPar, tPar3, tAug, tPart, tNoPart, tCall, List.getElem?_cons_zero, List.getElem?_cons_succ, List.set_cons_zero, List.set_cons_succ, List.map_cons, List.map_nil, List.append_nil, List.nil_append, List.cons_append, Option.some.injEq, exists_eq_left', exists_eq_left, exists_eq_right, exists_eq_right', exists_eq', V.int.injEq, V.str.injEq, V.bl.injEq, V.ref.injEq, List.cons.injEq, tM0, tM1, rNewStrs, sgn_eq, split_dot, split_sp, split_nl, dot_len, sp_len, nl_len, cxOf_K, L2.start, List.length_cons, List.length_nil, List.replicate_succ, List.replicate_zero, Nat.reduceSub, Nat.zero_add, and_true, true_and, and_self, exists_and_left, exists_const, Bool.false_eq_true, if_false, if_true, ite_true, ite_false, reduceIte, decide_eq_true_eq, reduceCtorEq, Nat.reduceAdd, Nat.reduceLT, tMseq, tMret, tNdef1, tThru, tCallV, tCallVF, tCallVO, tListZip, tCallX, tCallXU, tCallV, tCallVS, tLam1, tLamD, tCallS, tCls, tClsD, cx_cells, cx_scope, cx_N, cx_prog, cx_w, cx_base, cx_mg, cx_qual]
        refine ⟨by decide, fun p np => ?_⟩
        have t1 : Same H (upd H p (.lst [])) := same_put (Same.refl _) np
        exact ⟨p, .int 1, rfl, hT.ext t1, fun H' wf w1 nwf cw => ⟨wf, _, rfl, w1.tab, fun _ => h _ ((Fw.of_same t1 hT).trans w1), fun z => absurd z (by omega)⟩⟩
      · exact fun _ => ⟨rfl, by rw [decide_eq_true rfl]; exact q _⟩
    · obtain ⟨x2, x3, x4, x5, x6, x7, x8, x9, x10, x11, x12, x13, x14, x15, x16, rfl, s2⟩ := (hPt _ _ _).mp hP
      obtain ⟨rfl, rfl⟩ := hy
      clear Z1 hP
      simp only [upd_same, tCutE, tIfE, false_and, exists_false, false_or, or_false, tRet, tRetN, tAndV, tOrV, tNotV, tChain, rI, rI0, rU, tC, tCB, tCons, tNil, tVar, tOp, tUn, tTest, tB, tAnd, tOr, tNot, tIf, tIfS, tSeq, tAsg, tDrop, tNext, gName, gTup_ref, gCons_cons, gNil_nil, and_assoc, tYes, wipe, rEq, rNe, scal_ss, scal_ii, scal_bb, scal_ns, scal_sn, scal_nn, scal_in, scal_ni, tLc_eq, tFor_eq, iList, iTup, iStr, iRng1, iRng2, iZip, iEnum, gSub, tSl, rSetL_ref, rCat_ref, rRep_ref, rJoin_ref, rSlL_ref, rSlS_ref, rMulS_ref, rIxL_ref, rIxT_ref, rLenK_ref, rAll_ref, rIn_ref, tLst, tTup, tPar, tPar3, tAug, tPart, tNoPart, tCall, List.getElem?_cons_zero, List.getElem?_cons_succ, List.set_cons_zero, List.set_cons_succ, List.map_cons, List.map_nil, List.append_nil, List.nil_append, List.cons_append, Option.some.injEq, exists_eq_left', exists_eq_left, exists_eq_right, exists_eq_right', exists_eq', V.int.injEq, V.str.injEq, V.bl.injEq, V.ref.injEq, List.cons.injEq, tM0, tM1, rNewStrs, sgn_eq, split_dot, split_sp, split_nl, dot_len, sp_len, nl_len, cxOf_K, L2.start, List.length_cons, List.length_nil, List.replicate_succ, List.replicate_zero, Nat.reduceSub, Nat.zero_add, and_true, true_and, and_self, exists_and_left, exists_const, Bool.false_eq_true, if_false, if_true, ite_true, ite_false, reduceIte, decide_eq_true_eq, reduceCtorEq, Nat.reduceAdd, Nat.reduceLT, tMseq, tMret, tNdef1, tThru, tCallV, tCallVF, tCallVO, tListZip, tCallX, tCallXU, tCallV, tCallVS, tLam1, tLamD, tCallS, tCls, tClsD, cx_cells, cx_scope, cx_N, cx_prog, cx_w, cx_base, cx_mg, cx_qual]
      obtain ⟨R1, hR1⟩ : ∃ R : L2.St → Hp → Prop, ∀ σ H', R σ H' ↔ ∃ D ts ls x4, σ = [some (.ref a), some (.ref h), some (.int (0 + (i : Int))), some (.ref D), x4, x5, x6, x7, x8, x9, x10, x11, x12, x13, x14, x15, x16] ∧ Sep K H' [rSrc h l, rLst D (ts.map V.ref), rRows ts ls] ∧ ls.length < 16 ∧ ∀ x ∈ ls, Row17 x := ⟨_, fun _ _ => Iff.rfl⟩
      refine ⟨R1, ?_, fun σ H4 h4 => ?_⟩
      · refine ⟨h, l, 16, rfl, s2.at_ 0 rfl, by decide, by decide, fun H3 n xt3 S3 n0 n1 => ?_⟩
        have s3 := s2.draw 0 rfl xt3 S3
        clear xt3 S3 s2
        simp only [upd_same, tCutE, tIfE, false_and, exists_false, false_or, or_false, tRet, tRetN, tAndV, tOrV, tNotV, tChain, rI, rI0, rU, tC, tCB, tCons, tNil, tVar, tOp, tUn, tTest, tB, tAnd, tOr, tNot, tIf, tIfS, tSeq, tAsg, tDrop, tNext, gName, gTup_ref, gCons_cons, gNil_nil, and_assoc, tYes, wipe, rEq, rNe, scal_ss, scal_ii, scal_bb, scal_ns, scal_sn, scal_nn, scal_in, scal_ni, tLc_eq, tFor_eq, iList, iTup, iStr, iRng1, iRng2, iZip, iEnum, gSub, tSl, rSetL_ref, rCat_ref, rRep_ref, rJoin_ref, rSlL_ref, rSlS_ref, rMulS_ref, rIxL_ref, rIxT_ref, rLenK_ref, rAll_ref, rIn_ref, tLst, tTup, tPar, tPar3, tAug, tPart, tNoPart, tCall, List.getElem?_cons_zero, List.getElem?_cons_succ, List.set_cons_zero, List.set_cons_succ, List.map_cons, List.map_nil, List.append_nil, List.nil_append, List.cons_append, Option.some.injEq, exists_eq_left', exists_eq_left, exists_eq_right, exists_eq_right', exists_eq', V.int.injEq, V.str.injEq, V.bl.injEq, V.ref.injEq, List.cons.injEq, tM0, tM1, rNewStrs, sgn_eq, split_dot, split_sp, split_nl, dot_len, sp_len, nl_len, cxOf_K, L2.start, List.length_cons, List.length_nil, List.replicate_succ, List.replicate_zero, Nat.reduceSub, Nat.zero_add, and_true, true_and, and_self, exists_and_left, exists_const, Bool.false_eq_true, if_false, if_true, ite_true, ite_false, reduceIte, decide_eq_true_eq, reduceCtorEq, Nat.reduceAdd, Nat.reduceLT, tMseq, tMret, tNdef1, tThru, tCallV, tCallVF, tCallVO, tListZip, tCallX, tCallXU, tCallV, tCallVS, tLam1, tLamD, tCallS, tCls, tClsD, cx_cells, cx_scope, cx_N, cx_prog, cx_w, cx_base, cx_mg, cx_qual]
        refine ⟨by omega, by omega, ?_⟩
        refine lc_sep walk_range (fun i acc Rs => ∃ ts ls, acc = ts.map V.ref ∧ ls.length = i ∧ Rs = [rSrc h l, rRows ts ls] ∧ ∀ x ∈ ls, Row17 x) (s3.newI (A := fun H => TupsAt H [] (([] : List R17).map rowV)) (fun S H H' t w => t.mono fun t x e => w.tup e) trivial) (by omega) ⟨[], [], rfl, rfl, rfl, by simp⟩ (fun _ _ _ _ _ _ _ => trivial) (fun D j x H5 H6 acc Rs R hj hJ s5 hy r => ?_) (fun D acc Rs H5 hl hJ s5 => ?_)
        · obtain ⟨ts, ls, rfl, lj, rfl, hls⟩ := hJ
          obtain ⟨rfl, rfl⟩ := hy
          simp only [upd_same, tCutE, tIfE, false_and, exists_false, false_or, or_false, tRet, tRetN, tAndV, tOrV, tNotV, tChain, rI, rI0, rU, tC, tCB, tCons, tNil, tVar, tOp, tUn, tTest, tB, tAnd, tOr, tNot, tIf, tIfS, tSeq, tAsg, tDrop, tNext, gName, gTup_ref, gCons_cons, gNil_nil, and_assoc, tYes, wipe, rEq, rNe, scal_ss, scal_ii, scal_bb, scal_ns, scal_sn, scal_nn, scal_in, scal_ni, tLc_eq, tFor_eq, iList, iTup, iStr, iRng1, iRng2, iZip, iEnum, gSub, tSl, rSetL_ref, rCat_ref, rRep_ref, rJoin_ref, rSlL_ref, rSlS_ref, rMulS_ref, rIxL_ref, rIxT_ref, rLenK_ref, rAll_ref, rIn_ref, tLst, tTup, tPar, tPar3, tAug, tPart, tNoPart, tCall, List.getElem?_cons_zero, List.getElem?_cons_succ, List.set_cons_zero, List.set_cons_succ, List.map_cons, List.map_nil, List.append_nil, List.nil_append, List.cons_append, Option.some.injEq, exists_eq_left', exists_eq_left, exists_eq_right, exists_eq_right', exists_eq', V.int.injEq, V.str.injEq, V.bl.injEq, V.ref.injEq, List.cons.injEq, tM0, tM1, rNewStrs, sgn_eq, split_dot, split_sp, split_nl, dot_len, sp_len, nl_len, cxOf_K, L2.start, List.length_cons, List.length_nil, List.replicate_succ, List.replicate_zero, Nat.reduceSub, Nat.zero_add, and_true, true_and, and_self, exists_and_left, exists_const, Bool.false_eq_true, if_false, if_true, ite_true, ite_false, reduceIte, decide_eq_true_eq, reduceCtorEq, Nat.reduceAdd, Nat.reduceLT, tMseq, tMret, tNdef1, tThru, tCallV, tCallVF, tCallVO, tListZip, tCallX, tCallXU, tCallV, tCallVS, tLam1, tLamD, tCallS, tCls, tClsD, cx_cells, cx_scope, cx_N, cx_prog, cx_w, cx_base, cx_mg, cx_qual]
          refine ⟨by decide, fun p np => ?_⟩
          obtain ⟨sp1, fp1⟩ := newF (H := H6) (o := .lst [V.str (Str.ofString "a"), V.str (Str.ofString "b")]) rfl np
          generalize upd H6 p (.lst [V.str (Str.ofString "a"), V.str (Str.ofString "b")]) = H7 at sp1 fp1 ⊢
          have s6 := s5.newL sp1 np fp1
          refine ⟨h, l, 2, rfl, s6.at_ 1 rfl, by decide, by decide, fun H8 r7 x7 S7 r0 r1 => ?_⟩
          have s7 := s6.draw 1 rfl x7 S7
          obtain ⟨z, hz, hat⟩ : ∃ z : Str, (z = "a" ∨ z = "b") ∧ atI [V.str (Str.ofString "a"), V.str (Str.ofString "b")] r7 = some (.str z) := by
            have : r7 = 0 ∨ r7 = 1 := by omega
            rcases this with rfl | rfl
            · exact ⟨_, .inl rfl, rfl⟩
            · exact ⟨_, .inr rfl, rfl⟩
          refine ⟨p, _, r7, _, rfl, rfl, .of (s7.lst 3 rfl), hat, ?_⟩
          refine ⟨h, l, 4, rfl, s7.at_ 1 rfl, by decide, by decide, fun H9 r8 x8 S8 q0 q1 => ?_⟩
          have s8 := s7.draw 1 rfl x8 S8
          refine ⟨by decide, fun t nt => ?_⟩
          have s9 := s8.same (same_put (o := .tup [.str z, .int r8]) (Same.refl _) nt)
          refine r _ _ [rSrc h l, rRows (ts ++ [t]) (ls ++ [(z, r8)])] ((s9.take 2).newI rRows_ok ?_) ⟨_, _, by simp, by simp [lj], rfl, fun x hx => ?_⟩
          · rw [List.map_append]
            exact TupsAt.snoc upd_same (s9.at_ 2 rfl)
          · rcases List.mem_append.mp hx with hx | hx
            · exact hls x hx
            · rw [List.mem_singleton.mp hx]; exact ⟨hz, q0, q1⟩
        · obtain ⟨ts, ls, rfl, lj, rfl, hls⟩ := hJ
          exact (hR1 _ _).mpr ⟨D, ts, ls, _, rfl, s5.perm (List.Perm.swap ..), by omega, hls⟩
      · obtain ⟨D, ts, ls, x4, rfl, s4, hl, hls⟩ := (hR1 _ _).mp h4
        clear h4 hR1 s2
        simp only [upd_same, tCutE, tIfE, false_and, exists_false, false_or, or_false, tRet, tRetN, tAndV, tOrV, tNotV, tChain, rI, rI0, rU, tC, tCB, tCons, tNil, tVar, tOp, tUn, tTest, tB, tAnd, tOr, tNot, tIf, tIfS, tSeq, tAsg, tDrop, tNext, gName, gTup_ref, gCons_cons, gNil_nil, and_assoc, tYes, wipe, rEq, rNe, scal_ss, scal_ii, scal_bb, scal_ns, scal_sn, scal_nn, scal_in, scal_ni, tLc_eq, tFor_eq, iList, iTup, iStr, iRng1, iRng2, iZip, iEnum, gSub, tSl, rSetL_ref, rCat_ref, rRep_ref, rJoin_ref, rSlL_ref, rSlS_ref, rMulS_ref, rIxL_ref, rIxT_ref, rLenK_ref, rAll_ref, rIn_ref, tLst, tTup, tPar, tPar3, tAug, tPart, tNoPart, tCall, List.getElem?_cons_zero, List.getElem?_cons_succ, List.set_cons_zero, List.set_cons_succ, List.map_cons, List.map_nil, List.append_nil, List.nil_append, List.cons_append, Option.some.injEq, exists_eq_left', exists_eq_left, exists_eq_right, exists_eq_right', exists_eq', V.int.injEq, V.str.injEq, V.bl.injEq, V.ref.injEq, List.cons.injEq, tM0, tM1, rNewStrs, sgn_eq, split_dot, split_sp, split_nl, dot_len, sp_len, nl_len, cxOf_K, L2.start, List.length_cons, List.length_nil, List.replicate_succ, List.replicate_zero, Nat.reduceSub, Nat.zero_add, and_true, true_and, and_self, exists_and_left, exists_const, Bool.false_eq_true, if_false, if_true, ite_true, ite_false, reduceIte, decide_eq_true_eq, reduceCtorEq, Nat.reduceAdd, Nat.reduceLT, tMseq, tMret, tNdef1, tThru, tCallV, tCallVF, tCallVO, tListZip, tCallX, tCallXU, tCallV, tCallVS, tLam1, tLamD, tCallS, tCls, tClsD, cx_cells, cx_scope, cx_N, cx_prog, cx_w, cx_base, cx_mg, cx_qual]
        refine ⟨h, l, 5, rfl, s4.at_ 0 rfl, by decide, by decide, fun H5 w5 x5 S5 w0 w1 => ?_⟩
        have s5 := s4.draw 0 rfl x5 S5
        clear x5 S5 s4
        refine ⟨_, rfl, by decide, fun lg nlg => ⟨by decide, fun du ndu => ?_⟩⟩
        obtain ⟨W, hW, W1, W5⟩ : ∃ W : Nat, 1 + w5 = (W : Int) ∧ 1 ≤ W ∧ W ≤ 5 := ⟨(1 + w5).toNat, by omega, by omega, by omega⟩
        have s6 := s5.lgNew (same_put (Same.refl _) nlg) nlg (H' := upd H5 lg (.lst [])) upd_same
        have s7 := s6.lgNew (same_put (Same.refl _) ndu) ndu (H' := upd (upd H5 lg (.lst [])) du (.lst [])) upd_same
        generalize upd (upd H5 lg (.lst [])) du (.lst []) = H6 at s7 ⊢
        clear s5 s6 nlg ndu
        refine ⟨lg, .int 1, rfl, s7.tab, fun H7 wf w7 nwf cwf => ?_⟩
        have s8 := s7.fno w7
        refine ⟨wf, _, rfl, s8.tab, fun z => absurd z (by omega), fun _ H8 g so w8 ng nso hso cg => ?_⟩
        have s9 : Sep K H8 ([rSrc h l, rLst D (ts.map V.ref), rRows ts ls, rLg lg [], rLg du []] ++ [rLst so []]) := s8.new w8 stb_lst hso fun b z => by
          have z : b = so := z
          subst z
          exact ⟨nso, by rw [hso]; simp⟩
        have s10 := s9.newI (A := fun H => CloAt H wf nfWrk ["_law_log", "_law_mark"] [.ref lg, .int 1] ∧ CloAt H g nfGath ["many", "some", "work"] [.int (1 + w5), .ref so, .ref wf]) (fun S H H' h w => ⟨h.1.fw w, h.2.fw w⟩) ⟨cwf.fw w8, cg⟩
        clear s7 s8 s9 w7 w8 nwf ng nso hso cwf cg
        simp only [upd_same, tCutE, tIfE, false_and, exists_false, false_or, or_false, tRet, tRetN, tAndV, tOrV, tNotV, tChain, rI, rI0, rU, tC, tCB, tCons, tNil, tVar, tOp, tUn, tTest, tB, tAnd, tOr, tNot, tIf, tIfS, tSeq, tAsg, tDrop, tNext, gName, gTup_ref, gCons_cons, gNil_nil, and_assoc, tYes, wipe, rEq, rNe, scal_ss, scal_ii, scal_bb, scal_ns, scal_sn, scal_nn, scal_in, scal_ni, tLc_eq, tFor_eq, iList, iTup, iStr, iRng1, iRng2, iZip, iEnum, gSub, tSl, rSetL_ref, rCat_ref, rRep_ref, rJoin_ref, rSlL_ref, rSlS_ref, rMulS_ref, rIxL_ref, rIxT_ref, rLenK_ref, rAll_ref, rIn_ref, tLst, tTup, tPar, tPar3, tAug, tPart, tNoPart, tCall, List.getElem?_cons_zero, List.getElem?_cons_succ, List.set_cons_zero, List.set_cons_succ, List.map_cons, List.map_nil, List.append_nil, List.nil_append, List.cons_append, Option.some.injEq, exists_eq_left', exists_eq_left, exists_eq_right, exists_eq_right', exists_eq', V.int.injEq, V.str.injEq, V.bl.injEq, V.ref.injEq, List.cons.injEq, tM0, tM1, rNewStrs, sgn_eq, split_dot, split_sp, split_nl, dot_len, sp_len, nl_len, cxOf_K, L2.start, List.length_cons, List.length_nil, List.replicate_succ, List.replicate_zero, Nat.reduceSub, Nat.zero_add, and_true, true_and, and_self, exists_and_left, exists_const, Bool.false_eq_true, if_false, if_true, ite_true, ite_false, reduceIte, decide_eq_true_eq, reduceCtorEq, Nat.reduceAdd, Nat.reduceLT, tMseq, tMret, tNdef1, tThru, tCallV, tCallVF, tCallVO, tListZip, tCallX, tCallXU, tCallV, tCallVS, tLam1, tLamD, tCallS, tCls, tClsD, cx_cells, cx_scope, cx_N, cx_prog, cx_w, cx_base, cx_mg, cx_qual]
        obtain ⟨R2, hR2⟩ : ∃ R : L2.St → Hp → Prop, ∀ σ H', R σ H' ↔ ∃ x4 x5 x6 x7 x8 x9 x10 x11 x12 x13 x14 x15 x16, σ = [some (.ref a), some (.ref h), some (.int (0 + (i : Int))), some (.ref D), x4, x5, x6, x7, x8, x9, x10, x11, x12, x13, x14, x15, x16] ∧ Sep K H' [rSrc h l, rLst D (ts.map V.ref), rRows ts ls] := ⟨_, fun _ _ => Iff.rfl⟩
        have tl : ts.length = ls.length := by
          have := (s10.at_ 2 rfl : TupsAt _ _ _).len
          rwa [List.length_map] at this
        have rowAt : ∀ {Hx : Hp}, TupsAt Hx ts (ls.map rowV) → ∀ {k : Nat} {x : R17}, ls[k]? = some x → ∃ t, (ts.map V.ref)[k]? = some (.ref t) ∧ Hx t = some (.tup [.str x.1, .int x.2]) := fun {Hx} ht {k x} hx => by
          have hk := (List.getElem?_eq_some_iff.mp hx).1
          have e : ts[k]? = some (ts[k]'(by omega)) := List.getElem?_eq_getElem (by omega)
          obtain ⟨y, e1, e2⟩ := ht.get e
          rw [List.getElem?_map, hx] at e1
          cases e1
          exact ⟨_, by rw [List.getElem?_map, e]; rfl, e2⟩
        refine ⟨R2, ?_, fun σ H4 h4 => ?_⟩
        · refine ⟨_, .inl (.of (s10.lst 1 rfl)), by rw [List.length_map, tl]; omega, by rw [List.length_map, tl]; omega, ?_⟩
          rw [List.length_map, tl, Int.toNat_natCast]
          obtain ⟨P1, hP1⟩ : ∃ P1 : Nat → L2.St → Hp → Prop, ∀ k σ H', P1 k σ H' ↔ ∃ du qs qs' x4 x9 x10 x11, σ = [some (.ref a), some (.ref h), some (.int (0 + (i : Int))), some (.ref D), x4, some (.int (1 + w5)), some (.ref lg), some (.ref du), some (.ref g), x9, x10, x11, x12, x13, x14, x15, x16] ∧
            Sep K H' [rSrc h l, rLst D (ts.map V.ref), rRows ts ls, rLg lg qs, rLg du qs', rLst so ((soM W ls k).map V.int), rImm fun H => CloAt H wf nfWrk ["_law_log", "_law_mark"] [.ref lg, .int 1] ∧ CloAt H g nfGath ["many", "some", "work"] [.int (1 + w5), .ref so, .ref wf]] ∧ qs.map sQ = qs'.map sQ ∧ qs.length ≤ k ∧ ∀ q ∈ qs, q.2.2.length ≤ 16 := ⟨_, fun _ _ _ => Iff.rfl⟩
          refine forG walk_range P1 ((hP1 _ _ _).mpr ⟨du, [], [], _, _, _, _, rfl, (by rw [show soM W ls 0 = [] by simp [soM]]; exact s10), rfl, Nat.le_refl _, by simp⟩) (fun _ _ _ _ _ => trivial) (fun k x σ H9 H9' hk hP hy => ?_) (fun σ H9 hP => ?_)
          · obtain ⟨du, qs, qs', x4, x9, x10, x11, rfl, s11, eq, hq, hqz⟩ := (hP1 _ _ _).mp hP
            obtain ⟨rfl, rfl⟩ := hy
            clear hP s10
            obtain ⟨⟨ln, th⟩, hx⟩ : ∃ x, ls[k]? = some x := ⟨ls[k], List.getElem?_eq_getElem hk⟩
            have el : (((0 : Int) + (k : Int) + 1) % (1 + w5) = 0) = (k % W + 1 = W) := by
              rw [hW, show (0 : Int) + (k : Int) + 1 = ((k + 1 : Nat) : Int) by omega, ← Int.natCast_emod, mod_last W1]
              split
              · next e => simp [e]
              · next e => simp [e]; omega
            simp only [upd_same, tCutE, tIfE, false_and, exists_false, false_or, or_false, tRet, tRetN, tAndV, tOrV, tNotV, tChain, rI, rI0, rU, tC, tCB, tCons, tNil, tVar, tOp, tUn, tTest, tB, tAnd, tOr, tNot, tIf, tIfS, tSeq, tAsg, tDrop, tNext, gName, gTup_ref, gCons_cons, gNil_nil, and_assoc, tYes, wipe, rEq, rNe, scal_ss, scal_ii, scal_bb, scal_ns, scal_sn, scal_nn, scal_in, scal_ni, tLc_eq, tFor_eq, iList, iTup, iStr, iRng1, iRng2, iZip, iEnum, gSub, tSl, rSetL_ref, rCat_ref, rRep_ref, rJoin_ref, rSlL_ref, rSlS_ref, rMulS_ref, rIxL_ref, rIxT_ref, rLenK_ref, rAll_ref, rIn_ref, tLst, tTup, tPar, tPar3, tAug, tPart, tNoPart, tCall, List.getElem?_cons_zero, List.getElem?_cons_succ, List.set_cons_zero, List.set_cons_succ, List.map_cons, List.map_nil, List.append_nil, List.nil_append, List.cons_append, Option.some.injEq, exists_eq_left', exists_eq_left, exists_eq_right, exists_eq_right', exists_eq', V.int.injEq, V.str.injEq, V.bl.injEq, V.ref.injEq, List.cons.injEq, tM0, tM1, rNewStrs, sgn_eq, split_dot, split_sp, split_nl, dot_len, sp_len, nl_len, cxOf_K, L2.start, List.length_cons, List.length_nil, List.replicate_succ, List.replicate_zero, Nat.reduceSub, Nat.zero_add, and_true, true_and, and_self, exists_and_left, exists_const, Bool.false_eq_true, if_false, if_true, ite_true, ite_false, reduceIte, decide_eq_true_eq, reduceCtorEq, Nat.reduceAdd, Nat.reduceLT, tMseq, tMret, tNdef1, tThru, tCallV, tCallVF, tCallVO, tListZip, tCallX, tCallXU, tCallV, tCallVS, tLam1, tLamD, tCallS, tCls, tClsD, cx_cells, cx_scope, cx_N, cx_prog, cx_w, cx_base, cx_mg, cx_qual]
            have hD := s11.lst 1 rfl
            have hT' : TupsAt H9' ts (ls.map rowV) := s11.at_ 2 rfl
            obtain ⟨t, hti, htup⟩ := rowAt hT' hx
            refine ⟨by omega, _, .of hD, _, by rw [Int.zero_add]; exact atI_nat hti, ⟨t, _, 0, _, rfl, rfl, .of htup, rfl, ?_⟩⟩
            refine ⟨_, .of hD, fun p1 np1 => ?_⟩
            rw [cutV_map]
            obtain ⟨A0, hA0⟩ : ∃ A0, A0 = HT.sIx ts.length 0 (some ((0 : Int) + (k : Int) + 1 - (1 + w5))) := ⟨_, rfl⟩
            obtain ⟨B0, hB0⟩ : ∃ B0, B0 = HT.sIx ts.length ts.length (some ((0 : Int) + (k : Int) + 1)) - A0 := ⟨_, rfl⟩
            rw [← hA0, ← hB0]
            obtain ⟨sp1, fp1⟩ := newF (H := H9') (o := .lst (((ts.drop A0).take B0).map V.ref)) rfl np1
            generalize upd H9' p1 (.lst (((ts.drop A0).take B0).map V.ref)) = Ha at sp1 fp1 ⊢
            have hTs : TupsAt Ha ((ts.drop A0).take B0) (((ls.drop A0).take B0).map rowV) := by
              rw [List.map_take, List.map_drop]
              exact (tups_take _ (tups_drop _ hT')).mono fun t x e => sp1 _ _ e
            have hlz : ((ts.drop A0).take B0).length = ((ls.drop A0).take B0).length := by rw [List.length_take, List.length_take, List.length_drop, List.length_drop, tl]
            refine ⟨⟨_, .of fp1⟩, ?_⟩
            refine lc_map (((ts.drop A0).take B0).zip ((ls.drop A0).take B0)) (fun y => V.int y.2.2) (walk_tups hlz) (by rw [List.length_zip, List.length_take, List.length_take, List.length_drop, List.length_drop]; omega) (fun H s => .of (s _ _ fp1)) (fun j y x Hb Hc R hy sb hyy r => ?_) (fun cp Hb ncp sb hcp => ?_)
            · obtain ⟨rfl, y', e1, rfl⟩ := hyy
              rw [hy] at e1
              cases e1
              have hz := (TupsAt.zat hTs hy).1
              simp only [tCutE, tIfE, false_and, exists_false, false_or, or_false, tRet, tRetN, tAndV, tOrV, tNotV, tChain, rI, rI0, rU, tC, tCB, tCons, tNil, tVar, tOp, tUn, tTest, tB, tAnd, tOr, tNot, tIf, tIfS, tSeq, tAsg, tDrop, tNext, gName, gTup_ref, gCons_cons, gNil_nil, and_assoc, tYes, wipe, rEq, rNe, scal_ss, scal_ii, scal_bb, scal_ns, scal_sn, scal_nn, scal_in, scal_ni, tLc_eq, tFor_eq, iList, iTup, iStr, iRng1, iRng2, iZip, iEnum, gSub, tSl, rSetL_ref, rCat_ref, rRep_ref, rJoin_ref, rSlL_ref, rSlS_ref, rMulS_ref, rIxL_ref, rIxT_ref, rLenK_ref, rAll_ref, rIn_ref, tLst, tTup, tPar, tPar3, tAug, tPart, tNoPart, tCall, List.getElem?_cons_zero, List.getElem?_cons_succ, List.set_cons_zero, List.set_cons_succ, List.map_cons, List.map_nil, List.append_nil, List.nil_append, List.cons_append, Option.some.injEq, exists_eq_left', exists_eq_left, exists_eq_right, exists_eq_right', exists_eq', V.int.injEq, V.str.injEq, V.bl.injEq, V.ref.injEq, List.cons.injEq, tM0, tM1, rNewStrs, sgn_eq, split_dot, split_sp, split_nl, dot_len, sp_len, nl_len, cxOf_K, L2.start, List.length_cons, List.length_nil, List.replicate_succ, List.replicate_zero, Nat.reduceSub, Nat.zero_add, and_true, true_and, and_self, exists_and_left, exists_const, Bool.false_eq_true, if_false, if_true, ite_true, ite_false, reduceIte, decide_eq_true_eq, reduceCtorEq, Nat.reduceAdd, Nat.reduceLT, tMseq, tMret, tNdef1, tThru, tCallV, tCallVF, tCallVO, tListZip, tCallX, tCallXU, tCallV, tCallVS, tLam1, tLamD, tCallS, tCls, tClsD, cx_cells, cx_scope, cx_N, cx_prog, cx_w, cx_base, cx_mg, cx_qual]
              exact ⟨_, .of (sb _ _ hz), _, rfl, r _ (Same.refl _)⟩
            rw [zip_snd_map hlz (fun x : R17 => V.int x.2), show ((ls.drop A0).take B0).map (fun x : R17 => V.int x.2) = (((ls.drop A0).take B0).map (·.2)).map V.int by rw [List.map_map]; rfl] at hcp
            obtain ⟨zs, hzs⟩ : ∃ zs : List Int, zs = ((ls.drop A0).take B0).map (·.2) := ⟨_, rfl⟩
            rw [← hzs] at hcp
            have hzW : k % W + 1 = W → zs = chM W ls k := fun e => by
              have hk' : k < ls.length := hk
              have := Nat.mod_le k W
              have e1 : (0 : Int) + (k : Int) + 1 - (1 + w5) = ((k + 1 - W : Nat) : Int) := by omega
              have e2 : (0 : Int) + (k : Int) + 1 = ((k + 1 : Nat) : Int) := by omega
              rw [hzs, hB0, hA0, e1, e2, HT.sIx_nat, HT.sIx_nat, Nat.min_eq_left (by omega), Nat.min_eq_left (by omega)]
              unfold chM
              rw [List.drop_take]
            clear hB0 hA0 hTs hlz
            have sA := s11.same sp1
            clear sp1 fp1 np1 hT' hD s11
            obtain ⟨td, etd, ltd⟩ := LgAt.len (sA.at_ 4 rfl)
            have hqq : qs.length = qs'.length := by have := congrArg List.length eq; rwa [List.length_map, List.length_map] at this
            by_cases e : k % W + 1 = W
            · have ei : ∀ {α : Type} {x y : α}, (if ((0 : Int) + (k : Int) + 1) % (1 + w5) = 0 then x else y) = x := fun {α x y} => if_pos (el.mpr e)
              simp only [upd_same, ei, HO.lst.injEq, Int.toNat_one, Nat.mul_one, List.flatten_cons, List.flatten_nil, tCutE, tIfE, false_and, exists_false, false_or, or_false, tRet, tRetN, tAndV, tOrV, tNotV, tChain, rI, rI0, rU, tC, tCB, tCons, tNil, tVar, tOp, tUn, tTest, tB, tAnd, tOr, tNot, tIf, tIfS, tSeq, tAsg, tDrop, tNext, gName, gTup_ref, gCons_cons, gNil_nil, and_assoc, tYes, wipe, rEq, rNe, scal_ss, scal_ii, scal_bb, scal_ns, scal_sn, scal_nn, scal_in, scal_ni, tLc_eq, tFor_eq, iList, iTup, iStr, iRng1, iRng2, iZip, iEnum, gSub, tSl, rSetL_ref, rCat_ref, rRep_ref, rJoin_ref, rSlL_ref, rSlS_ref, rMulS_ref, rIxL_ref, rIxT_ref, rLenK_ref, rAll_ref, rIn_ref, tLst, tTup, tPar, tPar3, tAug, tPart, tNoPart, tCall, List.getElem?_cons_zero, List.getElem?_cons_succ, List.set_cons_zero, List.set_cons_succ, List.map_cons, List.map_nil, List.append_nil, List.nil_append, List.cons_append, Option.some.injEq, exists_eq_left', exists_eq_left, exists_eq_right, exists_eq_right', exists_eq', V.int.injEq, V.str.injEq, V.bl.injEq, V.ref.injEq, List.cons.injEq, tM0, tM1, rNewStrs, sgn_eq, split_dot, split_sp, split_nl, dot_len, sp_len, nl_len, cxOf_K, L2.start, List.length_cons, List.length_nil, List.replicate_succ, List.replicate_zero, Nat.reduceSub, Nat.zero_add, and_true, true_and, and_self, exists_and_left, exists_const, Bool.false_eq_true, if_false, if_true, ite_true, ite_false, reduceIte, decide_eq_true_eq, reduceCtorEq, Nat.reduceAdd, Nat.reduceLT, tMseq, tMret, tNdef1, tThru, tCallV, tCallVF, tCallVO, tListZip, tCallX, tCallXU, tCallV, tCallVS, tLam1, tLamD, tCallS, tCls, tClsD, cx_cells, cx_scope, cx_N, cx_prog, cx_w, cx_base, cx_mg, cx_qual]
              refine ⟨by decide, fun tp ntp => ⟨by decide, fun dl ndl => ?_⟩⟩
              obtain ⟨a1, f1⟩ := newF (H := Hb) (o := .tup [V.int 1, V.str ln, V.ref cp]) rfl ntp
              generalize upd Hb tp (.tup [V.int 1, V.str ln, V.ref cp]) = Hc at a1 f1 ndl ⊢
              obtain ⟨a2, f2⟩ := newF (H := Hc) (o := .lst [V.ref tp]) rfl ndl
              generalize upd Hc dl (.lst [V.ref tp]) = Hd at a2 f2 ⊢
              refine ⟨by decide, by decide, by decide, fun rp nrp => ?_⟩
              obtain ⟨a3, f3⟩ := newF (H := Hd) (o := .lst [V.ref tp]) rfl nrp
              generalize upd Hd rp (.lst [V.ref tp]) = He' at a3 f3 ⊢
              have a13 : Same Hb He' := (a1.trans a2).trans a3
              refine ⟨_, a13 _ _ (sb _ _ etd), by rw [List.length_map]; exact small (by omega), fun du2 ndu => ?_⟩
              obtain ⟨a4, f4⟩ := newF (H := He') (o := .lst (td.map V.ref ++ [V.ref tp])) rfl ndu
              generalize upd He' du2 (.lst (td.map V.ref ++ [V.ref tp])) = Hf at a4 f4 ⊢
              have sD := sA.dueAdd 4 rfl etd (sb.trans (a13.trans a4)) ((sb.trans a13).free ndu) ncp (ne_of_none (a13 _ _ hcp) ndu) f4 (((a2.trans a3).trans a4) _ _ f1) ((a13.trans a4) _ _ hcp)
              clear a1 f1 a2 f2 a3 f3 a4 f4 a13 ndu nrp ndl ntp sA etd ltd sb hcp ncp
              obtain ⟨t, hti, htup⟩ := rowAt (sD.at_ 2 rfl : TupsAt _ _ _) hx
              have hti : atI (ts.map V.ref) (0 + (k : Int)) = some (.ref t) := by rw [Int.zero_add]; exact atI_nat hti
              refine ⟨_, .of (sD.lst 1 rfl), _, hti, ⟨t, _, 0, _, rfl, rfl, .of htup, rfl, ?_⟩⟩
              refine ⟨_, .of (sD.lst 1 rfl), _, hti, ⟨t, _, 1, _, rfl, rfl, .of htup, rfl, fun CE obs => ?_⟩⟩
              obtain ⟨tg, elg, llg⟩ := LgAt.len (sD.at_ 3 rfl)
              have hso := sD.lst 5 rfl
              obtain ⟨cw, cg⟩ := sD.at_ 6 rfl
              have nsl : so ≠ lg := fun z => sD.ne (i := 5) (j := 3) rfl rfl (by decide) (b := so) rfl (.inl z)
              have lso : (soM W ls k).length = k % W := so_len (Nat.le_of_lt hk)
              obtain ⟨sp, ac, g0⟩ := tell_full (P := P) (w := w) (base := base) T (line := .str ln) (th := .int th) (cw.same CE.same) (cg.same CE.same) (CE.same _ _ hso) (CE.same _ _ elg) nsl (by rw [List.length_map]; omega) (by rw [List.length_map]; omega) (by rw [List.length_map, lso]; omega)
              refine ⟨sp, ac, g0 _ _ (fun v H' r u => ?_) (fun _ _ _ z => z.elim)⟩
              obtain ⟨rfl, p, t2, np, nt, rfl⟩ := r
              have nps : so ≠ p := ne_of_none (CE.same _ _ hso) np
              have npl : lg ≠ p := ne_of_none (CE.same _ _ elg) np
              have nt1 : p ≠ t2 := fun z => by rw [← z, upd_ne nps.symm, upd_same] at nt; cases nt
              have nt2 : so ≠ t2 := fun z => by rw [← z, upd_same] at nt; cases nt
              have nt3 : lg ≠ t2 := fun z => by
                rw [← z, upd_ne nsl.symm, upd_ne npl, CE.same _ _ elg] at nt; cases nt
              have ilg : ¬ InC _ lg := CE.out elg
              have iso : ¬ InC _ so := CE.out hso
              have ip : ¬ InC _ p := u.nin CE (o := .lst ((soM W ls k).map V.int ++ [V.int th])) (by rw [upd_ne npl.symm, upd_ne nt1, upd_ne nps.symm, upd_same]) fun _ _ z => by cases z
              have it : ¬ InC _ t2 := u.nin CE (o := .tup [V.int 1, V.str ln, V.ref p]) (by rw [upd_ne nt3.symm, upd_same]) fun _ _ z => by cases z
              rw [delC_upd ilg, delC_upd it, delC_upd iso, delC_upd ip, del_ex CE]
              have np0 : Hf p = none := (exC_out ip).symm.trans np
              have nt0 : Hf t2 = none := by
                rw [upd_ne nt2.symm, upd_ne nt1.symm] at nt
                exact (exC_out it).symm.trans nt
              have ez : (soM W ls k).map V.int ++ [V.int th] = (chM W ls k).map V.int := by rw [ch_full hx e, List.map_append]; rfl
              rw [ez, upd_comm nps.symm]
              have s13 := sD.put (ys := []) 5 rfl
              have elg2 : upd Hf so (.lst []) lg = some (.lst (tg.map V.ref)) := by rw [upd_ne nsl.symm]; exact elg
              have s14 := s13.lgAdd 3 rfl (zs := chM W ls k) (line := ln) elg2 (q := p) (t := t2) (by rw [upd_ne nps.symm]; exact np0) (by rw [upd_ne nt1.symm, upd_ne nt2.symm]; exact nt0)
              have s15 : Sep K (upd (upd (upd (upd Hf so (.lst [])) p (.lst ((chM W ls k).map V.int))) t2 (.tup [V.int 1, V.str ln, V.ref p])) lg (.lst (tg.map V.ref ++ [V.ref t2]))) [rSrc h l, rLst D (ts.map V.ref), rRows ts ls, rLg lg (qs ++ [(ln, p, chM W ls k)]), rLg du2 (qs' ++ [(ln, cp, zs)]), rLst so [], rImm fun H => CloAt H wf nfWrk ["_law_log", "_law_mark"] [.ref lg, .int 1] ∧ CloAt H g nfGath ["many", "some", "work"] [.int (1 + w5), .ref so, .ref wf]] := s14
              generalize upd (upd (upd (upd Hf so (.lst [])) p (.lst ((chM W ls k).map V.int))) t2 (.tup [V.int 1, V.str ln, V.ref p])) lg (.lst (tg.map V.ref ++ [V.ref t2])) = Hg at s15 ⊢
              clear s14 s13 sD elg2 ez np nt np0 nt0 u cw cg hso elg g0 ac htup
              obtain ⟨tdd, edd, ldd⟩ := LgAt.len (s15.at_ 4 rfl)
              have eq2 : (qs ++ [(ln, p, chM W ls k)]).map sQ = (qs' ++ [(ln, cp, zs)]).map sQ := by rw [List.map_append, List.map_append, eq, hzW e]; rfl
              have hqz2 : ∀ q ∈ qs ++ [(ln, p, chM W ls k)], q.2.2.length ≤ 16 := fun q' hq' => by
                rcases List.mem_append.mp hq' with hq' | hq'
                · exact hqz q' hq'
                · rw [List.mem_singleton.mp hq']
                  show (chM W ls k).length ≤ 16
                  unfold chM
                  rw [List.length_map, List.length_drop, List.length_take]; omega
              have ok := ok17 (by rw [List.length_append]; simp; omega) hqz2
              refine ⟨_, .inl (.of edd), _, _, .int ((qs.length : Int) + 1), rfl, by rw [List.length_map, llg]; exact .int _, by rw [List.length_map, ldd, List.length_append, hqq]; exact .int _, Nat.lt_of_le_of_lt (DOk.int (k := 0)).1 (by decide), (DOk.int (k := 0)).2, fun Hh sh => ⟨_, rfl, ifN (by simp) ?_⟩⟩
              have s16 := s15.same sh
              refine ⟨_, _, _, rfl, (s16.at_ 3 rfl : LgAt _ _ _).dp, by rw [eq2]; exact (s16.at_ 4 rfl : LgAt _ _ _).dp, Nat.lt_of_le_of_lt ok.1 (by decide), ok.2, fun Hi si => ⟨_, rfl, ifN (by simp) ((hP1 _ _ _).mpr ⟨du2, _, _, _, _, _, _, rfl, by rw [so_full W1 e]; exact s16.same si, eq2, by rw [List.length_append]; simp; omega, hqz2⟩)⟩⟩
            · have ei : ∀ {α : Type} {x y : α}, (if ((0 : Int) + (k : Int) + 1) % (1 + w5) = 0 then x else y) = y := fun {α x y} => if_neg (fun z => e (el.mp z))
              simp only [upd_same, ei, HO.lst.injEq, Int.toNat_zero, Nat.mul_zero, List.flatten_cons, List.flatten_nil, tCutE, tIfE, false_and, exists_false, false_or, or_false, tRet, tRetN, tAndV, tOrV, tNotV, tChain, rI, rI0, rU, tC, tCB, tCons, tNil, tVar, tOp, tUn, tTest, tB, tAnd, tOr, tNot, tIf, tIfS, tSeq, tAsg, tDrop, tNext, gName, gTup_ref, gCons_cons, gNil_nil, and_assoc, tYes, wipe, rEq, rNe, scal_ss, scal_ii, scal_bb, scal_ns, scal_sn, scal_nn, scal_in, scal_ni, tLc_eq, tFor_eq, iList, iTup, iStr, iRng1, iRng2, iZip, iEnum, gSub, tSl, rSetL_ref, rCat_ref, rRep_ref, rJoin_ref, rSlL_ref, rSlS_ref, rMulS_ref, rIxL_ref, rIxT_ref, rLenK_ref, rAll_ref, rIn_ref, tLst, tTup, tPar, tPar3, tAug, tPart, tNoPart, tCall, List.getElem?_cons_zero, List.getElem?_cons_succ, List.set_cons_zero, List.set_cons_succ, List.map_cons, List.map_nil, List.append_nil, List.nil_append, List.cons_append, Option.some.injEq, exists_eq_left', exists_eq_left, exists_eq_right, exists_eq_right', exists_eq', V.int.injEq, V.str.injEq, V.bl.injEq, V.ref.injEq, List.cons.injEq, tM0, tM1, rNewStrs, sgn_eq, split_dot, split_sp, split_nl, dot_len, sp_len, nl_len, cxOf_K, L2.start, List.length_cons, List.length_nil, List.replicate_succ, List.replicate_zero, Nat.reduceSub, Nat.zero_add, and_true, true_and, and_self, exists_and_left, exists_const, Bool.false_eq_true, if_false, if_true, ite_true, ite_false, reduceIte, decide_eq_true_eq, reduceCtorEq, Nat.reduceAdd, Nat.reduceLT, tMseq, tMret, tNdef1, tThru, tCallV, tCallVF, tCallVO, tListZip, tCallX, tCallXU, tCallV, tCallVS, tLam1, tLamD, tCallS, tCls, tClsD, cx_cells, cx_scope, cx_N, cx_prog, cx_w, cx_base, cx_mg, cx_qual]
              refine ⟨by decide, fun tp ntp => ⟨by decide, fun dl ndl => ?_⟩⟩
              obtain ⟨a1, f1⟩ := newF (H := Hb) (o := .tup [V.int 1, V.str ln, V.ref cp]) rfl ntp
              generalize upd Hb tp (.tup [V.int 1, V.str ln, V.ref cp]) = Hc at a1 f1 ndl ⊢
              obtain ⟨a2, f2⟩ := newF (H := Hc) (o := .lst [V.ref tp]) rfl ndl
              generalize upd Hc dl (.lst [V.ref tp]) = Hd at a2 f2 ⊢
              refine ⟨by decide, by decide, by decide, fun rp nrp => ?_⟩
              obtain ⟨a3, f3⟩ := newF (H := Hd) (o := .lst []) rfl nrp
              generalize upd Hd rp (.lst []) = He' at a3 f3 ⊢
              have a13 : Same Hb He' := (a1.trans a2).trans a3
              refine ⟨_, a13 _ _ (sb _ _ etd), by rw [List.length_map]; exact small (by omega), fun du2 ndu => ?_⟩
              obtain ⟨a4, f4⟩ := newF (H := He') (o := .lst (td.map V.ref)) rfl ndu
              generalize upd He' du2 (.lst (td.map V.ref)) = Hf at a4 f4 ⊢
              have sD := sA.dueSame 4 rfl etd (sb.trans (a13.trans a4)) ((sb.trans a13).free ndu) f4
              clear a1 f1 a2 f2 a3 f3 a4 f4 a13 ndu nrp ndl ntp sA etd ltd sb hcp ncp
              obtain ⟨t, hti, htup⟩ := rowAt (sD.at_ 2 rfl : TupsAt _ _ _) hx
              have hti : atI (ts.map V.ref) (0 + (k : Int)) = some (.ref t) := by rw [Int.zero_add]; exact atI_nat hti
              refine ⟨_, .of (sD.lst 1 rfl), _, hti, ⟨t, _, 0, _, rfl, rfl, .of htup, rfl, ?_⟩⟩
              refine ⟨_, .of (sD.lst 1 rfl), _, hti, ⟨t, _, 1, _, rfl, rfl, .of htup, rfl, fun CE obs => ?_⟩⟩
              have hso := sD.lst 5 rfl
              obtain ⟨cw, cg⟩ := sD.at_ 6 rfl
              have lso : (soM W ls k).length = k % W := so_len (Nat.le_of_lt hk)
              have hkW := Nat.mod_lt k W1
              obtain ⟨sp, ac, g0⟩ := tell_few (P := P) (w := w) (base := base) T (line := .str ln) (th := .int th) (cg.same CE.same) (CE.same _ _ hso) (by rw [List.length_map]; omega) (by rw [List.length_map, lso]; omega)
              refine ⟨sp, ac, g0 _ _ (fun v H' r u => ?_) (fun _ _ _ z => z.elim)⟩
              obtain ⟨rfl, rfl⟩ := r
              rw [delC_upd (CE.out hso), del_ex CE]
              have ez : (soM W ls k).map V.int ++ [V.int th] = (soM W ls (k + 1)).map V.int := by rw [so_few W1 hx e, List.map_append]; rfl
              rw [ez]
              have s15 : Sep K (upd Hf so (.lst ((soM W ls (k + 1)).map V.int))) [rSrc h l, rLst D (ts.map V.ref), rRows ts ls, rLg lg qs, rLg du2 qs', rLst so ((soM W ls (k + 1)).map V.int), rImm fun H => CloAt H wf nfWrk ["_law_log", "_law_mark"] [.ref lg, .int 1] ∧ CloAt H g nfGath ["many", "some", "work"] [.int (1 + w5), .ref so, .ref wf]] := sD.put 5 rfl
              generalize upd Hf so (.lst ((soM W ls (k + 1)).map V.int)) = Hg at s15 ⊢
              clear sD ez u cw cg hso g0 ac htup
              have ok := ok17 (by omega) hqz
              refine ⟨_, _, .none, rfl, .non, .non, Nat.lt_of_le_of_lt (DOk.none (k := 0)).1 (by decide), (DOk.none (k := 0)).2, fun Hh sh => ⟨_, rfl, ifN (by simp) ?_⟩⟩
              have s16 := s15.same sh
              refine ⟨_, _, _, rfl, (s16.at_ 3 rfl : LgAt _ _ _).dp, by rw [eq]; exact (s16.at_ 4 rfl : LgAt _ _ _).dp, Nat.lt_of_le_of_lt ok.1 (by decide), ok.2, fun Hi si => ⟨_, rfl, ifN (by simp) ((hP1 _ _ _).mpr ⟨du2, _, _, _, _, _, _, rfl, s16.same si, eq, by omega, hqz⟩)⟩⟩
          · obtain ⟨du, qs, qs', x4, x9, x10, x11, rfl, s11, eq, hq, hqz⟩ := (hP1 _ _ _).mp hP
            exact (hR2 _ _).mpr ⟨_, _, _, _, _, _, _, _, _, _, _, _, _, rfl, s11.take 3⟩
        · obtain ⟨x4, x5, x6, x7, x8, x9, x10, x11, x12, x13, x14, x15, x16, rfl, s11⟩ := (hR2 _ _).mp h4
          clear h4 s10
          simp only [upd_same, tCutE, tIfE, false_and, exists_false, false_or, or_false, tRet, tRetN, tAndV, tOrV, tNotV, tChain, rI, rI0, rU, tC, tCB, tCons, tNil, tVar, tOp, tUn, tTest, tB, tAnd, tOr, tNot, tIf, tIfS, tSeq, tAsg, tDrop, tNext, gName, gTup_ref, gCons_cons, gNil_nil, and_assoc, tYes, wipe, rEq, rNe, scal_ss, scal_ii, scal_bb, scal_ns, scal_sn, scal_nn, scal_in, scal_ni, tLc_eq, tFor_eq, iList, iTup, iStr, iRng1, iRng2, iZip, iEnum, gSub, tSl, rSetL_ref, rCat_ref, rRep_ref, rJoin_ref, rSlL_ref, rSlS_ref, rMulS_ref, rIxL_ref, rIxT_ref, rLenK_ref, rAll_ref, rIn_ref, tLst, tTup, tPar, tPar3, tAug, tPart, tNoPart, tCall, List.getElem?_cons_zero, List.getElem?_cons_succ, List.set_cons_zero, List.set_cons_succ, List.map_cons, List.map_nil, List.append_nil, List.nil_append, List.cons_append, Option.some.injEq, exists_eq_left', exists_eq_left, exists_eq_right, exists_eq_right', exists_eq', V.int.injEq, V.str.injEq, V.bl.injEq, V.ref.injEq, List.cons.injEq, tM0, tM1, rNewStrs, sgn_eq, split_dot, split_sp, split_nl, dot_len, sp_len, nl_len, cxOf_K, L2.start, List.length_cons, List.length_nil, List.replicate_succ, List.replicate_zero, Nat.reduceSub, Nat.zero_add, and_true, true_and, and_self, exists_and_left, exists_const, Bool.false_eq_true, if_false, if_true, ite_true, ite_false, reduceIte, decide_eq_true_eq, reduceCtorEq, Nat.reduceAdd, Nat.reduceLT, tMseq, tMret, tNdef1, tThru, tCallV, tCallVF, tCallVO, tListZip, tCallX, tCallXU, tCallV, tCallVS, tLam1, tLamD, tCallS, tCls, tClsD, cx_cells, cx_scope, cx_N, cx_prog, cx_w, cx_base, cx_mg, cx_qual]
          refine ⟨by decide, fun lg nlg => ⟨by decide, fun du ndu => ?_⟩⟩
          have tl : ts.length = ls.length := by
            have := (s11.at_ 2 rfl : TupsAt _ _ _).len
            rwa [List.length_map] at this
          have s12 := s11.newR (rows := []) (ts := []) (.of_same (same_put (o := .lst []) (Same.refl _) nlg) s11.tab) nlg upd_same trivial
          have s13 := s12.newR (rows := []) (ts := []) (.of_same (same_put (o := .lst []) (Same.refl _) ndu) s12.tab) ndu upd_same trivial
          generalize upd (upd H4 lg (.lst [])) du (.lst []) = H5 at s13 ⊢
          clear s12 s11 nlg ndu
          refine ⟨lg, .int 1, rfl, s13.tab, fun H7 wf1 w7 nwf1 c1 => ?_⟩
          have s14 := s13.fno w7
          refine ⟨lg, .int 2, rfl, s14.tab, fun H8 wf2 w8 nwf2 c2 => ?_⟩
          have s15 := s14.fno w8
          refine ⟨wf1, wf2, rfl, s15.tab, fun H9 g w9 ng cg => ?_⟩
          have s16 : Sep K H9 [rSrc h l, rLst D (ts.map V.ref), rRows ts ls, rRow lg [], rRow du [], rImm fun H => CloAt H wf1 nfWrk ["_law_log", "_law_mark"] [.ref lg, .int 1] ∧ CloAt H wf2 nfWrk ["_law_log", "_law_mark"] [.ref lg, .int 2] ∧ LamC P w K mg base H g [.ref wf2, .ref wf1]] := (s15.fno w9).newI (fun S H H' h w => ⟨h.1.fw w, h.2.1.fw w, h.2.2.mono fun b o e i => w.imm e i⟩) ⟨(c1.fw w8).fw w9, c2.fw w9, cg⟩
          clear s13 s14 s15 w7 w8 w9 nwf1 nwf2 ng c1 c2 cg
          simp only [upd_same, tCutE, tIfE, false_and, exists_false, false_or, or_false, tRet, tRetN, tAndV, tOrV, tNotV, tChain, rI, rI0, rU, tC, tCB, tCons, tNil, tVar, tOp, tUn, tTest, tB, tAnd, tOr, tNot, tIf, tIfS, tSeq, tAsg, tDrop, tNext, gName, gTup_ref, gCons_cons, gNil_nil, and_assoc, tYes, wipe, rEq, rNe, scal_ss, scal_ii, scal_bb, scal_ns, scal_sn, scal_nn, scal_in, scal_ni, tLc_eq, tFor_eq, iList, iTup, iStr, iRng1, iRng2, iZip, iEnum, gSub, tSl, rSetL_ref, rCat_ref, rRep_ref, rJoin_ref, rSlL_ref, rSlS_ref, rMulS_ref, rIxL_ref, rIxT_ref, rLenK_ref, rAll_ref, rIn_ref, tLst, tTup, tPar, tPar3, tAug, tPart, tNoPart, tCall, List.getElem?_cons_zero, List.getElem?_cons_succ, List.set_cons_zero, List.set_cons_succ, List.map_cons, List.map_nil, List.append_nil, List.nil_append, List.cons_append, Option.some.injEq, exists_eq_left', exists_eq_left, exists_eq_right, exists_eq_right', exists_eq', V.int.injEq, V.str.injEq, V.bl.injEq, V.ref.injEq, List.cons.injEq, tM0, tM1, rNewStrs, sgn_eq, split_dot, split_sp, split_nl, dot_len, sp_len, nl_len, cxOf_K, L2.start, List.length_cons, List.length_nil, List.replicate_succ, List.replicate_zero, Nat.reduceSub, Nat.zero_add, and_true, true_and, and_self, exists_and_left, exists_const, Bool.false_eq_true, if_false, if_true, ite_true, ite_false, reduceIte, decide_eq_true_eq, reduceCtorEq, Nat.reduceAdd, Nat.reduceLT, tMseq, tMret, tNdef1, tThru, tCallV, tCallVF, tCallVO, tListZip, tCallX, tCallXU, tCallV, tCallVS, tLam1, tLamD, tCallS, tCls, tClsD, cx_cells, cx_scope, cx_N, cx_prog, cx_w, cx_base, cx_mg, cx_qual]
          refine ⟨⟨_, .of (s16.lst 1 rfl)⟩, R2, ?_, fun σ H10 h10 => ?_⟩
          · obtain ⟨P2, hP2⟩ : ∃ P2 : Nat → L2.St → Hp → Prop, ∀ k σ H', P2 k σ H' ↔ ∃ (du : Addr) (ns : List (Int × Str × Int)) (x12 x13 : Option V), σ = [some (.ref a), some (.ref h), some (.int (0 + (i : Int))), some (.ref D), x4, x5, some (.ref lg), some (.ref du), some (.ref g), x9, x10, x11, x12, x13, x14, x15, x16] ∧
              Sep K H' [rSrc h l, rLst D (ts.map V.ref), rRows ts ls, rRow lg (ns.map nv), rRow du (ns.map nv), rImm fun H => CloAt H wf1 nfWrk ["_law_log", "_law_mark"] [.ref lg, .int 1] ∧ CloAt H wf2 nfWrk ["_law_log", "_law_mark"] [.ref lg, .int 2] ∧ LamC P w K mg base H g [.ref wf2, .ref wf1]] ∧ ns.length ≤ 2 * k := ⟨_, fun _ _ _ => Iff.rfl⟩
            refine forG (walk_listm ts V.ref) P2 ((hP2 _ _ _).mpr ⟨du, [], _, _, rfl, s16, Nat.le_refl _⟩) (fun k σ H' hk hP => by obtain ⟨_, _, _, _, rfl, s17, _⟩ := (hP2 _ _ _).mp hP; exact .of (s17.lst 1 rfl)) (fun k x σ H11 H11' hk hP hy => ?_) (fun σ H11 hP => ?_)
            · obtain ⟨du, ns, x12, x13, rfl, s17, hq⟩ := (hP2 _ _ _).mp hP
              obtain ⟨rfl, t, hti, rfl⟩ := hy
              clear hP s16
              have hkl : k < ls.length := by omega
              obtain ⟨⟨ln, th⟩, hx⟩ : ∃ x, ls[k]? = some x := ⟨ls[k], List.getElem?_eq_getElem hkl⟩
              have htup : H11' t = some (.tup [.str ln, .int th]) := by
                obtain ⟨y, e1, e2⟩ := (s17.at_ 2 rfl : TupsAt _ _ _).get hti
                rw [List.getElem?_map, hx] at e1
                cases e1
                exact e2
              simp only [upd_same, tCutE, tIfE, false_and, exists_false, false_or, or_false, tRet, tRetN, tAndV, tOrV, tNotV, tChain, rI, rI0, rU, tC, tCB, tCons, tNil, tVar, tOp, tUn, tTest, tB, tAnd, tOr, tNot, tIf, tIfS, tSeq, tAsg, tDrop, tNext, gName, gTup_ref, gCons_cons, gNil_nil, and_assoc, tYes, wipe, rEq, rNe, scal_ss, scal_ii, scal_bb, scal_ns, scal_sn, scal_nn, scal_in, scal_ni, tLc_eq, tFor_eq, iList, iTup, iStr, iRng1, iRng2, iZip, iEnum, gSub, tSl, rSetL_ref, rCat_ref, rRep_ref, rJoin_ref, rSlL_ref, rSlS_ref, rMulS_ref, rIxL_ref, rIxT_ref, rLenK_ref, rAll_ref, rIn_ref, tLst, tTup, tPar, tPar3, tAug, tPart, tNoPart, tCall, List.getElem?_cons_zero, List.getElem?_cons_succ, List.set_cons_zero, List.set_cons_succ, List.map_cons, List.map_nil, List.append_nil, List.nil_append, List.cons_append, Option.some.injEq, exists_eq_left', exists_eq_left, exists_eq_right, exists_eq_right', exists_eq', V.int.injEq, V.str.injEq, V.bl.injEq, V.ref.injEq, List.cons.injEq, tM0, tM1, rNewStrs, sgn_eq, split_dot, split_sp, split_nl, dot_len, sp_len, nl_len, cxOf_K, L2.start, List.length_cons, List.length_nil, List.replicate_succ, List.replicate_zero, Nat.reduceSub, Nat.zero_add, and_true, true_and, and_self, exists_and_left, exists_const, Bool.false_eq_true, if_false, if_true, ite_true, ite_false, reduceIte, decide_eq_true_eq, reduceCtorEq, Nat.reduceAdd, Nat.reduceLT, tMseq, tMret, tNdef1, tThru, tCallV, tCallVF, tCallVO, tListZip, tCallX, tCallXU, tCallV, tCallVS, tLam1, tLamD, tCallS, tCls, tClsD, cx_cells, cx_scope, cx_N, cx_prog, cx_w, cx_base, cx_mg, cx_qual]
              refine ⟨_, .of htup, rfl, ?_⟩
              simp only [upd_same, tCutE, tIfE, false_and, exists_false, false_or, or_false, tRet, tRetN, tAndV, tOrV, tNotV, tChain, rI, rI0, rU, tC, tCB, tCons, tNil, tVar, tOp, tUn, tTest, tB, tAnd, tOr, tNot, tIf, tIfS, tSeq, tAsg, tDrop, tNext, gName, gTup_ref, gCons_cons, gNil_nil, and_assoc, tYes, wipe, rEq, rNe, scal_ss, scal_ii, scal_bb, scal_ns, scal_sn, scal_nn, scal_in, scal_ni, tLc_eq, tFor_eq, iList, iTup, iStr, iRng1, iRng2, iZip, iEnum, gSub, tSl, rSetL_ref, rCat_ref, rRep_ref, rJoin_ref, rSlL_ref, rSlS_ref, rMulS_ref, rIxL_ref, rIxT_ref, rLenK_ref, rAll_ref, rIn_ref, tLst, tTup, tPar, tPar3, tAug, tPart, tNoPart, tCall, List.getElem?_cons_zero, List.getElem?_cons_succ, List.set_cons_zero, List.set_cons_succ, List.map_cons, List.map_nil, List.append_nil, List.nil_append, List.cons_append, Option.some.injEq, exists_eq_left', exists_eq_left, exists_eq_right, exists_eq_right', exists_eq', V.int.injEq, V.str.injEq, V.bl.injEq, V.ref.injEq, List.cons.injEq, tM0, tM1, rNewStrs, sgn_eq, split_dot, split_sp, split_nl, dot_len, sp_len, nl_len, cxOf_K, L2.start, List.length_cons, List.length_nil, List.replicate_succ, List.replicate_zero, Nat.reduceSub, Nat.zero_add, and_true, true_and, and_self, exists_and_left, exists_const, Bool.false_eq_true, if_false, if_true, ite_true, ite_false, reduceIte, decide_eq_true_eq, reduceCtorEq, Nat.reduceAdd, Nat.reduceLT, tMseq, tMret, tNdef1, tThru, tCallV, tCallVF, tCallVO, tListZip, tCallX, tCallXU, tCallV, tCallVS, tLam1, tLamD, tCallS, tCls, tClsD, cx_cells, cx_scope, cx_N, cx_prog, cx_w, cx_base, cx_mg, cx_qual]
              obtain ⟨td, hdu, ttd⟩ := s17.at_ 4 rfl
              have ltd := ttd.len
              rw [List.length_map] at ltd
              refine ⟨by decide, fun t1 nt1 => ?_⟩
              obtain ⟨a1, f1⟩ := newF (H := H11') (o := .tup [V.int 2, V.str ln, V.int th]) rfl nt1
              generalize upd H11' t1 (.tup [V.int 2, V.str ln, V.int th]) = Ha at a1 f1 ⊢
              refine ⟨_, .inl (.of (a1 _ _ hdu)), by decide, fun t2 nt2 => ?_⟩
              rw [List.length_map, ltd]
              obtain ⟨a2, f2⟩ := newF (H := Ha) (o := .tup [V.int 1, V.str ln, V.int ((ns.length : Int) + 1)]) rfl nt2
              generalize upd Ha t2 (.tup [V.int 1, V.str ln, V.int ((ns.length : Int) + 1)]) = Hb at a2 f2 ⊢
              refine ⟨by decide, fun dl ndl => ?_⟩
              obtain ⟨a3, f3⟩ := newF (H := Hb) (o := .lst [V.ref t1, V.ref t2]) rfl ndl
              generalize upd Hb dl (.lst [V.ref t1, V.ref t2]) = Hc at a3 f3 ⊢
              have a13 := (a1.trans a2).trans a3
              refine ⟨_, a13 _ _ hdu, _, rfl, by rw [List.length_map]; exact small (by simp; omega), fun du2 ndu => ?_⟩
              obtain ⟨a4, f4⟩ := newF (H := Hc) (o := .lst (td.map V.ref ++ [V.ref t1, V.ref t2])) rfl ndu
              generalize upd Hc du2 (.lst (td.map V.ref ++ [V.ref t1, V.ref t2])) = Hd at a4 f4 ⊢
              have a14 := a13.trans a4
              have sD : Sep K Hd [rSrc h l, rLst D (ts.map V.ref), rRows ts ls, rRow lg (ns.map nv), rRow du2 ((ns ++ [(2, ln, th), (1, ln, (ns.length : Int) + 1)]).map nv), rImm fun H => CloAt H wf1 nfWrk ["_law_log", "_law_mark"] [.ref lg, .int 1] ∧ CloAt H wf2 nfWrk ["_law_log", "_law_mark"] [.ref lg, .int 2] ∧ LamC P w K mg base H g [.ref wf2, .ref wf1]] :=
                s17.rowSet (S := No) 4 rfl (.of_same a14 s17.tab) (fun b z => z.elim) (.inr (a13.free ndu)) (ts := td ++ [t1, t2]) (by rw [f4]; simp) (by
                  rw [List.map_append]
                  exact TupsAt.app (ttd.mono fun t x e => a14 _ _ e) ⟨((a2.trans a3).trans a4) _ _ f1, (a3.trans a4) _ _ f2, trivial⟩)
              clear a1 f1 a2 f2 a3 f3 a4 f4 a13 a14 ndu ndl nt1 nt2 s17 hdu ttd ltd htup
              refine fun CE obs => ?_
              obtain ⟨tg, hlg, ttg⟩ := sD.at_ 3 rfl
              have ltg := ttg.len
              rw [List.length_map] at ltg
              obtain ⟨c1, c2, cg⟩ := sD.at_ 5 rfl
              obtain ⟨sp, ac, g0⟩ := tell_chg (P := P) (w := w) (base := base) T (line := .str ln) (th := .int th) (c1.same CE.same) (c2.same CE.same) (cg.mono fun b o e _ => CE.same _ _ e) (CE.same _ _ hlg) (by rw [List.length_map]; omega)
              refine ⟨sp, ac, g0 _ _ (fun v H' r u => ?_) (fun _ _ _ z => z.elim)⟩
              obtain ⟨rfl, u1, u2, n1, n2, rfl⟩ := r
              rw [List.length_map, ltg] at u ⊢
              have q1 : lg ≠ u1 := ne_of_none (CE.same _ _ hlg) n1
              have q2 : lg ≠ u2 := fun z => by rw [← z, upd_same] at n2; cases n2
              have q3 : u1 ≠ u2 := fun z => by rw [← z, upd_ne q1.symm, upd_same] at n2; cases n2
              have ilg : ¬ InC _ lg := CE.out hlg
              have i1 : ¬ InC _ u1 := u.nin CE (o := .tup [V.int 2, V.str ln, V.int th]) (by rw [upd_ne q1.symm, upd_ne q3, upd_ne q1.symm, upd_same]) fun _ _ z => by cases z
              have i2 : ¬ InC _ u2 := u.nin CE (o := .tup [V.int 1, V.str ln, V.int ((ns.length : Int) + 1)]) (by rw [upd_ne q2.symm, upd_same]) fun _ _ z => by cases z
              rw [delC_upd ilg, delC_upd i2, delC_upd ilg, delC_upd i1, del_ex CE]
              have m1 : Hd u1 = none := (exC_out i1).symm.trans n1
              have m2 : Hd u2 = none := by
                rw [upd_ne q2.symm, upd_ne q3.symm] at n2
                exact (exC_out i2).symm.trans n2
              have w1 : Fwd K (fun b => b = lg) Hd (upd Hd u1 (.tup [V.int 2, V.str ln, V.int th])) := (Fw.refl sD.tab).new m1
              have hl1 : upd Hd u1 (.tup [V.int 2, V.str ln, V.int th]) lg = some (.lst (tg.map V.ref)) := by rw [upd_ne q1]; exact hlg
              have w2 := w1.put (o := .lst (tg.map V.ref ++ [.ref u1])) hl1 (fun _ z => by cases z) (fun z => z) (.inl rfl)
              have w3 := w2.new (p := u2) (o := .tup [V.int 1, V.str ln, V.int ((ns.length : Int) + 1)]) (by rw [upd_ne q2.symm, upd_ne q3.symm]; exact m2)
              have w4 := w3.put (a := lg) (o := .lst (tg.map V.ref ++ [.ref u1] ++ [.ref u2])) (o' := .lst (tg.map V.ref ++ [.ref u1])) (by rw [upd_ne q2, upd_same]) (fun _ z => by cases z) (fun z => z) (.inl rfl)
              have s18 : Sep K (upd (upd (upd (upd Hd u1 (.tup [V.int 2, V.str ln, V.int th])) lg (.lst (tg.map V.ref ++ [.ref u1]))) u2 (.tup [V.int 1, V.str ln, V.int ((ns.length : Int) + 1)])) lg (.lst (tg.map V.ref ++ [.ref u1] ++ [.ref u2]))) [rSrc h l, rLst D (ts.map V.ref), rRows ts ls, rRow lg ((ns ++ [(2, ln, th), (1, ln, (ns.length : Int) + 1)]).map nv), rRow du2 ((ns ++ [(2, ln, th), (1, ln, (ns.length : Int) + 1)]).map nv), rImm fun H => CloAt H wf1 nfWrk ["_law_log", "_law_mark"] [.ref lg, .int 1] ∧ CloAt H wf2 nfWrk ["_law_log", "_law_mark"] [.ref lg, .int 2] ∧ LamC P w K mg base H g [.ref wf2, .ref wf1]] :=
                sD.rowSet (S := fun b => b = lg) 3 rfl w4 (fun b z => .inl z) (.inl rfl) (ts := tg ++ [u1, u2]) (by rw [upd_same]; simp) (by
                  rw [List.map_append]
                  exact TupsAt.app (ttg.mono fun t x e => w4.tup e) ⟨by rw [upd_ne q1.symm, upd_ne q3, upd_ne q1.symm, upd_same], by rw [upd_ne q2.symm, upd_same], trivial⟩)
              generalize upd (upd (upd (upd Hd u1 (.tup [V.int 2, V.str ln, V.int th])) lg (.lst (tg.map V.ref ++ [.ref u1]))) u2 (.tup [V.int 1, V.str ln, V.int ((ns.length : Int) + 1)])) lg (.lst (tg.map V.ref ++ [.ref u1] ++ [.ref u2])) = Hg at s18 ⊢
              clear w1 w2 w3 w4 hl1 m1 m2 i1 i2 ilg q1 q2 q3 n1 n2 u g0 ac c1 c2 cg hlg ttg sD
              obtain ⟨tdd, edd, ttd⟩ := s18.at_ 4 rfl
              have ltd := ttd.len
              rw [List.length_map] at ltd
              have ok := okN (ns := ns ++ [(2, ln, th), (1, ln, (ns.length : Int) + 1)]) (by rw [List.length_append]; simp; omega)
              refine ⟨_, .inl (.of edd), _, _, .int ((ns.length : Int) + 1 + 1), rfl, .int _, by rw [List.length_map, ltd, List.length_append, Int.natCast_add]; exact .int _, Nat.lt_of_le_of_lt (DOk.int (k := 0)).1 (by decide), (DOk.int (k := 0)).2, fun Hh sh => ⟨_, rfl, ifN (by simp) ?_⟩⟩
              have s19 := s18.same sh
              obtain ⟨t3, e3, tt3⟩ := s19.at_ 3 rfl
              obtain ⟨t4, e4, tt4⟩ := s19.at_ 4 rfl
              exact ⟨_, _, _, rfl, nv_dp e3 tt3, nv_dp e4 tt4, Nat.lt_of_le_of_lt ok.1 (by decide), ok.2, fun Hi si => ⟨_, rfl, ifN (by simp) ((hP2 _ _ _).mpr ⟨du2, _, _, _, rfl, s19.same si, by rw [List.length_append]; simp; omega⟩)⟩⟩
            · obtain ⟨du, ns, x12, x13, rfl, s17, hq⟩ := (hP2 _ _ _).mp hP
              exact (hR2 _ _).mpr ⟨_, _, _, _, _, _, _, _, _, _, _, _, _, rfl, s17.take 3⟩
          · obtain ⟨x4, x5, x6, x7, x8, x9, x10, x11, x12, x13, x14, x15, x16, rfl, s17⟩ := (hR2 _ _).mp h10
            clear h10 s16
            simp only [upd_same, tCutE, tIfE, false_and, exists_false, false_or, or_false, tRet, tRetN, tAndV, tOrV, tNotV, tChain, rI, rI0, rU, tC, tCB, tCons, tNil, tVar, tOp, tUn, tTest, tB, tAnd, tOr, tNot, tIf, tIfS, tSeq, tAsg, tDrop, tNext, gName, gTup_ref, gCons_cons, gNil_nil, and_assoc, tYes, wipe, rEq, rNe, scal_ss, scal_ii, scal_bb, scal_ns, scal_sn, scal_nn, scal_in, scal_ni, tLc_eq, tFor_eq, iList, iTup, iStr, iRng1, iRng2, iZip, iEnum, gSub, tSl, rSetL_ref, rCat_ref, rRep_ref, rJoin_ref, rSlL_ref, rSlS_ref, rMulS_ref, rIxL_ref, rIxT_ref, rLenK_ref, rAll_ref, rIn_ref, tLst, tTup, tPar, tPar3, tAug, tPart, tNoPart, tCall, List.getElem?_cons_zero, List.getElem?_cons_succ, List.set_cons_zero, List.set_cons_succ, List.map_cons, List.map_nil, List.append_nil, List.nil_append, List.cons_append, Option.some.injEq, exists_eq_left', exists_eq_left, exists_eq_right, exists_eq_right', exists_eq', V.int.injEq, V.str.injEq, V.bl.injEq, V.ref.injEq, List.cons.injEq, tM0, tM1, rNewStrs, sgn_eq, split_dot, split_sp, split_nl, dot_len, sp_len, nl_len, cxOf_K, L2.start, List.length_cons, List.length_nil, List.replicate_succ, List.replicate_zero, Nat.reduceSub, Nat.zero_add, and_true, true_and, and_self, exists_and_left, exists_const, Bool.false_eq_true, if_false, if_true, ite_true, ite_false, reduceIte, decide_eq_true_eq, reduceCtorEq, Nat.reduceAdd, Nat.reduceLT, tMseq, tMret, tNdef1, tThru, tCallV, tCallVF, tCallVO, tListZip, tCallX, tCallXU, tCallV, tCallVS, tLam1, tLamD, tCallS, tCls, tClsD, cx_cells, cx_scope, cx_N, cx_prog, cx_w, cx_base, cx_mg, cx_qual]
            refine ⟨by decide, fun lg nlg => ⟨by decide, fun du ndu => ?_⟩⟩
            have s18 := s17.newR (rows := []) (ts := []) (.of_same (same_put (o := .lst []) (Same.refl _) nlg) s17.tab) nlg upd_same trivial
            have s19 := s18.newR (rows := []) (ts := []) (.of_same (same_put (o := .lst []) (Same.refl _) ndu) s18.tab) ndu upd_same trivial
            generalize upd (upd H10 lg (.lst [])) du (.lst []) = H11 at s19 ⊢
            clear s18 s17 nlg ndu
            refine ⟨lg, .int 1, rfl, s19.tab, fun H7 wf w7 nwf c1 => ?_⟩
            have s20 := s19.fno w7
            refine ⟨wf, rfl, s20.tab, fun H8 g rw w8 ng nrw hrw cg => ?_⟩
            have s21 := s20.newR (rows := []) (ts := []) w8 nrw hrw trivial
            have s22 : Sep K H8 [rSrc h l, rLst D (ts.map V.ref), rRows ts ls, rRow lg [], rRow du [], rRow rw [], rImm fun H => CloAt H wf nfWrk ["_law_log", "_law_mark"] [.ref lg, .int 1] ∧ CloAt H g nfMind ["rows", "work"] [.ref rw, .ref wf]] := s21.newI (fun S H H' h w => ⟨h.1.fw w, h.2.fw w⟩) ⟨c1.fw w8, cg⟩
            clear s19 s20 s21 w7 w8 nwf ng nrw hrw c1 cg
            simp only [upd_same, tCutE, tIfE, false_and, exists_false, false_or, or_false, tRet, tRetN, tAndV, tOrV, tNotV, tChain, rI, rI0, rU, tC, tCB, tCons, tNil, tVar, tOp, tUn, tTest, tB, tAnd, tOr, tNot, tIf, tIfS, tSeq, tAsg, tDrop, tNext, gName, gTup_ref, gCons_cons, gNil_nil, and_assoc, tYes, wipe, rEq, rNe, scal_ss, scal_ii, scal_bb, scal_ns, scal_sn, scal_nn, scal_in, scal_ni, tLc_eq, tFor_eq, iList, iTup, iStr, iRng1, iRng2, iZip, iEnum, gSub, tSl, rSetL_ref, rCat_ref, rRep_ref, rJoin_ref, rSlL_ref, rSlS_ref, rMulS_ref, rIxL_ref, rIxT_ref, rLenK_ref, rAll_ref, rIn_ref, tLst, tTup, tPar, tPar3, tAug, tPart, tNoPart, tCall, List.getElem?_cons_zero, List.getElem?_cons_succ, List.set_cons_zero, List.set_cons_succ, List.map_cons, List.map_nil, List.append_nil, List.nil_append, List.cons_append, Option.some.injEq, exists_eq_left', exists_eq_left, exists_eq_right, exists_eq_right', exists_eq', V.int.injEq, V.str.injEq, V.bl.injEq, V.ref.injEq, List.cons.injEq, tM0, tM1, rNewStrs, sgn_eq, split_dot, split_sp, split_nl, dot_len, sp_len, nl_len, cxOf_K, L2.start, List.length_cons, List.length_nil, List.replicate_succ, List.replicate_zero, Nat.reduceSub, Nat.zero_add, and_true, true_and, and_self, exists_and_left, exists_const, Bool.false_eq_true, if_false, if_true, ite_true, ite_false, reduceIte, decide_eq_true_eq, reduceCtorEq, Nat.reduceAdd, Nat.reduceLT, tMseq, tMret, tNdef1, tThru, tCallV, tCallVF, tCallVO, tListZip, tCallX, tCallXU, tCallV, tCallVS, tLam1, tLamD, tCallS, tCls, tClsD, cx_cells, cx_scope, cx_N, cx_prog, cx_w, cx_base, cx_mg, cx_qual]
            refine ⟨⟨_, .of (s22.lst 1 rfl)⟩, R2, ?_, fun σ H12 h12 => ?_⟩
            · obtain ⟨P3, hP3⟩ : ∃ P3 : Nat → L2.St → Hp → Prop, ∀ k σ H', P3 k σ H' ↔ ∃ (du : Addr) (ss : List R17) (x15 : Option V), σ = [some (.ref a), some (.ref h), some (.int (0 + (i : Int))), some (.ref D), x4, x5, some (.ref lg), x7, some (.ref g), x9, x10, x11, x12, x13, some (.ref du), x15, x16] ∧
                Sep K H' [rSrc h l, rLst D (ts.map V.ref), rRows ts ls, rRow lg (ss.map lgV), rRow du (ss.map rowV), rRow rw ((msM ss).map rowM), rImm fun H => CloAt H wf nfWrk ["_law_log", "_law_mark"] [.ref lg, .int 1] ∧ CloAt H g nfMind ["rows", "work"] [.ref rw, .ref wf]] ∧ ss.length ≤ k ∧ ss.Nodup ∧ ∀ x ∈ ss, Row17 x := ⟨_, fun _ _ _ => Iff.rfl⟩
              refine forG (walk_listm ts V.ref) P3 ((hP3 _ _ _).mpr ⟨du, [], _, rfl, s22, Nat.le_refl _, .nil, by simp⟩) (fun k σ H' hk hP => by obtain ⟨_, _, _, rfl, s23, _⟩ := (hP3 _ _ _).mp hP; exact .of (s23.lst 1 rfl)) (fun k x σ H13 H13' hk hP hy => ?_) (fun σ H13 hP => ?_)
              · obtain ⟨du, ss, x15, rfl, s23, hq, hnd, hrs⟩ := (hP3 _ _ _).mp hP
                obtain ⟨rfl, t, hti, rfl⟩ := hy
                clear hP s22
                have hkl : k < ls.length := by omega
                obtain ⟨⟨ln, th⟩, hx⟩ : ∃ x, ls[k]? = some x := ⟨ls[k], List.getElem?_eq_getElem hkl⟩
                have htup : H13' t = some (.tup [.str ln, .int th]) := by
                  obtain ⟨y, e1, e2⟩ := (s23.at_ 2 rfl : TupsAt _ _ _).get hti
                  rw [List.getElem?_map, hx] at e1
                  cases e1
                  exact e2
                simp only [upd_same, tCutE, tIfE, false_and, exists_false, false_or, or_false, tRet, tRetN, tAndV, tOrV, tNotV, tChain, rI, rI0, rU, tC, tCB, tCons, tNil, tVar, tOp, tUn, tTest, tB, tAnd, tOr, tNot, tIf, tIfS, tSeq, tAsg, tDrop, tNext, gName, gTup_ref, gCons_cons, gNil_nil, and_assoc, tYes, wipe, rEq, rNe, scal_ss, scal_ii, scal_bb, scal_ns, scal_sn, scal_nn, scal_in, scal_ni, tLc_eq, tFor_eq, iList, iTup, iStr, iRng1, iRng2, iZip, iEnum, gSub, tSl, rSetL_ref, rCat_ref, rRep_ref, rJoin_ref, rSlL_ref, rSlS_ref, rMulS_ref, rIxL_ref, rIxT_ref, rLenK_ref, rAll_ref, rIn_ref, tLst, tTup, tPar, tPar3, tAug, tPart, tNoPart, tCall, List.getElem?_cons_zero, List.getElem?_cons_succ, List.set_cons_zero, List.set_cons_succ, List.map_cons, List.map_nil, List.append_nil, List.nil_append, List.cons_append, Option.some.injEq, exists_eq_left', exists_eq_left, exists_eq_right, exists_eq_right', exists_eq', V.int.injEq, V.str.injEq, V.bl.injEq, V.ref.injEq, List.cons.injEq, tM0, tM1, rNewStrs, sgn_eq, split_dot, split_sp, split_nl, dot_len, sp_len, nl_len, cxOf_K, L2.start, List.length_cons, List.length_nil, List.replicate_succ, List.replicate_zero, Nat.reduceSub, Nat.zero_add, and_true, true_and, and_self, exists_and_left, exists_const, Bool.false_eq_true, if_false, if_true, ite_true, ite_false, reduceIte, decide_eq_true_eq, reduceCtorEq, Nat.reduceAdd, Nat.reduceLT, tMseq, tMret, tNdef1, tThru, tCallV, tCallVF, tCallVO, tListZip, tCallX, tCallXU, tCallV, tCallVS, tLam1, tLamD, tCallS, tCls, tClsD, cx_cells, cx_scope, cx_N, cx_prog, cx_w, cx_base, cx_mg, cx_qual]
                obtain ⟨td, hdu, ttd⟩ := s23.at_ 4 rfl
                have ltd := ttd.len
                rw [List.length_map] at ltd
                have hr17 : Row17 (ln, th) := hls _ (List.mem_of_getElem? hx)
                refine ⟨by decide, fun dl ndl => ?_⟩
                obtain ⟨a1, f1⟩ := newF (H := H13') (o := .lst [V.ref t]) rfl ndl
                generalize upd H13' dl (.lst [V.ref t]) = Ha at a1 f1 ⊢
                refine ⟨_, _, .tup (.of (a1 _ _ htup)) (.cons (.str _) (.cons (.int _) .nil)), dp_R (a1 _ _ hdu) (ttd.mono fun t x e => a1 _ _ e), (deR hr17).shaped (by decide), (DEq.list (k := 1) (deq_map fun x hx => deR (hrs x hx))).shaped (by decide), .inr ⟨_, rfl, ?_⟩⟩
                rw [show ((ss.map dR).any fun z => PyData.eqv z (.tuple [.str ln, .int th])) = decide ((ln, th) ∈ ss) from any_dR (ss := ss) (x := (ln, th))]
                by_cases hm : (ln, th) ∈ ss
                · rw [decide_eq_true hm]
                  simp only [Bool.not_true, Bool.false_eq_true, if_false]
                  refine ⟨_, f1, by decide, by decide, by show 1 * 0 ≤ sizeLine; decide, fun rp nrp => ?_⟩
                  rw [Int.toNat_zero, List.replicate_zero, List.flatten_nil]
                  obtain ⟨a2, f2⟩ := newF (H := Ha) (o := .lst []) rfl nrp
                  generalize upd Ha rp (.lst []) = Hb at a2 f2 ⊢
                  refine ⟨_, (a1.trans a2) _ _ hdu, _, rfl, by rw [List.length_map]; exact small (by simp; omega), fun du2 ndu => ?_⟩
                  obtain ⟨a3, f3⟩ := newF (H := Hb) (o := .lst (td.map V.ref ++ [])) rfl ndu
                  generalize upd Hb du2 (.lst (td.map V.ref ++ [])) = Hc at a3 f3 ⊢
                  have a13 := (a1.trans a2).trans a3
                  have sD : Sep K Hc [rSrc h l, rLst D (ts.map V.ref), rRows ts ls, rRow lg (ss.map lgV), rRow du2 (ss.map rowV), rRow rw ((msM ss).map rowM), rImm fun H => CloAt H wf nfWrk ["_law_log", "_law_mark"] [.ref lg, .int 1] ∧ CloAt H g nfMind ["rows", "work"] [.ref rw, .ref wf]] := s23.rowSet (S := No) 4 rfl (.of_same a13 s23.tab) (fun b z => z.elim) (.inr ((a1.trans a2).free ndu)) (ts := td) (by rw [f3, List.append_nil]) (ttd.mono fun t x e => a13 _ _ e)
                  have htup := a13 _ _ htup
                  clear a1 f1 a2 f2 a3 f3 a13 ndu nrp ndl hdu ttd ltd
                  refine ⟨_, .of htup, _, rfl, _, .of htup, _, rfl, fun CE obs => ?_⟩
                  obtain ⟨tg, hlg, ttg⟩ := sD.at_ 3 rfl
                  have ltg := ttg.len
                  rw [List.length_map] at ltg
                  obtain ⟨tr, hrw, ttr⟩ := sD.at_ 5 rfl
                  obtain ⟨cw, cg⟩ := sD.at_ 6 rfl
                  obtain ⟨jx, hjx⟩ := List.mem_iff_getElem?.mp hm
                  obtain ⟨sp, ac, g0⟩ := tell_old (P := P) (w := w) (base := base) T (cg.same CE.same) (CE.same _ _ hrw) (ttr.mono fun t x e => CE.same _ _ e) (by rw [ms_len]; omega) (find_ms hnd hjx)
                  refine ⟨sp, ac, g0 _ _ (fun v H' r u => ?_) (fun _ _ _ z => z.elim)⟩
                  obtain ⟨rfl, rfl⟩ := r
                  rw [del_ex CE]
                  have s24 := sD
                  have hnd2 := hnd
                  have hrs2 := hrs
                  have hq2 : ss.length ≤ k + 1 := by omega
                  obtain ⟨ss2, hss2⟩ : ∃ ss2, ss2 = ss := ⟨_, rfl⟩
                  rw [← hss2] at s24 hjx hnd2 hrs2 hq2
                  generalize Hc = Hg at s24 ⊢
                  clear sD g0 ac u cw cg ttr hrw hlg ttg htup
                  obtain ⟨tdd, hdd, ttd⟩ := s24.at_ 4 rfl
                  have htup2 : Hg t = some (.tup [.str ln, .int th]) := by
                    obtain ⟨y, e1, e2⟩ := (s24.at_ 2 rfl : TupsAt _ _ _).get hti
                    rw [List.getElem?_map, hx] at e1
                    cases e1
                    exact e2
                  simp only [tBM, tCutE, tIfE, false_and, exists_false, false_or, or_false, tRet, tRetN, tAndV, tOrV, tNotV, tChain, rI, rI0, rU, tC, tCB, tCons, tNil, tVar, tOp, tUn, tTest, tB, tAnd, tOr, tNot, tIf, tIfS, tSeq, tAsg, tDrop, tNext, gName, gTup_ref, gCons_cons, gNil_nil, and_assoc, tYes, wipe, rEq, rNe, scal_ss, scal_ii, scal_bb, scal_ns, scal_sn, scal_nn, scal_in, scal_ni, tLc_eq, tFor_eq, iList, iTup, iStr, iRng1, iRng2, iZip, iEnum, gSub, tSl, rSetL_ref, rCat_ref, rRep_ref, rJoin_ref, rSlL_ref, rSlS_ref, rMulS_ref, rIxL_ref, rIxT_ref, rLenK_ref, rAll_ref, rIn_ref, tLst, tTup, tPar, tPar3, tAug, tPart, tNoPart, tCall, List.getElem?_cons_zero, List.getElem?_cons_succ, List.set_cons_zero, List.set_cons_succ, List.map_cons, List.map_nil, List.append_nil, List.nil_append, List.cons_append, Option.some.injEq, exists_eq_left', exists_eq_left, exists_eq_right, exists_eq_right', exists_eq', V.int.injEq, V.str.injEq, V.bl.injEq, V.ref.injEq, List.cons.injEq, tM0, tM1, rNewStrs, sgn_eq, split_dot, split_sp, split_nl, dot_len, sp_len, nl_len, cxOf_K, L2.start, List.length_cons, List.length_nil, List.replicate_succ, List.replicate_zero, Nat.reduceSub, Nat.zero_add, and_true, true_and, and_self, exists_and_left, exists_const, Bool.false_eq_true, if_false, if_true, ite_true, ite_false, reduceIte, decide_eq_true_eq, reduceCtorEq, Nat.reduceAdd, Nat.reduceLT, tMseq, tMret, tNdef1, tThru, tCallV, tCallVF, tCallVO, tListZip, tCallX, tCallXU, tCallV, tCallVS, tLam1, tLamD, tCallS, tCls, tClsD, cx_cells, cx_scope, cx_N, cx_prog, cx_w, cx_base, cx_mg, cx_qual]
                  refine ⟨.inl ⟨rfl, _, .of hdd⟩, du2, .ref t, dR (ln, th), ss2.map dR, jx, dR (ln, th), rfl, rfl, dp_R hdd ttd, .tup (.of htup2) (.cons (.str _) (.cons (.int _) .nil)), (DEq.list (k := 1) (deq_map fun x hx => deR (hrs2 x hx))).shaped (by decide), (deR hr17).shaped (by decide), by rw [List.getElem?_map, hjx]; rfl, by rw [eqv_dR]; simp, fun m z' hm hz' => ?_, _, rfl, ?_⟩
                  · rw [List.getElem?_map] at hz'
                    cases e : ss2[m]? with
                    | none => rw [e] at hz'; cases hz'
                    | some y =>
                      rw [e] at hz'
                      cases hz'
                      rw [eqv_dR]
                      refine decide_eq_false fun ey => ?_
                      obtain ⟨h1, e1⟩ := List.getElem?_eq_some_iff.mp e
                      obtain ⟨h2, e2⟩ := List.getElem?_eq_some_iff.mp hjx
                      have := (List.getElem_inj hnd2).mp ((e1.trans ey).trans e2.symm)
                      omega
                  refine ⟨_, _, .int ((jx : Int) + 1), rfl, .int _, .int _, Nat.lt_of_le_of_lt (DOk.int (k := 0)).1 (by decide), (DOk.int (k := 0)).2, fun Hh sh => ⟨_, rfl, ifN (by simp) ?_⟩⟩
                  have s25 := s24.same sh
                  clear s24 hdd ttd htup2
                  obtain ⟨tdd, hdd, ttd⟩ := s25.at_ 4 rfl
                  have ltd : tdd.length = ss2.length := by have := ttd.len; rwa [List.length_map] at this
                  refine ⟨⟨_, .of hdd⟩, lc_tups (tdd.zip ss2) (fun y => lgV y.2) (walk_tups ltd) (by rw [List.length_zip]; omega) (fun H s => .of (s _ _ hdd)) (fun j y x Hb Hc R hy sb hyy r => ?_) (fun cp Hb tq ncp sb hcp ttq => ?_)⟩
                  · obtain ⟨rfl, y', e1, rfl⟩ := hyy
                    rw [hy] at e1
                    cases e1
                    have hz := (TupsAt.zat ttd hy).1
                    simp only [tCutE, tIfE, false_and, exists_false, false_or, or_false, tRet, tRetN, tAndV, tOrV, tNotV, tChain, rI, rI0, rU, tC, tCB, tCons, tNil, tVar, tOp, tUn, tTest, tB, tAnd, tOr, tNot, tIf, tIfS, tSeq, tAsg, tDrop, tNext, gName, gTup_ref, gCons_cons, gNil_nil, and_assoc, tYes, wipe, rEq, rNe, scal_ss, scal_ii, scal_bb, scal_ns, scal_sn, scal_nn, scal_in, scal_ni, tLc_eq, tFor_eq, iList, iTup, iStr, iRng1, iRng2, iZip, iEnum, gSub, tSl, rSetL_ref, rCat_ref, rRep_ref, rJoin_ref, rSlL_ref, rSlS_ref, rMulS_ref, rIxL_ref, rIxT_ref, rLenK_ref, rAll_ref, rIn_ref, tLst, tTup, tPar, tPar3, tAug, tPart, tNoPart, tCall, List.getElem?_cons_zero, List.getElem?_cons_succ, List.set_cons_zero, List.set_cons_succ, List.map_cons, List.map_nil, List.append_nil, List.nil_append, List.cons_append, Option.some.injEq, exists_eq_left', exists_eq_left, exists_eq_right, exists_eq_right', exists_eq', V.int.injEq, V.str.injEq, V.bl.injEq, V.ref.injEq, List.cons.injEq, tM0, tM1, rNewStrs, sgn_eq, split_dot, split_sp, split_nl, dot_len, sp_len, nl_len, cxOf_K, L2.start, List.length_cons, List.length_nil, List.replicate_succ, List.replicate_zero, Nat.reduceSub, Nat.zero_add, and_true, true_and, and_self, exists_and_left, exists_const, Bool.false_eq_true, if_false, if_true, ite_true, ite_false, reduceIte, decide_eq_true_eq, reduceCtorEq, Nat.reduceAdd, Nat.reduceLT, tMseq, tMret, tNdef1, tThru, tCallV, tCallVF, tCallVO, tListZip, tCallX, tCallXU, tCallV, tCallVS, tLam1, tLamD, tCallS, tCls, tClsD, cx_cells, cx_scope, cx_N, cx_prog, cx_w, cx_base, cx_mg, cx_qual]
                    refine ⟨by decide, fun p np => ⟨p, _, [V.int 1], rowV y.2, rfl, rfl, .of upd_same, .of (by rw [upd_ne (ne_of_none (sb _ _ hz) np)]; exact sb _ _ hz), small (by simp [rowV]), (fun z => by cases z), (fun _ z => by cases z), fun _ _ p2 np2 => r p2 _ np2 (same_put (Same.refl _) np)⟩⟩
                  · obtain ⟨tg, hlg, ttg⟩ := s25.at_ 3 rfl
                    have et : (tdd.zip ss2).map (fun y => lgV y.2) = ss2.map lgV := zip_snd_map ltd lgV
                    rw [et] at ttq
                    exact rNe_same (dp_L (sb _ _ hlg) (ttg.mono fun t x e => sb _ _ e)) (dp_L hcp ttq) (DEq.list (k := 1) (deq_map fun x hx => deL (hrs2 x hx))) (by decide) ⟨_, rfl, ifN (by simp) ((hP3 _ _ _).mpr ⟨du2, ss2, _, rfl, s25.same sb, hq2, hnd2, hrs2⟩)⟩
                · rw [decide_eq_false hm]
                  simp only [Bool.not_false, if_true]
                  refine ⟨_, f1, by decide, by decide, by show 1 * 1 ≤ sizeLine; decide, fun rp nrp => ?_⟩
                  rw [Int.toNat_one, List.replicate_one, List.flatten_cons, List.flatten_nil, List.append_nil]
                  obtain ⟨a2, f2⟩ := newF (H := Ha) (o := .lst [V.ref t]) rfl nrp
                  generalize upd Ha rp (.lst [V.ref t]) = Hb at a2 f2 ⊢
                  refine ⟨_, (a1.trans a2) _ _ hdu, _, rfl, by rw [List.length_map]; exact small (by simp; omega), fun du2 ndu => ?_⟩
                  obtain ⟨a3, f3⟩ := newF (H := Hb) (o := .lst (td.map V.ref ++ [V.ref t])) rfl ndu
                  generalize upd Hb du2 (.lst (td.map V.ref ++ [V.ref t])) = Hc at a3 f3 ⊢
                  have a13 := (a1.trans a2).trans a3
                  have htup := a13 _ _ htup
                  have sD : Sep K Hc [rSrc h l, rLst D (ts.map V.ref), rRows ts ls, rRow lg (ss.map lgV), rRow du2 ((ss ++ [(ln, th)]).map rowV), rRow rw ((msM ss).map rowM), rImm fun H => CloAt H wf nfWrk ["_law_log", "_law_mark"] [.ref lg, .int 1] ∧ CloAt H g nfMind ["rows", "work"] [.ref rw, .ref wf]] := s23.rowSet (S := No) 4 rfl (.of_same a13 s23.tab) (fun b z => z.elim) (.inr ((a1.trans a2).free ndu)) (ts := td ++ [t]) (by rw [f3]; simp) (by
                    rw [List.map_append]
                    exact TupsAt.snoc htup (ttd.mono fun t x e => a13 _ _ e))
                  clear a1 f1 a2 f2 a3 f3 a13 ndu nrp ndl hdu ttd ltd
                  refine ⟨_, .of htup, _, rfl, _, .of htup, _, rfl, fun CE obs => ?_⟩
                  obtain ⟨tg, hlg, ttg⟩ := sD.at_ 3 rfl
                  have ltg := ttg.len
                  rw [List.length_map] at ltg
                  obtain ⟨tr, hrw, ttr⟩ := sD.at_ 5 rfl
                  obtain ⟨cw, cg⟩ := sD.at_ 6 rfl
                  have nrl : rw ≠ lg := fun z => sD.ne (i := 5) (j := 3) rfl rfl (by decide) (b := rw) rfl z
                  obtain ⟨sp, ac, g0⟩ := tell_new (P := P) (w := w) (base := base) T (cw.same CE.same) (cg.same CE.same) (CE.same _ _ hrw) (ttr.mono fun t x e => CE.same _ _ e) (by rw [ms_len]; omega) (CE.same _ _ hlg) (by rw [List.length_map]; omega) nrl (find_msN hm)
                  refine ⟨sp, ac, g0 _ _ (fun v H' r u => ?_) (fun _ _ _ z => z.elim)⟩
                  obtain ⟨rfl, u1, u2, n1, n2, rfl⟩ := r
                  rw [List.length_map, ltg] at u ⊢
                  have q1 : lg ≠ u1 := ne_of_none (CE.same _ _ hlg) n1
                  have q4 : rw ≠ u1 := ne_of_none (CE.same _ _ hrw) n1
                  have q2 : lg ≠ u2 := fun z => by rw [← z, upd_same] at n2; cases n2
                  have q3 : u1 ≠ u2 := fun z => by rw [← z, upd_ne q1.symm, upd_same] at n2; cases n2
                  have q5 : rw ≠ u2 := fun z => by rw [← z, upd_ne nrl, upd_ne q4, CE.same _ _ hrw] at n2; cases n2
                  have ilg : ¬ InC _ lg := CE.out hlg
                  have irw : ¬ InC _ rw := CE.out hrw
                  have i1 : ¬ InC _ u1 := u.nin CE (o := .tup [V.int 1, V.str ln, V.int th]) (by rw [upd_ne q4.symm, upd_ne q3, upd_ne q1.symm, upd_same]) fun _ _ z => by cases z
                  have i2 : ¬ InC _ u2 := u.nin CE (o := .tup [V.str ln, V.int th, V.int ((ss.length : Int) + 1)]) (by rw [upd_ne q5.symm, upd_same]) fun _ _ z => by cases z
                  rw [delC_upd irw, delC_upd i2, delC_upd ilg, delC_upd i1, del_ex CE]
                  have m1 : Hc u1 = none := (exC_out i1).symm.trans n1
                  have m2 : Hc u2 = none := by
                    rw [upd_ne q2.symm, upd_ne q3.symm] at n2
                    exact (exC_out i2).symm.trans n2
                  have w1 : Fwd K (fun b => b = lg) Hc (upd Hc u1 (.tup [V.int 1, V.str ln, V.int th])) := (Fw.refl sD.tab).new m1
                  have hl1 : upd Hc u1 (.tup [V.int 1, V.str ln, V.int th]) lg = some (.lst (tg.map V.ref)) := by rw [upd_ne q1]; exact hlg
                  have w2 := w1.put (o := .lst (tg.map V.ref ++ [.ref u1])) hl1 (fun _ z => by cases z) (fun z => z) (.inl rfl)
                  have sE : Sep K (upd (upd Hc u1 (.tup [V.int 1, V.str ln, V.int th])) lg (.lst (tg.map V.ref ++ [.ref u1]))) [rSrc h l, rLst D (ts.map V.ref), rRows ts ls, rRow lg ((ss ++ [(ln, th)]).map lgV), rRow du2 ((ss ++ [(ln, th)]).map rowV), rRow rw ((msM ss).map rowM), rImm fun H => CloAt H wf nfWrk ["_law_log", "_law_mark"] [.ref lg, .int 1] ∧ CloAt H g nfMind ["rows", "work"] [.ref rw, .ref wf]] :=
                    sD.rowSet (S := fun b => b = lg) 3 rfl w2 (fun b z => .inl z) (.inl rfl) (ts := tg ++ [u1]) (by rw [upd_same]; simp) (by
                      rw [List.map_append]
                      exact TupsAt.snoc (by rw [upd_ne q1.symm, upd_same]) (ttg.mono fun t x e => w2.tup e))
                  have m3 : upd (upd Hc u1 (.tup [V.int 1, V.str ln, V.int th])) lg (.lst (tg.map V.ref ++ [.ref u1])) u2 = none := by rw [upd_ne q2.symm, upd_ne q3.symm]; exact m2
                  have hr1 : upd (upd Hc u1 (.tup [V.int 1, V.str ln, V.int th])) lg (.lst (tg.map V.ref ++ [.ref u1])) rw = some (.lst (tr.map V.ref)) := by rw [upd_ne nrl, upd_ne q4]; exact hrw
                  have ttr2 : TupsAt (upd (upd Hc u1 (.tup [V.int 1, V.str ln, V.int th])) lg (.lst (tg.map V.ref ++ [.ref u1]))) tr ((msM ss).map rowM) := ttr.mono fun t x e => w2.tup e
                  generalize upd (upd Hc u1 (.tup [V.int 1, V.str ln, V.int th])) lg (.lst (tg.map V.ref ++ [.ref u1])) = Hd at sE m3 hr1 ttr2 ⊢
                  have w3 : Fwd K (fun b => b = rw) Hd (upd Hd u2 (.tup [V.str ln, V.int th, V.int ((ss.length : Int) + 1)])) := (Fw.refl sE.tab).new m3
                  have w4 := w3.put (a := rw) (o := .lst (tr.map V.ref ++ [.ref u2])) (o' := .lst (tr.map V.ref)) (by rw [upd_ne q5]; exact hr1) (fun _ z => by cases z) (fun z => z) (.inl rfl)
                  have s24 : Sep K (upd (upd Hd u2 (.tup [V.str ln, V.int th, V.int ((ss.length : Int) + 1)])) rw (.lst (tr.map V.ref ++ [.ref u2]))) [rSrc h l, rLst D (ts.map V.ref), rRows ts ls, rRow lg ((ss ++ [(ln, th)]).map lgV), rRow du2 ((ss ++ [(ln, th)]).map rowV), rRow rw ((msM (ss ++ [(ln, th)])).map rowM), rImm fun H => CloAt H wf nfWrk ["_law_log", "_law_mark"] [.ref lg, .int 1] ∧ CloAt H g nfMind ["rows", "work"] [.ref rw, .ref wf]] :=
                    sE.rowSet (S := fun b => b = rw) 5 rfl w4 (fun b z => .inl z) (.inl rfl) (ts := tr ++ [u2]) (by rw [upd_same]; simp) (by
                      rw [ms_snoc, List.map_append]
                      exact TupsAt.snoc (by rw [upd_ne q5.symm, upd_same]; rfl) (ttr2.mono fun t x e => w4.tup e))
                  generalize upd (upd Hd u2 (.tup [V.str ln, V.int th, V.int ((ss.length : Int) + 1)])) rw (.lst (tr.map V.ref ++ [.ref u2])) = Hg at s24 ⊢
                  clear w1 w2 w3 w4 hl1 m1 m2 m3 hr1 ttr2 i1 i2 ilg irw q1 q2 q3 q4 q5 n1 n2 u g0 ac cw cg hlg ttg sD sE ttr hrw htup
                  obtain ⟨jx, hjx0⟩ : ∃ jx, jx = ss.length := ⟨_, rfl⟩
                  have hjx : (ss ++ [(ln, th)])[jx]? = some (ln, th) := by rw [hjx0]; simp
                  have hnd2 : (ss ++ [(ln, th)]).Nodup := List.nodup_append.mpr ⟨hnd, by simp, fun x hx y hy e => hm (by rw [List.mem_singleton.mp hy] at e; rw [← e]; exact hx)⟩
                  have hrs2 : ∀ x ∈ ss ++ [(ln, th)], Row17 x := fun x hx => by
                    rcases List.mem_append.mp hx with hx | hx
                    · exact hrs x hx
                    · rw [List.mem_singleton.mp hx]; exact hr17
                  have hq2 : (ss ++ [(ln, th)]).length ≤ k + 1 := by rw [List.length_append]; simp; omega
                  rw [← hjx0]
                  generalize ss ++ [(ln, th)] = ss2 at s24 hjx hnd2 hrs2 hq2
                  obtain ⟨tdd, hdd, ttd⟩ := s24.at_ 4 rfl
                  have htup2 : Hg t = some (.tup [.str ln, .int th]) := by
                    obtain ⟨y, e1, e2⟩ := (s24.at_ 2 rfl : TupsAt _ _ _).get hti
                    rw [List.getElem?_map, hx] at e1
                    cases e1
                    exact e2
                  simp only [tBM, tCutE, tIfE, false_and, exists_false, false_or, or_false, tRet, tRetN, tAndV, tOrV, tNotV, tChain, rI, rI0, rU, tC, tCB, tCons, tNil, tVar, tOp, tUn, tTest, tB, tAnd, tOr, tNot, tIf, tIfS, tSeq, tAsg, tDrop, tNext, gName, gTup_ref, gCons_cons, gNil_nil, and_assoc, tYes, wipe, rEq, rNe, scal_ss, scal_ii, scal_bb, scal_ns, scal_sn, scal_nn, scal_in, scal_ni, tLc_eq, tFor_eq, iList, iTup, iStr, iRng1, iRng2, iZip, iEnum, gSub, tSl, rSetL_ref, rCat_ref, rRep_ref, rJoin_ref, rSlL_ref, rSlS_ref, rMulS_ref, rIxL_ref, rIxT_ref, rLenK_ref, rAll_ref, rIn_ref, tLst, tTup, tPar, tPar3, tAug, tPart, tNoPart, tCall, List.getElem?_cons_zero, List.getElem?_cons_succ, List.set_cons_zero, List.set_cons_succ, List.map_cons, List.map_nil, List.append_nil, List.nil_append, List.cons_append, Option.some.injEq, exists_eq_left', exists_eq_left, exists_eq_right, exists_eq_right', exists_eq', V.int.injEq, V.str.injEq, V.bl.injEq, V.ref.injEq, List.cons.injEq, tM0, tM1, rNewStrs, sgn_eq, split_dot, split_sp, split_nl, dot_len, sp_len, nl_len, cxOf_K, L2.start, List.length_cons, List.length_nil, List.replicate_succ, List.replicate_zero, Nat.reduceSub, Nat.zero_add, and_true, true_and, and_self, exists_and_left, exists_const, Bool.false_eq_true, if_false, if_true, ite_true, ite_false, reduceIte, decide_eq_true_eq, reduceCtorEq, Nat.reduceAdd, Nat.reduceLT, tMseq, tMret, tNdef1, tThru, tCallV, tCallVF, tCallVO, tListZip, tCallX, tCallXU, tCallV, tCallVS, tLam1, tLamD, tCallS, tCls, tClsD, cx_cells, cx_scope, cx_N, cx_prog, cx_w, cx_base, cx_mg, cx_qual]
                  refine ⟨.inl ⟨rfl, _, .of hdd⟩, du2, .ref t, dR (ln, th), ss2.map dR, jx, dR (ln, th), rfl, rfl, dp_R hdd ttd, .tup (.of htup2) (.cons (.str _) (.cons (.int _) .nil)), (DEq.list (k := 1) (deq_map fun x hx => deR (hrs2 x hx))).shaped (by decide), (deR hr17).shaped (by decide), by rw [List.getElem?_map, hjx]; rfl, by rw [eqv_dR]; simp, fun m z' hm hz' => ?_, _, rfl, ?_⟩
                  · rw [List.getElem?_map] at hz'
                    cases e : ss2[m]? with
                    | none => rw [e] at hz'; cases hz'
                    | some y =>
                      rw [e] at hz'
                      cases hz'
                      rw [eqv_dR]
                      refine decide_eq_false fun ey => ?_
                      obtain ⟨h1, e1⟩ := List.getElem?_eq_some_iff.mp e
                      obtain ⟨h2, e2⟩ := List.getElem?_eq_some_iff.mp hjx
                      have := (List.getElem_inj hnd2).mp ((e1.trans ey).trans e2.symm)
                      omega
                  refine ⟨_, _, .int ((jx : Int) + 1), rfl, .int _, .int _, Nat.lt_of_le_of_lt (DOk.int (k := 0)).1 (by decide), (DOk.int (k := 0)).2, fun Hh sh => ⟨_, rfl, ifN (by simp) ?_⟩⟩
                  have s25 := s24.same sh
                  clear s24 hdd ttd htup2
                  obtain ⟨tdd, hdd, ttd⟩ := s25.at_ 4 rfl
                  have ltd : tdd.length = ss2.length := by have := ttd.len; rwa [List.length_map] at this
                  refine ⟨⟨_, .of hdd⟩, lc_tups (tdd.zip ss2) (fun y => lgV y.2) (walk_tups ltd) (by rw [List.length_zip]; omega) (fun H s => .of (s _ _ hdd)) (fun j y x Hb Hc R hy sb hyy r => ?_) (fun cp Hb tq ncp sb hcp ttq => ?_)⟩
                  · obtain ⟨rfl, y', e1, rfl⟩ := hyy
                    rw [hy] at e1
                    cases e1
                    have hz := (TupsAt.zat ttd hy).1
                    simp only [tCutE, tIfE, false_and, exists_false, false_or, or_false, tRet, tRetN, tAndV, tOrV, tNotV, tChain, rI, rI0, rU, tC, tCB, tCons, tNil, tVar, tOp, tUn, tTest, tB, tAnd, tOr, tNot, tIf, tIfS, tSeq, tAsg, tDrop, tNext, gName, gTup_ref, gCons_cons, gNil_nil, and_assoc, tYes, wipe, rEq, rNe, scal_ss, scal_ii, scal_bb, scal_ns, scal_sn, scal_nn, scal_in, scal_ni, tLc_eq, tFor_eq, iList, iTup, iStr, iRng1, iRng2, iZip, iEnum, gSub, tSl, rSetL_ref, rCat_ref, rRep_ref, rJoin_ref, rSlL_ref, rSlS_ref, rMulS_ref, rIxL_ref, rIxT_ref, rLenK_ref, rAll_ref, rIn_ref, tLst, tTup, tPar, tPar3, tAug, tPart, tNoPart, tCall, List.getElem?_cons_zero, List.getElem?_cons_succ, List.set_cons_zero, List.set_cons_succ, List.map_cons, List.map_nil, List.append_nil, List.nil_append, List.cons_append, Option.some.injEq, exists_eq_left', exists_eq_left, exists_eq_right, exists_eq_right', exists_eq', V.int.injEq, V.str.injEq, V.bl.injEq, V.ref.injEq, List.cons.injEq, tM0, tM1, rNewStrs, sgn_eq, split_dot, split_sp, split_nl, dot_len, sp_len, nl_len, cxOf_K, L2.start, List.length_cons, List.length_nil, List.replicate_succ, List.replicate_zero, Nat.reduceSub, Nat.zero_add, and_true, true_and, and_self, exists_and_left, exists_const, Bool.false_eq_true, if_false, if_true, ite_true, ite_false, reduceIte, decide_eq_true_eq, reduceCtorEq, Nat.reduceAdd, Nat.reduceLT, tMseq, tMret, tNdef1, tThru, tCallV, tCallVF, tCallVO, tListZip, tCallX, tCallXU, tCallV, tCallVS, tLam1, tLamD, tCallS, tCls, tClsD, cx_cells, cx_scope, cx_N, cx_prog, cx_w, cx_base, cx_mg, cx_qual]
                    refine ⟨by decide, fun p np => ⟨p, _, [V.int 1], rowV y.2, rfl, rfl, .of upd_same, .of (by rw [upd_ne (ne_of_none (sb _ _ hz) np)]; exact sb _ _ hz), small (by simp [rowV]), (fun z => by cases z), (fun _ z => by cases z), fun _ _ p2 np2 => r p2 _ np2 (same_put (Same.refl _) np)⟩⟩
                  · obtain ⟨tg, hlg, ttg⟩ := s25.at_ 3 rfl
                    have et : (tdd.zip ss2).map (fun y => lgV y.2) = ss2.map lgV := zip_snd_map ltd lgV
                    rw [et] at ttq
                    exact rNe_same (dp_L (sb _ _ hlg) (ttg.mono fun t x e => sb _ _ e)) (dp_L hcp ttq) (DEq.list (k := 1) (deq_map fun x hx => deL (hrs2 x hx))) (by decide) ⟨_, rfl, ifN (by simp) ((hP3 _ _ _).mpr ⟨du2, ss2, _, rfl, s25.same sb, hq2, hnd2, hrs2⟩)⟩
              · obtain ⟨du, ss, x15, rfl, s23, hq, hnd, hrs⟩ := (hP3 _ _ _).mp hP
                exact (hR2 _ _).mpr ⟨_, _, _, _, _, _, _, _, _, _, _, _, _, rfl, s23.take 3⟩
            · obtain ⟨x4, x5, x6, x7, x8, x9, x10, x11, x12, x13, x14, x15, x16, rfl, s23⟩ := (hR2 _ _).mp h12
              clear h12 s22
              simp only [upd_same, tCutE, tIfE, false_and, exists_false, false_or, or_false, tRet, tRetN, tAndV, tOrV, tNotV, tChain, rI, rI0, rU, tC, tCB, tCons, tNil, tVar, tOp, tUn, tTest, tB, tAnd, tOr, tNot, tIf, tIfS, tSeq, tAsg, tDrop, tNext, gName, gTup_ref, gCons_cons, gNil_nil, and_assoc, tYes, wipe, rEq, rNe, scal_ss, scal_ii, scal_bb, scal_ns, scal_sn, scal_nn, scal_in, scal_ni, tLc_eq, tFor_eq, iList, iTup, iStr, iRng1, iRng2, iZip, iEnum, gSub, tSl, rSetL_ref, rCat_ref, rRep_ref, rJoin_ref, rSlL_ref, rSlS_ref, rMulS_ref, rIxL_ref, rIxT_ref, rLenK_ref, rAll_ref, rIn_ref, tLst, tTup, tPar, tPar3, tAug, tPart, tNoPart, tCall, List.getElem?_cons_zero, List.getElem?_cons_succ, List.set_cons_zero, List.set_cons_succ, List.map_cons, List.map_nil, List.append_nil, List.nil_append, List.cons_append, Option.some.injEq, exists_eq_left', exists_eq_left, exists_eq_right, exists_eq_right', exists_eq', V.int.injEq, V.str.injEq, V.bl.injEq, V.ref.injEq, List.cons.injEq, tM0, tM1, rNewStrs, sgn_eq, split_dot, split_sp, split_nl, dot_len, sp_len, nl_len, cxOf_K, L2.start, List.length_cons, List.length_nil, List.replicate_succ, List.replicate_zero, Nat.reduceSub, Nat.zero_add, and_true, true_and, and_self, exists_and_left, exists_const, Bool.false_eq_true, if_false, if_true, ite_true, ite_false, reduceIte, decide_eq_true_eq, reduceCtorEq, Nat.reduceAdd, Nat.reduceLT, tMseq, tMret, tNdef1, tThru, tCallV, tCallVF, tCallVO, tListZip, tCallX, tCallXU, tCallV, tCallVS, tLam1, tLamD, tCallS, tCls, tClsD, cx_cells, cx_scope, cx_N, cx_prog, cx_w, cx_base, cx_mg, cx_qual]
              refine ⟨by decide, fun lg nlg => ?_⟩
              have s24 := s23.llNew (same_put (o := .lst []) (Same.refl _) nlg) nlg upd_same
              generalize upd H12 lg (.lst []) = H13 at s24 ⊢
              refine ⟨h, l, 3, rfl, s24.at_ 0 rfl, by decide, by decide, fun H14 w3 xt3 S3 w0 w1 => ?_⟩
              have s25 := s24.draw 0 rfl xt3 S3
              clear s24 s23 nlg xt3 S3
              obtain ⟨W, hW, W1, W5⟩ : ∃ W : Nat, 2 + w3 = (W : Int) ∧ 2 ≤ W ∧ W ≤ 4 := ⟨(2 + w3).toNat, by omega, by omega, by omega⟩
              refine ⟨_, rfl, s25.tab, fun f c' H1 e1 d1 T1 f0 f1 c1 => ?_⟩
              have w1' : Fwd K No H14 H1 := Fw.of_off s25.tab e1 d1 T1
              have s26 := s25.fno w1'
              obtain ⟨L, hLf, hLc, hAg⟩ : ∃ L : LF, H1 f = some (LamO f L) ∧ H1 L.c = some (CodeO L.c L.qual) ∧ AgL P w K mg base f L (cellsFrom (s.heap.objs.size + 1) (defScope s_law).names []) (defScope s_law) N_law := by
                refine ⟨_, f1, c1, rfl, rfl, fun k => ?_, by kernel_rfl, (nscope_by (N := ["_law_work"]) (ps := []) (fr := frAg) (by kernel_rfl)).free, by rfl⟩
                refine act_lamF (N := ["_law_work"]) (ps := []) (fr := frAg) (nscope_by (by kernel_rfl)) (fun Hf ws vs H Q E h => by obtain ⟨_, _, rfl, _⟩ := h; rfl) (fun pm ctv us hl => match us, hl with | [], _ => rfl) (fun S A outer s Hf vs ws Q E hr hco hz hC ho h => ?_)
                obtain ⟨g, rfl, rfl, sp1, a1, h⟩ := h
                refine ⟨_, (pe_callVFK (P := P) (w := w) (K := K) (mg := mg) (base := base) rfl rfl rfl rfl rfl (k := k) (i := 0) (hr.mono (by first | decide | omega)) (passes_call (takes_of rfl rfl rfl rfl) (fun _ _ _ _ h => h)) S.nd hco hz rfl rfl (Or.inr (Or.inr (by rfl))) (pa_cons pe_str (pa_cons pe_int pa_nil))), ?_⟩
                have hσ : ∀ {σ : L2.St} {obs : Addr → Obj} {Hx : Hp}, σ = [some (.ref g)] → (∀ c v ob, InC _ c → Hf c = some (CellO c v ob) → obs c = ob) → exC _ _ _ σ obs Hx = putC _ Hf Hx := fun {σ obs Hx} e hobs => exC_put S hC (fun i v hi => by
                  subst e
                  match i, hi with
                  | 0, hi => exact congrArg some hi) hobs
                simp only [startF, ncx_K, ncx_prog, ncx_w, ncx_mg, ncx_base, ncx_cells, ncx_scope, ncx_N, ncx_s0, tCutE, tIfE, false_and, exists_false, false_or, or_false, tRet, tRetN, tAndV, tOrV, tNotV, tChain, rI, rI0, rU, tC, tCB, tCons, tNil, tVar, tOp, tUn, tTest, tB, tAnd, tOr, tNot, tIf, tIfS, tSeq, tAsg, tDrop, tNext, gName, gTup_ref, gCons_cons, gNil_nil, and_assoc, tYes, wipe, rEq, rNe, scal_ss, scal_ii, scal_bb, scal_ns, scal_sn, scal_nn, scal_in, scal_ni, tLc_eq, tFor_eq, iList, iTup, iStr, iRng1, iRng2, iZip, iEnum, gSub, tSl, rSetL_ref, rCat_ref, rRep_ref, rJoin_ref, rSlL_ref, rSlS_ref, rMulS_ref, rIxL_ref, rIxT_ref, rLenK_ref, rAll_ref, rIn_ref, tLst, tTup, tPar, tPar3, tAug, tPart, tNoPart, tCall, List.getElem?_cons_zero, List.getElem?_cons_succ, List.set_cons_zero, List.set_cons_succ, List.map_cons, List.map_nil, List.append_nil, List.nil_append, List.cons_append, Option.some.injEq, exists_eq_left', exists_eq_left, exists_eq_right, exists_eq_right', exists_eq', V.int.injEq, V.str.injEq, V.bl.injEq, V.ref.injEq, List.cons.injEq, tM0, tM1, rNewStrs, sgn_eq, split_dot, split_sp, split_nl, dot_len, sp_len, nl_len, cxOf_K, L2.start, List.length_cons, List.length_nil, List.replicate_succ, List.replicate_zero, Nat.reduceSub, Nat.zero_add, and_true, true_and, and_self, exists_and_left, exists_const, Bool.false_eq_true, if_false, if_true, ite_true, ite_false, reduceIte, decide_eq_true_eq, reduceCtorEq, Nat.reduceAdd, Nat.reduceLT, tMseq, tMret, tNdef1, tThru, tCallV, tCallVF, tCallVO, tListZip, tCallX, tCallXU, tCallV, tCallVS, tLam1, tLamD, tCallS, tCls, tClsD, cx_cells, cx_scope, cx_N, cx_prog, cx_w, cx_base, cx_mg, cx_qual]
                refine fun hE obs hobs => ⟨sp1, a1, ?_⟩
                rw [hσ rfl (fun c v ob z e => hobs c ob z (ho c v ob z e)), put_self]
                exact h
              clear f1 c1 e1 d1 T1
              refine ⟨lg, f, rfl, s26.tab, fun H15 e w5 ne ce => ?_⟩
              have s27 := s26.fno w5
              refine ⟨e, _, rfl, s27.tab, fun z => absurd z (by omega), fun _ H16 g so w6 ng nso hso cg => ?_⟩
              have s28 : Sep K H16 ([rSrc h l, rLst D (ts.map V.ref), rRows ts ls, rLL lg []] ++ [rLst so []]) := s27.new w6 stb_lst hso fun b z => by
                have z : b = so := z
                subst z
                exact ⟨nso, by rw [hso]; simp⟩
              have s29 : Sep K H16 [rSrc h l, rLst D (ts.map V.ref), rRows ts ls, rLL lg [], rLst so [], rImm fun H => H f = some (LamO f L) ∧ H L.c = some (CodeO L.c L.qual) ∧ CloAt H e nfEcho ["_law_again", "_law_log"] [.ref f, .ref lg] ∧ CloAt H g nfGath ["many", "some", "work"] [.int (2 + w3), .ref so, .ref e]] :=
                s28.newI (fun S H H' h w => ⟨w.imm h.1 imm_lam, w.imm h.2.1 imm_code, h.2.2.1.fw w, h.2.2.2.fw w⟩) ⟨w6.imm (w5.imm hLf imm_lam) imm_lam, w6.imm (w5.imm hLc imm_code) imm_code, ce.fw w6, cg⟩
              clear s25 s26 s27 s28 w1' w5 w6 f0 hLf hLc ne ce ng nso hso cg
              simp only [upd_same, tCutE, tIfE, false_and, exists_false, false_or, or_false, tRet, tRetN, tAndV, tOrV, tNotV, tChain, rI, rI0, rU, tC, tCB, tCons, tNil, tVar, tOp, tUn, tTest, tB, tAnd, tOr, tNot, tIf, tIfS, tSeq, tAsg, tDrop, tNext, gName, gTup_ref, gCons_cons, gNil_nil, and_assoc, tYes, wipe, rEq, rNe, scal_ss, scal_ii, scal_bb, scal_ns, scal_sn, scal_nn, scal_in, scal_ni, tLc_eq, tFor_eq, iList, iTup, iStr, iRng1, iRng2, iZip, iEnum, gSub, tSl, rSetL_ref, rCat_ref, rRep_ref, rJoin_ref, rSlL_ref, rSlS_ref, rMulS_ref, rIxL_ref, rIxT_ref, rLenK_ref, rAll_ref, rIn_ref, tLst, tTup, tPar, tPar3, tAug, tPart, tNoPart, tCall, List.getElem?_cons_zero, List.getElem?_cons_succ, List.set_cons_zero, List.set_cons_succ, List.map_cons, List.map_nil, List.append_nil, List.nil_append, List.cons_append, Option.some.injEq, exists_eq_left', exists_eq_left, exists_eq_right, exists_eq_right', exists_eq', V.int.injEq, V.str.injEq, V.bl.injEq, V.ref.injEq, List.cons.injEq, tM0, tM1, rNewStrs, sgn_eq, split_dot, split_sp, split_nl, dot_len, sp_len, nl_len, cxOf_K, L2.start, List.length_cons, List.length_nil, List.replicate_succ, List.replicate_zero, Nat.reduceSub, Nat.zero_add, and_true, true_and, and_self, exists_and_left, exists_const, Bool.false_eq_true, if_false, if_true, ite_true, ite_false, reduceIte, decide_eq_true_eq, reduceCtorEq, Nat.reduceAdd, Nat.reduceLT, tMseq, tMret, tNdef1, tThru, tCallV, tCallVF, tCallVO, tListZip, tCallX, tCallXU, tCallV, tCallVS, tLam1, tLamD, tCallS, tCls, tClsD, cx_cells, cx_scope, cx_N, cx_prog, cx_w, cx_base, cx_mg, cx_qual]
              obtain ⟨R4, hR4⟩ : ∃ R : L2.St → Hp → Prop, ∀ σ H', R σ H' ↔ ∃ (qs : List A17) (x4 x7 x8 x9 x10 x11 x12 x13 x14 x15 x16 : Option V), σ = [some (.ref a), some (.ref h), some (.int (0 + (i : Int))), some (.ref D), x4, some (.int (2 + w3)), some (.ref lg), x7, x8, x9, x10, x11, x12, x13, x14, x15, x16] ∧
                Sep K H' [rSrc h l, rLst D (ts.map V.ref), rRows ts ls, rLL lg qs] ∧ qs.map (·.2) = [irg 0 W, 99 :: irg W (W - 1)] := ⟨_, fun _ _ => Iff.rfl⟩
              refine ⟨.inl ⟨by decide, by decide⟩, by omega, by omega, R4, ?_, fun σ H17 h17 => ?_⟩
              · obtain ⟨P4, hP4⟩ : ∃ P4 : Nat → L2.St → Hp → Prop, ∀ k σ H', P4 k σ H' ↔ ∃ (qs : List A17) (x4 : Option V), σ = [some (.ref a), some (.ref h), some (.int (0 + (i : Int))), some (.ref D), x4, some (.int (2 + w3)), some (.ref lg), x7, some (.ref g), x9, x10, x11, x12, x13, x14, x15, x16] ∧
                  Sep K H' [rSrc h l, rLst D (ts.map V.ref), rRows ts ls, rLL lg qs, rLst so ((st4 W k).1.map V.int), rImm fun H => H f = some (LamO f L) ∧ H L.c = some (CodeO L.c L.qual) ∧ CloAt H e nfEcho ["_law_again", "_law_log"] [.ref f, .ref lg] ∧ CloAt H g nfGath ["many", "some", "work"] [.int (2 + w3), .ref so, .ref e]] ∧ qs.map (·.2) = (st4 W k).2 := ⟨_, fun _ _ _ => Iff.rfl⟩
                rw [show (2 * (2 + w3) - 1).toNat = 2 * W - 1 by omega]
                refine forG walk_range P4 ((hP4 _ _ _).mpr ⟨[], _, rfl, (by rw [show st4 W 0 = ([], []) by unfold st4; rw [if_pos (by omega)]; rfl]; exact s29), (by rw [show st4 W 0 = ([], []) by unfold st4; rw [if_pos (by omega)]; rfl]; rfl)⟩) (fun _ _ _ _ _ => trivial) (fun k x σ H17 H17' hk hP hy => ?_) (fun σ H17 hP => ?_)
                · obtain ⟨qs, x4, rfl, s30, hqs⟩ := (hP4 _ _ _).mp hP
                  obtain ⟨rfl, rfl⟩ := hy
                  clear hP s29
                  simp only [upd_same, tCutE, tIfE, false_and, exists_false, false_or, or_false, tRet, tRetN, tAndV, tOrV, tNotV, tChain, rI, rI0, rU, tC, tCB, tCons, tNil, tVar, tOp, tUn, tTest, tB, tAnd, tOr, tNot, tIf, tIfS, tSeq, tAsg, tDrop, tNext, gName, gTup_ref, gCons_cons, gNil_nil, and_assoc, tYes, wipe, rEq, rNe, scal_ss, scal_ii, scal_bb, scal_ns, scal_sn, scal_nn, scal_in, scal_ni, tLc_eq, tFor_eq, iList, iTup, iStr, iRng1, iRng2, iZip, iEnum, gSub, tSl, rSetL_ref, rCat_ref, rRep_ref, rJoin_ref, rSlL_ref, rSlS_ref, rMulS_ref, rIxL_ref, rIxT_ref, rLenK_ref, rAll_ref, rIn_ref, tLst, tTup, tPar, tPar3, tAug, tPart, tNoPart, tCall, List.getElem?_cons_zero, List.getElem?_cons_succ, List.set_cons_zero, List.set_cons_succ, List.map_cons, List.map_nil, List.append_nil, List.nil_append, List.cons_append, Option.some.injEq, exists_eq_left', exists_eq_left, exists_eq_right, exists_eq_right', exists_eq', V.int.injEq, V.str.injEq, V.bl.injEq, V.ref.injEq, List.cons.injEq, tM0, tM1, rNewStrs, sgn_eq, split_dot, split_sp, split_nl, dot_len, sp_len, nl_len, cxOf_K, L2.start, List.length_cons, List.length_nil, List.replicate_succ, List.replicate_zero, Nat.reduceSub, Nat.zero_add, and_true, true_and, and_self, exists_and_left, exists_const, Bool.false_eq_true, if_false, if_true, ite_true, ite_false, reduceIte, decide_eq_true_eq, reduceCtorEq, Nat.reduceAdd, Nat.reduceLT, tMseq, tMret, tNdef1, tThru, tCallV, tCallVF, tCallVO, tListZip, tCallX, tCallXU, tCallV, tCallVS, tLam1, tLamD, tCallS, tCls, tClsD, cx_cells, cx_scope, cx_N, cx_prog, cx_w, cx_base, cx_mg, cx_qual]
                  refine fun CE obs => ?_
                  have hll := s30.at_ 3 rfl
                  have hlg : H17' lg = some (.lst (qs.map fun q => V.ref q.1)) := hll.lst
                  have hso := s30.lst 4 rfl
                  obtain ⟨hLf, hLc, ce, cg⟩ := s30.at_ 5 rfl
                  have nsl : so ≠ lg := fun z => s30.ne (i := 4) (j := 3) rfl rfl (by decide) (b := so) rfl (.inl z)
                  have iso : ¬ InC _ so := CE.out hso
                  have ilg : ¬ InC _ lg := CE.out hlg
                  by_cases c1 : k + 1 < W ∨ (W ≤ k ∧ k + 2 < 2 * W)
                  · obtain ⟨e1, e2⟩ := st_few c1
                    obtain ⟨sp, ac, g0⟩ := tell_few (P := P) (w := w) (base := base) T (line := .str (Str.ofString "a")) (th := .int (0 + (k : Int))) (cg.same CE.same) (CE.same _ _ hso) (by rw [List.length_map]; omega) (by rw [List.length_map]; omega)
                    refine ⟨sp, ac, g0 _ _ (fun v H' r u => ?_) (fun _ _ _ z => z.elim)⟩
                    obtain ⟨rfl, rfl⟩ := r
                    rw [delC_upd iso, del_ex CE]
                    refine (hP4 _ _ _).mpr ⟨qs, _, rfl, ?_, by rw [e1]; exact hqs⟩
                    rw [e1]
                    have := s30.put (ys := ((st4 W k).1 ++ [(k : Int)]).map V.int) 4 rfl
                    rw [List.map_append] at this ⊢
                    rw [Int.zero_add]
                    exact this
                  by_cases c2 : k + 1 = W
                  · obtain ⟨e1, e2⟩ := st_first c2 W1
                    rw [e1] at hso hqs s30
                    have hq0 : qs = [] := by simpa using hqs
                    subst hq0
                    have caps : CapsAt L.cl frAg [.ref g] (exC _ _ _ [some (.ref a), some (.ref h), some (.int (0 + (i : Int))), some (.ref D), some (.int (0 + (k : Int))), some (.int (2 + w3)), some (.ref lg), x7, some (.ref g), x9, x10, x11, x12, x13, x14, x15, x16] obs H17') := hAg.cl ▸ CE.caps hAg.nb hAg.fr (js := [8]) rfl rfl (fun a o h _ => h)
                    obtain ⟨sp, ac, g0⟩ := tell_first (P := P) (w := w) (base := base) T (line := .str (Str.ofString "a")) (th := .int (0 + (k : Int))) (hAg.ac 17) hAg.dT (CE.same _ _ hLf) (CE.same _ _ hLc) caps (ce.same CE.same) (cg.same CE.same) (CE.same _ _ hso) (CE.same _ _ hlg) nsl (by rw [List.length_map, irg_len]; omega) (by rw [List.length_map, irg_len]; omega) (by omega)
                    refine ⟨sp, ac, g0 _ _ (fun v H' r u => ?_) (fun _ _ _ z => z.elim)⟩
                    obtain ⟨p, np, rfl⟩ := r
                    have nps : so ≠ p := ne_of_none (CE.same _ _ hso) np
                    have npl : lg ≠ p := ne_of_none (CE.same _ _ hlg) np
                    have ip : ¬ InC _ p := u.nin CE (o := .lst ((irg 0 k).map V.int ++ [V.int (0 + (k : Int))])) (by rw [upd_ne nps.symm, upd_ne npl.symm, upd_ne nps.symm, upd_same]) fun _ _ z => by cases z
                    rw [delC_upd iso, delC_upd ilg, delC_upd iso, delC_upd ip, del_ex CE]
                    have np0 : H17' p = none := (exC_out ip).symm.trans np
                    have ez : (irg 0 k).map V.int ++ [V.int (0 + (k : Int))] = (irg 0 k ++ [(k : Int)]).map V.int := by rw [List.map_append, Int.zero_add]; rfl
                    rw [ez, upd_comm nps.symm]
                    have s31 := (s30.put (ys := []) 4 rfl).llAdd 3 rfl (q := p) (zs := irg 0 k ++ [(k : Int)]) (by rw [upd_ne nps.symm]; exact np0)
                    have s32 := s31.put (ys := [V.int 99]) 4 rfl
                    refine (hP4 _ _ _).mpr ⟨[(p, irg 0 k ++ [(k : Int)])], _, rfl, ?_, ?_⟩
                    · rw [e2]; exact s32
                    · rw [e2]; rfl
                  · have c3 : k + 2 = 2 * W := by omega
                    obtain ⟨e1, e2⟩ := st_more c3 W1
                    rw [e1] at hso hqs s30
                    have hq0 : qs ≠ [] := fun z => by rw [z] at hqs; cases hqs
                    have hql : qs.length = 1 := by have := congrArg List.length hqs; simpa using this
                    obtain ⟨sp, ac, g0⟩ := tell_more (P := P) (w := w) (base := base) T (line := .str (Str.ofString "a")) (th := .int (0 + (k : Int))) (ce.same CE.same) (cg.same CE.same) (CE.same _ _ hso) (CE.same _ _ hlg) nsl (by rw [List.length_map, List.length_cons, irg_len]; omega) (by rw [List.length_map]; omega) (by rw [List.length_map, List.length_cons, irg_len]; omega) (by simpa using hq0)
                    refine ⟨sp, ac, g0 _ _ (fun v H' r u => ?_) (fun _ _ _ z => z.elim)⟩
                    obtain ⟨p, np, rfl⟩ := r
                    have nps : so ≠ p := ne_of_none (CE.same _ _ hso) np
                    have npl : lg ≠ p := ne_of_none (CE.same _ _ hlg) np
                    have ip : ¬ InC _ p := u.nin CE (o := .lst ((99 :: irg W (k - W)).map V.int ++ [V.int (0 + (k : Int))])) (by rw [upd_ne npl.symm, upd_ne nps.symm, upd_same]) fun _ _ z => by cases z
                    rw [delC_upd ilg, delC_upd iso, delC_upd ip, del_ex CE]
                    have np0 : H17' p = none := (exC_out ip).symm.trans np
                    have ez : (99 :: irg W (k - W)).map V.int ++ [V.int (0 + (k : Int))] = ((99 :: irg W (k - W)) ++ [(k : Int)]).map V.int := by rw [List.map_append, Int.zero_add]; rfl
                    rw [ez, upd_comm nps.symm]
                    have s31 := (s30.put (ys := []) 4 rfl).llAdd 3 rfl (q := p) (zs := (99 :: irg W (k - W)) ++ [(k : Int)]) (by rw [upd_ne nps.symm]; exact np0)
                    refine (hP4 _ _ _).mpr ⟨qs ++ [(p, (99 :: irg W (k - W)) ++ [(k : Int)])], _, rfl, ?_, ?_⟩
                    · rw [e2]; exact s31
                    · rw [e2, List.map_append, hqs]; rfl
                · obtain ⟨qs, x4, rfl, s30, hqs⟩ := (hP4 _ _ _).mp hP
                  refine (hR4 _ _).mpr ⟨qs, _, _, _, _, _, _, _, _, _, _, _, rfl, s30.take 4, ?_⟩
                  rw [hqs]
                  unfold st4
                  rw [if_neg (by omega), if_neg (by omega)]
              · obtain ⟨qs, x4, x7, x8, x9, x10, x11, x12, x13, x14, x15, x16, rfl, s30, hqs⟩ := (hR4 _ _).mp h17
                clear h17 s29
                simp only [upd_same, tLstRg, tRg1, tRg2, tCutE, tIfE, false_and, exists_false, false_or, or_false, tRet, tRetN, tAndV, tOrV, tNotV, tChain, rI, rI0, rU, tC, tCB, tCons, tNil, tVar, tOp, tUn, tTest, tB, tAnd, tOr, tNot, tIf, tIfS, tSeq, tAsg, tDrop, tNext, gName, gTup_ref, gCons_cons, gNil_nil, and_assoc, tYes, wipe, rEq, rNe, scal_ss, scal_ii, scal_bb, scal_ns, scal_sn, scal_nn, scal_in, scal_ni, tLc_eq, tFor_eq, iList, iTup, iStr, iRng1, iRng2, iZip, iEnum, gSub, tSl, rSetL_ref, rCat_ref, rRep_ref, rJoin_ref, rSlL_ref, rSlS_ref, rMulS_ref, rIxL_ref, rIxT_ref, rLenK_ref, rAll_ref, rIn_ref, tLst, tTup, tPar, tPar3, tAug, tPart, tNoPart, tCall, List.getElem?_cons_zero, List.getElem?_cons_succ, List.set_cons_zero, List.set_cons_succ, List.map_cons, List.map_nil, List.append_nil, List.nil_append, List.cons_append, Option.some.injEq, exists_eq_left', exists_eq_left, exists_eq_right, exists_eq_right', exists_eq', V.int.injEq, V.str.injEq, V.bl.injEq, V.ref.injEq, List.cons.injEq, tM0, tM1, rNewStrs, sgn_eq, split_dot, split_sp, split_nl, dot_len, sp_len, nl_len, cxOf_K, L2.start, List.length_cons, List.length_nil, List.replicate_succ, List.replicate_zero, Nat.reduceSub, Nat.zero_add, and_true, true_and, and_self, exists_and_left, exists_const, Bool.false_eq_true, if_false, if_true, ite_true, ite_false, reduceIte, decide_eq_true_eq, reduceCtorEq, Nat.reduceAdd, Nat.reduceLT, tMseq, tMret, tNdef1, tThru, tCallV, tCallVF, tCallVO, tListZip, tCallX, tCallXU, tCallV, tCallVS, tLam1, tLamD, tCallS, tCls, tClsD, cx_cells, cx_scope, cx_N, cx_prog, cx_w, cx_base, cx_mg, cx_qual]
                have rg1 : RgOk 0 (2 + w3) := by unfold RgOk; omega
                have rg2 : RgOk (2 + w3) (2 * (2 + w3) - 1) := by unfold RgOk; omega
                have er1 : rgV 0 (2 + w3) = (irg 0 W).map V.int := by
                  rw [hW, ← rg_irg, Nat.zero_add]; rfl
                have er2 : rgV (2 + w3) (2 * (2 + w3) - 1) = (irg W (W - 1)).map V.int := by
                  rw [hW, ← rg_irg, show (2 * (W : Int) - 1) = ((W + (W - 1) : Nat) : Int) by omega]
                refine ⟨rg1, R2, fun q1 nq1 => ?_, fun σ H18 h18 => ?_⟩
                · rw [er1, er2]
                  obtain ⟨a1, f1⟩ := newF (H := H17) (o := .lst ((irg 0 W).map V.int)) rfl nq1
                  generalize upd H17 q1 (.lst ((irg 0 W).map V.int)) = Ha at a1 f1 ⊢
                  refine ⟨by decide, fun p1 np1 => ⟨.inl ⟨by decide, by decide⟩, rg2, fun q2 nq2 => ?_⟩⟩
                  obtain ⟨a2, f2⟩ := newF (H := Ha) (o := .lst [V.int 99]) rfl np1
                  generalize upd Ha p1 (.lst [V.int 99]) = Hb at a2 f2 nq2 ⊢
                  obtain ⟨a3, f3⟩ := newF (H := Hb) (o := .lst ((irg W (W - 1)).map V.int)) rfl nq2
                  generalize upd Hb q2 (.lst ((irg W (W - 1)).map V.int)) = Hc at a3 f3 ⊢
                  refine ⟨_, a3 _ _ f2, _, rfl, by rw [List.length_map, irg_len]; exact small (by simp; omega), fun p2 np2 => ⟨by decide, fun p3 np3 => ?_⟩⟩
                  obtain ⟨a4, f4⟩ := newF (H := Hc) (o := .lst ([V.int 99] ++ (irg W (W - 1)).map V.int)) rfl np2
                  generalize upd Hc p2 (.lst ([V.int 99] ++ (irg W (W - 1)).map V.int)) = Hd at a4 f4 np3 ⊢
                  obtain ⟨a5, f5⟩ := newF (H := Hd) (o := .lst [V.ref q1, V.ref p2]) rfl np3
                  generalize upd Hd p3 (.lst [V.ref q1, V.ref p2]) = He' at a5 f5 ⊢
                  have a15 := (((a1.trans a2).trans a3).trans a4).trans a5
                  have dl : Dp K He' (.ref lg) (.list ([irg 0 W, 99 :: irg W (W - 1)].map dI)) := by rw [← hqs]; exact ((s30.same a15).at_ 3 rfl : LLAt _ _ _).dp
                  have dr : Dp K He' (.ref p3) (.list ([irg 0 W, 99 :: irg W (W - 1)].map dI)) := .lst (.of f5) (.cons (.lst (.of ((((a2.trans a3).trans a4).trans a5) _ _ f1)) (dpAll_map fun _ _ => .int _)) (.cons (.lst (.of (a5 _ _ f4)) (.cons (.int _) (dpAll_map fun _ _ => .int _))) .nil))
                  exact rNe_same dl dr (okI (k := 0)) (by decide) ⟨_, rfl, ifN (by simp) ((hR2 _ _).mpr ⟨_, _, _, _, _, _, _, _, _, _, _, _, _, rfl, (s30.take 3).same a15⟩)⟩
                · obtain ⟨x4, x5, x6, x7, x8, x9, x10, x11, x12, x13, x14, x15, x16, rfl, s31⟩ := (hR2 _ _).mp h18
                  clear h18 s30
                  simp only [upd_same, tCutE, tIfE, false_and, exists_false, false_or, or_false, tRet, tRetN, tAndV, tOrV, tNotV, tChain, rI, rI0, rU, tC, tCB, tCons, tNil, tVar, tOp, tUn, tTest, tB, tAnd, tOr, tNot, tIf, tIfS, tSeq, tAsg, tDrop, tNext, gName, gTup_ref, gCons_cons, gNil_nil, and_assoc, tYes, wipe, rEq, rNe, scal_ss, scal_ii, scal_bb, scal_ns, scal_sn, scal_nn, scal_in, scal_ni, tLc_eq, tFor_eq, iList, iTup, iStr, iRng1, iRng2, iZip, iEnum, gSub, tSl, rSetL_ref, rCat_ref, rRep_ref, rJoin_ref, rSlL_ref, rSlS_ref, rMulS_ref, rIxL_ref, rIxT_ref, rLenK_ref, rAll_ref, rIn_ref, tLst, tTup, tPar, tPar3, tAug, tPart, tNoPart, tCall, List.getElem?_cons_zero, List.getElem?_cons_succ, List.set_cons_zero, List.set_cons_succ, List.map_cons, List.map_nil, List.append_nil, List.nil_append, List.cons_append, Option.some.injEq, exists_eq_left', exists_eq_left, exists_eq_right, exists_eq_right', exists_eq', V.int.injEq, V.str.injEq, V.bl.injEq, V.ref.injEq, List.cons.injEq, tM0, tM1, rNewStrs, sgn_eq, split_dot, split_sp, split_nl, dot_len, sp_len, nl_len, cxOf_K, L2.start, List.length_cons, List.length_nil, List.replicate_succ, List.replicate_zero, Nat.reduceSub, Nat.zero_add, and_true, true_and, and_self, exists_and_left, exists_const, Bool.false_eq_true, if_false, if_true, ite_true, ite_false, reduceIte, decide_eq_true_eq, reduceCtorEq, Nat.reduceAdd, Nat.reduceLT, tMseq, tMret, tNdef1, tThru, tCallV, tCallVF, tCallVO, tListZip, tCallX, tCallXU, tCallV, tCallVS, tLam1, tLamD, tCallS, tCls, tClsD, cx_cells, cx_scope, cx_N, cx_prog, cx_w, cx_base, cx_mg, cx_qual]
                  refine ⟨by decide, fun lg nlg => ?_⟩
                  have s32 := s31.newL (same_put (o := .lst []) (Same.refl _) nlg) nlg upd_same
                  generalize upd H18 lg (.lst []) = H19 at s32 ⊢
                  refine ⟨lg, rfl, s32.tab, fun H20 wf w7 nwf c1 => ?_⟩
                  have s33 := s32.fno w7
                  refine ⟨wf, rfl, s33.tab, fun H21 g rw w8 ng nrw hrw cg => ?_⟩
                  have s34 := s33.newR (rows := []) (ts := []) w8 nrw hrw trivial
                  have s35 : Sep K H21 [rSrc h l, rLst D (ts.map V.ref), rRows ts ls, rLst lg [], rRow rw [], rImm fun H => CloAt H wf nfNth ["_law_log"] [.ref lg] ∧ CloAt H g nfMind ["rows", "work"] [.ref rw, .ref wf]] := s34.newI (fun S H H' h w => ⟨h.1.fw w, h.2.fw w⟩) ⟨c1.fw w8, cg⟩
                  clear s31 s32 s33 s34 w7 w8 nwf ng nrw hrw c1 cg nlg
                  refine ⟨by decide, fun p1 np1 => ?_⟩
                  obtain ⟨a1, f1⟩ := newF (H := H21) (o := .lst [V.int 1, V.int 2, V.int 1, V.int 2]) rfl np1
                  generalize upd H21 p1 (.lst [V.int 1, V.int 2, V.int 1, V.int 2]) = H22 at a1 f1 ⊢
                  have s36 := s35.newL (xs := th5.map V.int) a1 np1 f1
                  refine ⟨⟨_, .of f1⟩, ?_⟩
                  refine lc_sep (walk_listm th5 V.int) (fun i acc Rs => acc = List.replicate i V.non ∧ Rs = [rSrc h l, rLst D (ts.map V.ref), rRows ts ls, rLst lg ((lg5 i).map V.int), rRow rw ((ms5 i).map rowM), rImm fun H => CloAt H wf nfNth ["_law_log"] [.ref lg] ∧ CloAt H g nfMind ["rows", "work"] [.ref rw, .ref wf], rLst p1 (th5.map V.int)]) s36 (by decide) ⟨rfl, rfl⟩ (fun i acc Rs H hi hJ s => by obtain ⟨_, rfl⟩ := hJ; exact .of (s.lst 6 rfl)) (fun cD j x H23 H23' acc Rs R hj hJ s37 hy r => ?_) (fun cD acc Rs H23 hl hJ s37 => ?_)
                  · obtain ⟨rfl, rfl⟩ := hJ
                    obtain ⟨rfl, t, hti, rfl⟩ := hy
                    simp only [upd_same, tCallV, tCutE, tIfE, false_and, exists_false, false_or, or_false, tRet, tRetN, tAndV, tOrV, tNotV, tChain, rI, rI0, rU, tC, tCB, tCons, tNil, tVar, tOp, tUn, tTest, tB, tAnd, tOr, tNot, tIf, tIfS, tSeq, tAsg, tDrop, tNext, gName, gTup_ref, gCons_cons, gNil_nil, and_assoc, tYes, wipe, rEq, rNe, scal_ss, scal_ii, scal_bb, scal_ns, scal_sn, scal_nn, scal_in, scal_ni, tLc_eq, tFor_eq, iList, iTup, iStr, iRng1, iRng2, iZip, iEnum, gSub, tSl, rSetL_ref, rCat_ref, rRep_ref, rJoin_ref, rSlL_ref, rSlS_ref, rMulS_ref, rIxL_ref, rIxT_ref, rLenK_ref, rAll_ref, rIn_ref, tLst, tTup, tPar, tPar3, tAug, tPart, tNoPart, tCall, List.getElem?_cons_zero, List.getElem?_cons_succ, List.set_cons_zero, List.set_cons_succ, List.map_cons, List.map_nil, List.append_nil, List.nil_append, List.cons_append, Option.some.injEq, exists_eq_left', exists_eq_left, exists_eq_right, exists_eq_right', exists_eq', V.int.injEq, V.str.injEq, V.bl.injEq, V.ref.injEq, List.cons.injEq, tM0, tM1, rNewStrs, sgn_eq, split_dot, split_sp, split_nl, dot_len, sp_len, nl_len, cxOf_K, L2.start, List.length_cons, List.length_nil, List.replicate_succ, List.replicate_zero, Nat.reduceSub, Nat.zero_add, and_true, true_and, and_self, exists_and_left, exists_const, Bool.false_eq_true, if_false, if_true, ite_true, ite_false, reduceIte, decide_eq_true_eq, reduceCtorEq, Nat.reduceAdd, Nat.reduceLT, tMseq, tMret, tNdef1, tThru, tCallV, tCallVF, tCallVO, tListZip, tCallX, tCallXU, tCallV, tCallVS, tLam1, tLamD, tCallS, tCls, tClsD, cx_cells, cx_scope, cx_N, cx_prog, cx_w, cx_base, cx_mg, cx_qual]
                    obtain ⟨tr, hrw, ttr⟩ := s37.at_ 5 rfl
                    have hlg := s37.lst 4 rfl
                    obtain ⟨cw, cg⟩ := s37.at_ 6 rfl
                    have nrl : rw ≠ lg := fun z => s37.ne (i := 5) (j := 4) rfl rfl (by decide) (b := rw) rfl z
                    have hl5 : (lg5 j).length ≤ 2 := by unfold lg5; split; simp; split <;> simp
                    have hm5 : (ms5 j).length ≤ 2 := by unfold ms5; rw [List.length_map]; exact hl5
                    rcases go5 hti with ⟨e1, e2⟩ | ⟨e1, e2⟩
                    · obtain ⟨sp, ac, g0⟩ := tell_nth (P := P) (w := w) (base := base) T cw cg hrw ttr (by omega) hlg (by rw [List.length_map]; omega) nrl e1
                      refine ⟨sp, ac, g0 _ _ (fun v H' rr => ?_) (fun _ _ _ z => z.elim)⟩
                      obtain ⟨rfl, p, np, rfl⟩ := rr
                      have s38 := s37.put (ys := (lg5 (j + 1)).map V.int) 4 rfl
                      have e3 : (lg5 j).map V.int ++ [V.int t] = (lg5 (j + 1)).map V.int := by rw [e2, List.map_append]; rfl
                      rw [e3] at np ⊢
                      have hrw2 : upd H23' lg (.lst ((lg5 (j + 1)).map V.int)) rw = some (.lst (tr.map V.ref)) := by rw [upd_ne nrl]; exact hrw
                      have ttr2 : TupsAt (upd H23' lg (.lst ((lg5 (j + 1)).map V.int))) tr ((ms5 j).map rowM) := ttr.put hlg (fun _ z => by cases z)
                      generalize upd H23' lg (.lst ((lg5 (j + 1)).map V.int)) = Hd at s38 np hrw2 ttr2 ⊢
                      have q5 : rw ≠ p := ne_of_none hrw2 np
                      have w3 : Fwd K (fun b => b = rw) Hd (upd Hd p (.tup [.str (Str.ofString "a"), .int t, .non])) := (Fw.refl s38.tab).new np
                      have w4 := w3.put (a := rw) (o := .lst (tr.map V.ref ++ [.ref p])) (o' := .lst (tr.map V.ref)) (by rw [upd_ne q5]; exact hrw2) (fun _ z => by cases z) (fun z => z) (.inl rfl)
                      refine r _ _ _ (s38.rowSet (S := fun b => b = rw) 5 rfl w4 (fun b z => .inl z) (.inl rfl) (ts := tr ++ [p]) (rows' := (ms5 (j + 1)).map rowM) (by rw [upd_same]; simp) ?_) ⟨(List.replicate_succ' ..).symm, rfl⟩
                      have e4 : ms5 (j + 1) = ms5 j ++ [(Str.ofString "a", t, V.non)] := by unfold ms5; rw [e2, List.map_append]; rfl
                      rw [e4, List.map_append]
                      exact TupsAt.snoc (by rw [upd_ne q5.symm, upd_same]; rfl) (ttr2.mono fun t x e => w4.tup e)
                    · obtain ⟨sp, ac, g0⟩ := tell_old (P := P) (w := w) (base := base) T cg hrw ttr (by omega) e1
                      refine ⟨sp, ac, g0 _ _ (fun v H' rr => ?_) (fun _ _ _ z => z.elim)⟩
                      obtain ⟨rfl, rfl⟩ := rr
                      have e4 : ms5 (j + 1) = ms5 j := by unfold ms5; rw [e2]
                      exact r _ _ _ s37 ⟨(List.replicate_succ' ..).symm, by rw [e2, e4]⟩
                  · obtain ⟨rfl, rfl⟩ := hJ
                    refine ⟨by decide, fun p3 np3 => ⟨_, rfl, by decide, by decide, by show 1 * 4 ≤ sizeLine; decide, fun p4 np4 => ?_⟩⟩
                    obtain ⟨b1, g1⟩ := newF (H := H23) (o := .lst [V.non]) rfl np3
                    generalize upd H23 p3 (.lst [V.non]) = Ha at b1 g1 np4 ⊢
                    obtain ⟨b2, g2⟩ := newF (H := Ha) (o := .lst (List.replicate (Int.toNat 4) [V.non]).flatten) rfl np4
                    generalize upd Ha p4 (.lst (List.replicate (Int.toNat 4) [V.non]).flatten) = Hb at b2 g2 ⊢
                    have s38 := s37.same (b1.trans b2)
                    have d1 : Dp K Hb (.ref cD) (.list [.none, .none, .none, .none]) := .lst (.of (s38.lst 0 rfl)) (.cons .non (.cons .non (.cons .non (.cons .non .nil))))
                    have d2 : Dp K Hb (.ref p4) (.list [.none, .none, .none, .none]) := .lst (.of g2) (.cons .non (.cons .non (.cons .non (.cons .non .nil))))
                    refine rNe_same d1 d2 (DEq.list (k := 0) (deq_cons .none (deq_cons .none (deq_cons .none (deq_cons .none deq_nil))))) (by decide) ⟨_, rfl, ifN (by simp) ⟨by decide, fun p5 np5 => ?_⟩⟩
                    obtain ⟨b3, g3⟩ := newF (H := Hb) (o := .lst [V.int 1, V.int 2]) rfl np5
                    generalize upd Hb p5 (.lst [V.int 1, V.int 2]) = Hc at b3 g3 ⊢
                    have s39 := s38.same b3
                    have d3 : Dp K Hc (.ref lg) (.list ([1, 2].map .int)) := .lst (.of (s39.lst 4 rfl)) (.cons (.int _) (.cons (.int _) .nil))
                    have d4 : Dp K Hc (.ref p5) (.list ([1, 2].map .int)) := .lst (.of g3) (.cons (.int _) (.cons (.int _) .nil))
                    exact rNe_same d3 d4 eqI (by decide) ⟨_, rfl, ifN (by simp) ((hPt _ _ _).mpr ⟨_, _, _, _, _, _, _, _, _, _, _, _, _, _, _, rfl, (s39.drop 1).take 1⟩)⟩
end
end Hk

set_option Elab.async false
set_option linter.all false
set_option maxRecDepth 100000
set_option maxHeartbeats 4000000
namespace Hk
open PySem PySem.Spec PyProof.Rows L2
open LamX NdefX
/-! ### the head -/
abbrev Rw : PySem.W.OpenRow := PySem.W.OpenLaw.row PySem.Challenge.rw_hearken_k17_works_of_works
abbrev hk : PySem.W.Hook := hookS 5 fa fn [] tf exB
def ob (s : PySem.W.SharedT) : He.AlX := obsS 5 fa fn [] tf exB (HandSHeadRun.getT s)
theorem ob_eq (s : PySem.W.SharedT) : ob s = hk.obs s.abs := obsS_eq (HandSHeadRun.getT_eq s)
def loose : List Str := "HearError" :: "Halt" :: "BadLine" :: "BadPattern" :: "BadWord" :: "BadCount" :: "NoListener" :: "Busy" :: "TooDeep" :: "NotHeld" :: "NoWork" :: "BadText" :: "gathered" :: "changed" :: "kept_in_mind" :: "_law_mix" :: "_law_next" :: "_law_alike" :: "_law_kind" :: "_law_worker" :: "_law_echo" :: "_law_nothing" :: []
theorem run (w : World) : HandSHeadRun.RunEq Rw (PySem.W.view Rw.prog [25]) hk ob 8000 loose w := by
  intro os
  kernel_rfl
end Hk
open PySem PySem.W PySem.Calls PyProof.Rows
theorem PySem.Challenge.cw_hearken_k17_works_of_works_holds : PySem.Challenge.rw_hearken_k17_works_of_works.Holds := by
  w_on; o_law
  refine HandSHeadRun.head_any (r := OpenLaw.row PySem.Challenge.rw_hearken_k17_works_of_works) (q := view (OpenLaw.row PySem.Challenge.rw_hearken_k17_works_of_works).prog [25]) (H := Hk.hk) (ob := Hk.ob) (M := 8000) (loose := Hk.loose) (d := HandSHeadRun.topDef (OpenLaw.row PySem.Challenge.rw_hearken_k17_works_of_works).prog 25) (kwd := []) Hk.ob_eq
    (by kernel_rfl) (fun s => by kernel_rfl) Hk.run (by kernel_rfl) (by kernel_rfl) (by kernel_rfl) (by rfl) (by first | assumption | decide +kernel) (by decide +kernel) ⟨rfl, rfl, rfl, rfl, rfl, by decide +kernel⟩ ?hw ?hc
  case hw => w_witness2
  case hc =>
    refine LamX.walk_ofTsE (l := PySem.Challenge.rw_hearken_k17_works_of_works) (n := 63) (k := 50) (x := "_law_script") (CX := fun _ => L2.CX0) rfl (by decide) (by kernel_rfl) ⟨rfl, by decide, by decide⟩ ?F (fun _ _ _ _ _ z => z)
    intro w mg fa h Y G hmg0
    obtain ⟨K, KX, c⟩ := Y
    have hmg : mg ("law" : PySem.Str) = some (.ref fa) := by
      have e : (HandSHeadRun.topDef (OpenLaw.row PySem.Challenge.rw_hearken_k17_works_of_works).prog 25).name = ("law" : PySem.Str) := by kernel_rfl
      rw [← e]
      exact hmg0
    have T : Hk.Tx K mg := ⟨h, KX, G, c.t.d, c.more⟩
    obtain ⟨fd, F⟩ := T.f_law
    have ef := hmg.symm.trans T.g_law
    cases ef
    have b := L2.FunD.bindsA (ps := ["_law_script"]) F fun _ _ _ _ _ _ us hl => match us, hl with | [_], _ => rfl
    refine ⟨K, KX, fd, Hk.tf.map (He.cT K), Hk.sp_law K, fun p hp => ?_, fun p hp => ?_, fun p hp => ?_, fun s v => b s [v] rfl, fun H a ns hl _ ht hS => ⟨a, ns, rfl, hS, hl, fun P hP => ?_, fun _ => rfl⟩, fun base _ _ hB => Hk.F_law_ok T (fun p hp => hB _ (List.mem_map_of_mem hp)) F⟩
    · obtain ⟨q, hq, rfl⟩ := List.mem_map.mp hp
      exact c.empty q hq
    · obtain ⟨q, hq, rfl⟩ := List.mem_map.mp hp
      exact c.out q hq
    · obtain ⟨q, hq, rfl⟩ := List.mem_map.mp hp
      exact PySem.W.codeHd_of_K KX (c.hd q hq)
    · obtain ⟨q, hq, rfl⟩ := List.mem_map.mp hP
      exact NdefX.TabN.nil (ht _ (List.mem_map_of_mem hq))

