import PyProof.Rows.All
import Wide.All
import OpenK.AllK
import Wide.FinOn
import HandS.ForMost
import HandS.Style
import HandS.Walk
import HandS.Defaults
import HandS.Exc
import HandS.Flow
import HandS.TryOnly
import HandS.ExcOwn
import HandS.WordsExc
import HandS.TupAny
import HandS.SetFor
import HandS.IsInst
import PyProof.StrBlock2
import HandS.Nested
import HandS.ExcIs
import HandS.HeadHook4
import HandS.HeadWalk
import KE.KDictZip
import HandS.OwnIter
import KE.SortKeyed
import HandS.SortKw
import HandS.Iter
import HandS.More
import HandS.HeadHook2
import HandS.Conv
import HandS.SuiteRaise
import HandS.Finally
import HandS.TryElse
import KE.KExcRaise
import HandS.ExcInit
import HandS.ExcField
import KE.KExcIs
import HandS.MakeKw
import KE.SortData
import HandS.Dict
import HandS.HeadEnd
import HandS.Head2
import PySem.Challenge.RW_hearken_k08_kept_and_heard_late
set_option Elab.async false
set_option linter.all false
set_option maxRecDepth 100000
set_option maxHeartbeats 4000000
/-! Common words for all the laws of hearken. -/
namespace Hk
open PySem PySem.Spec PyProof.Rows L2
/-! ### heaps that grow -/
/-- all that was tracked, but where S is, is as it was -/
def Ext (S : Addr → Prop) (H H' : Hp) : Prop := ∀ b o, ¬ S b → H b = some o → H' b = some o
abbrev No : Addr → Prop := fun _ => False
theorem Ext.refl (S : Addr → Prop) (H : Hp) : Ext S H H := fun _ _ _ h => h
theorem Ext.trans {S : Addr → Prop} {H H1 H2 : Hp} (a : Ext S H H1) (b : Ext S H1 H2) : Ext S H H2 := fun c o n h => b c o n (a c o n h)
theorem Ext.of_same {S : Addr → Prop} {H H' : Hp} (s : Same H H') : Ext S H H' := fun b o _ h => s b o h
theorem Ext.same {H H' : Hp} (e : Ext No H H') : Same H H' := fun b o h => e b o (fun z => z) h
theorem Ext.mono {S S' : Addr → Prop} {H H' : Hp} (e : Ext S H H') (h : ∀ b, S b → S' b) : Ext S' H H' := fun b o n q => e b o (fun z => n (h b z)) q
theorem Ext.free {S : Addr → Prop} {H H' : Hp} (e : Ext S H H') {l : Addr} (n : ¬ S l) (h : H' l = none) : H l = none := by
  cases q : H l with
  | none => rfl
  | some o =>
    rw [e l o n q] at h
    cases h
theorem Ext.put {S : Addr → Prop} {H H1 : Hp} {p : Addr} {o : HO} (s : Ext S H H1) (n : H p = none ∨ S p) : Ext S H (upd H1 p o) := fun b u nb h => by
  by_cases e : b = p
  · subst e
    rcases n with n | n
    · rw [h] at n; cases n
    · exact absurd n nb
  · rw [upd_ne e]
    exact s b u nb h
theorem same_put {H H1 : Hp} {p : Addr} {o : HO} (s : Same H H1) (n : H p = none) : Same H (upd H1 p o) := fun b u h => by
  by_cases e : b = p
  · subst e
    rw [h] at n; cases n
  · rw [upd_ne e]
    exact s b u h
theorem same_new {H H1 : Hp} {p : Addr} {o : HO} (s : Same H H1) (n : H1 p = none) : Same H (upd H1 p o) := same_put s (s.free n)
theorem same_tup {K : PySem.W.Frag} {H H' : Hp} {a : Addr} {xs : List V} (e : Same H H') (h : SqT K H a xs) : SqT K H' a xs := by
  rcases h with (h | ⟨o, h⟩) | h
  · exact .inl (.inl (e _ _ h))
  · exact .inl (.inr ⟨o, e _ _ h⟩)
  · exact .inr h
theorem small {n : Nat} (h : n ≤ 100000) : n ≤ sizeLine := Nat.le_trans h (by decide)
theorem smallLt {n : Nat} (h : n ≤ 100000) : n < sizeLine := Nat.lt_of_le_of_lt h (by decide)
theorem sgn_eq {c d : Nat} : ((⟨#[c]⟩ : Str) = ⟨#[d]⟩) = (c = d) := propext ⟨fun e => by
  have e2 : (#[c] : Array Nat) = #[d] := congrArg Str.cps e
  have e3 : [c] = [d] := congrArg Array.toList e2
  exact (List.cons.inj e3).1, fun e => by rw [e]⟩
theorem beq_dec {a b : Str} : (a == b) = decide (b = a) := by
  by_cases h : b = a
  · subst h; simp
  · rw [decide_eq_false h]; exact beq_eq_false_iff_ne.mpr (Ne.symm h)
/-- a text's words -/
def wds (z : Str) : List Str := Txt.split z "."
theorem split_dot {z : Str} : Txt.split z (Str.ofString ".") = wds z := rfl
def sps (z : Str) : List Str := Txt.split z " "
def nls (z : Str) : List Str := Txt.split z "\n"
theorem split_sp {z : Str} : Txt.split z (Str.ofString " ") = sps z := rfl
theorem split_nl {z : Str} : Txt.split z (Str.ofString "\n") = nls z := rfl
theorem dot_len : ((Str.ofString ".").length == 0) = false := by decide +kernel
theorem sp_len : ((Str.ofString " ").length == 0) = false := by decide +kernel
theorem nl_len : ((Str.ofString "\n").length == 0) = false := by decide +kernel
section
variable {CX : CXT} {P : Program} {w : World} {K : PySem.W.Frag} {mg : Str → Option Value} {base : Heap} {N : List Str} {qual : Str} {scope : Scope} {f : Addr} {cd : Value} {A : Around} {outer : List Env} {s : Shared} {H : Hp} {E : XK}
theorem cxOf_K : (cxOf CX P w K mg base N qual scope f cd A outer s H E).K = K := rfl
end
theorem ifP {c A B : Prop} [Decidable c] (h : c) (a : A) : if c then A else B := by rw [if_pos h]; exact a
theorem ifN {c A B : Prop} [Decidable c] (h : ¬ c) (b : B) : if c then A else B := by rw [if_neg h]; exact b
/-! ### a global def with its promise -/
structure Glob (P : Program) (w : World) (K : PySem.W.Frag) (mg : Str → Option Value) (base : Heap) (CX : CXT) (k : Nat) (x : Str) (ps : List Str) (dvs : List V) (sp : Sp) : Prop where
  ex : ∃ f fd ds, FnOk P w K mg base CX k f fd ps sp ∧ mg x = some (.ref f) ∧ PySem.W.keepIn K (.ref f) = true ∧ Vals dvs ds ∧ Binds K fd ps ds
theorem Glob.mono {P : Program} {w : World} {K : PySem.W.Frag} {mg : Str → Option Value} {base : Heap} {CX : CXT} {j k : Nat} {x : Str} {ps : List Str} {dvs : List V} {sp : Sp} (G : Glob P w K mg base CX j x ps dvs sp) (h : j ≤ k) : Glob P w K mg base CX k x ps dvs sp := by
  obtain ⟨f, fd, ds, F, r⟩ := G.ex
  exact ⟨f, fd, ds, F.mono h, r⟩
section
variable {X : Cx} {CX : CXT} {k : Nat} {x : Str} {ps : List Str} {dvs : List V} {sp : Sp} {E : XK} {p pos : Pos} {e : Expr} {es : List Expr} {t : TA}
theorem pe_callG (G : Glob X.prog X.w X.K X.mg X.base CX k x ps dvs sp) (hr : Room k X.A) (hg : Gl X x) (hx : Passes CX X E) (ha : PA X (e :: es) t)
    (hdb : (x == ("__debug__" : Str)) = false := by decide) (he : starEach (e :: es) X.env = (false, eval e X.env) :: starEach es X.env := by rfl) (hpl : (backTo pos (starEach es X.env)).any (·.1) = false := by rfl) :
    PE X (.Call (.Name x p) (e :: es) [] pos) (tCall sp dvs E t) := by
  refine ⟨fun pins s σ H Q I h => ?_⟩
  obtain ⟨f, fd, ds, F, hm, kp, vd, hb⟩ := G.ex
  exact (pe_call F hr hg hm kp hb vd hx ha hdb he hpl).run pins s σ H Q I h
theorem pe_callG0 (G : Glob X.prog X.w X.K X.mg X.base CX k x ps dvs sp) (hr : Room k X.A) (hg : Gl X x) (hx : Passes CX X E) (hdb : (x == ("__debug__" : Str)) = false := by decide) :
    PE X (.Call (.Name x p) [] [] pos) (tCall sp dvs E tNil) := by
  refine ⟨fun pins s σ H Q I h => ?_⟩
  obtain ⟨f, fd, ds, F, hm, kp, vd, hb⟩ := G.ex
  exact (pe_call0 F hr hg hm kp hb vd hx hdb).run pins s σ H Q I h
/-- a def that may raise, called where it does not -/
theorem passN : Passes (L2.CX X.prog X.w) X E0 := fun _ _ _ _ _ _ _ h => by
  obtain ⟨_, _, _, _, _, _, _, _, _, _, _, _, z⟩ := h
  exact z.elim
/-- a module's constant -/
theorem pe_gi {i : Int} (h : ∃ t, X.mg x = some (.int i t)) (hg : Gl X x) (hd : (x == ("__debug__" : Str)) = false := by decide) : PE X (.Name x pos) (tC (.int i)) := by
  obtain ⟨t, h⟩ := h
  exact pe_glob hg h ⟨t, rfl⟩ hd
theorem pe_gs {z : Str} (h : ∃ t, X.mg x = some (.str z t)) (hg : Gl X x) (hd : (x == ("__debug__" : Str)) = false := by decide) : PE X (.Name x pos) (tC (.str z)) := by
  obtain ⟨t, h⟩ := h
  exact pe_glob hg h ⟨t, rfl⟩ hd
end
/-! ### comprehensions: the new list by what has been gathered -/
/-- a comprehension's turns, behind its source -/
def LcG (J : It) (g : TG) (tt : TT) (te : TE) (vs : List Nat) (σ : L2.St) (H1 : Hp) (Q : VK) : Prop := ∀ D, H1 D = none → ∃ W : Nat → Nat → Hp → Prop, (∃ m, W 0 m (upd H1 D (.lst []))) ∧ ∀ i m H, W i m H →
  (J.stop i H ∧ Q (.ref D) H) ∨ (J.go i H ∧ ∃ Nx : Hp → Prop, (∀ H', Nx H' → ∃ m', m' < m ∧ W (i + 1) m' H') ∧ ∀ x H', J.yld i H x H' → g x (wipe σ vs) H' fun σ2 H2 => wipe σ2 vs = wipe σ vs ∧ tt σ2 H2 fun b H3 =>
    if b = true then te σ2 H3 fun y H4 => ∃ acc, H4 D = some (.lst acc) ∧ acc.length < sizeLine ∧ Nx (upd H4 D (.lst (acc ++ [y]))) else Nx H3)
theorem tLc_eq {wi : TI} {g : TG} {tt : TT} {te : TE} {vs : List Nat} {σ : L2.St} {H : Hp} {Q : VK} : tLc wi g tt te vs σ H Q = wi σ H fun J H1 => LcG J g tt te vs σ H1 Q := rfl
/-- a for's turns, behind its source -/
def ForG (J : It) (g : TG) (tb : TS) (D : Ends) (σ : L2.St) (H : Hp) : Prop := ∃ W : Nat → Nat → L2.St → Hp → Prop, (∃ m, W 0 m σ H) ∧ ∀ i m σ H, W i m σ H →
  (J.stop i H ∧ D.nx σ H) ∨ (J.go i H ∧ ∃ N : L2.St → Hp → Prop, (∀ σ' H', N σ' H' → ∃ m', m' < m ∧ W (i + 1) m' σ' H') ∧ ∀ x H', J.yld i H x H' → g x σ H' fun σ2 H2 => tb { D with nx := N, ct := N, bk := D.nx } σ2 H2)
theorem tFor_eq {wi : TI} {g : TG} {tb : TS} {D : Ends} {σ : L2.St} {H : Hp} : tFor wi g tb D σ H = wi σ H fun J H1 => ForG J g tb D σ H1 := rfl
theorem forG {J : It} {n : Nat} {G : Hp → Prop} {Y : Nat → Hp → V → Hp → Prop} (w : Walk J n G Y) {g : TG} {tb : TS} {D : Ends} {σ : L2.St} {H : Hp} (Pv : Nat → L2.St → Hp → Prop) (h0 : Pv 0 σ H) (hG : ∀ i σ H, i ≤ n → Pv i σ H → G H)
    (hs : ∀ i x σ H H', i < n → Pv i σ H → Y i H x H' → g x σ H' fun σ2 H2 => tb { D with nx := Pv (i + 1), ct := Pv (i + 1), bk := D.nx } σ2 H2) (hd : ∀ σ H, Pv n σ H → D.nx σ H) : ForG J g tb D σ H := for_it w Pv h0 hG hs hd
theorem lc_acc {J : It} {n : Nat} {G : Hp → Prop} {Y : Nat → Hp → V → Hp → Prop} (w : Walk J n G Y) {g : TG} {tt : TT} {te : TE} {vs : List Nat} {σ : L2.St} {H1 : Hp} {Q : VK} (S : Addr → Prop) (Iv : Hp → Prop) (Pa : Nat → List V → Prop)
    (hn : n < sizeLine) (nD : ∀ D, H1 D = none → ¬ S D) (h0 : Pa 0 []) (i0 : Iv H1) (hI : ∀ D H o, H1 D = none → Iv H → Iv (upd H D o)) (hG : ∀ H, Ext S H1 H → Iv H → G H)
    (hs : ∀ i x H H' acc (R : Option V → Hp → Prop), i < n → Ext S H1 H → Iv H → Pa i acc → Y i H x H' →
      (∀ H2, Ext S H H2 → Iv H2 → Pa (i + 1) acc → R none H2) → (∀ y H2, Ext S H H2 → Iv H2 → Pa (i + 1) (acc ++ [y]) → R (some y) H2) →
      g x (wipe σ vs) H' fun σ2 H2 => wipe σ2 vs = wipe σ vs ∧ tt σ2 H2 fun b H3 => if b = true then te σ2 H3 (fun y H4 => R (some y) H4) else R none H3)
    (hd : ∀ D acc H, H1 D = none → Pa n acc → acc.length ≤ n → Ext S H1 H → Iv H → H D = some (.lst acc) → Q (.ref D) H) : LcG J g tt te vs σ H1 Q := by
  intro D fD
  have nD := nD D fD
  have hI := fun H o => hI D H o fD
  refine lc_it w (fun i H => ∃ acc, Pa i acc ∧ acc.length ≤ i ∧ Ext S H1 H ∧ Iv H ∧ H D = some (.lst acc)) ⟨[], h0, Nat.le_refl _, (Ext.refl S H1).put (.inl fD), hI _ _ i0, upd_same⟩ (fun i H _ ⟨acc, _, _, e, iv, _⟩ => hG H e iv) (fun i x H H' hi hP hy => ?_)
    (fun H ⟨acc, p, l, e, iv, hD⟩ => hd D acc H fD p l e iv hD)
  obtain ⟨acc, p, l, e, iv, hD⟩ := hP
  refine hs i x H H' acc (fun o H4 => match o with
    | some y => ∃ acc, H4 D = some (.lst acc) ∧ acc.length < sizeLine ∧ ∃ acc', Pa (i + 1) acc' ∧ acc'.length ≤ i + 1 ∧ Ext S H1 (upd H4 D (.lst (acc ++ [y]))) ∧ Iv (upd H4 D (.lst (acc ++ [y]))) ∧ (upd H4 D (.lst (acc ++ [y]))) D = some (.lst acc')
    | none => ∃ acc', Pa (i + 1) acc' ∧ acc'.length ≤ i + 1 ∧ Ext S H1 H4 ∧ Iv H4 ∧ H4 D = some (.lst acc')) hi e iv p hy (fun H2 e2 iv2 p2 => ?_) (fun y H2 e2 iv2 p2 => ?_)
  · exact ⟨acc, p2, Nat.le_succ_of_le l, e.trans e2, iv2, e2 D _ nD hD⟩
  · exact ⟨acc, e2 D _ nD hD, Nat.lt_of_le_of_lt (Nat.le_trans l (Nat.le_of_lt hi)) hn, acc ++ [y], p2, by rw [List.length_append]; exact Nat.succ_le_succ l, (e.trans e2).put (.inl fD), hI _ _ iv2, upd_same⟩
section
variable {K : PySem.W.Frag} {a b : Addr}
theorem walk_listm {α : Type} (xs : List α) (inj : α → V) : Walk (Itl K a) xs.length (fun H => SqL K H a (xs.map inj)) (fun i H x H' => H' = H ∧ ∃ y, xs[i]? = some y ∧ x = inj y) := by
  have w := walk_list (K := K) (a := a) (xs := xs.map inj)
  rw [List.length_map] at w
  refine w.mono (fun H h => h) (fun i H x H' hi _ y => ⟨y.1, ?_⟩)
  have h := y.2
  rw [List.getElem?_map] at h
  cases q : xs[i]? with
  | none => rw [q] at h; cases h
  | some z => rw [q] at h; exact ⟨z, rfl, (Option.some.inj h).symm⟩
theorem walk_tupm {α : Type} (xs : List α) (inj : α → V) : Walk (Itt K a) xs.length (fun H => SqT K H a (xs.map inj)) (fun i H x H' => H' = H ∧ ∃ y, xs[i]? = some y ∧ x = inj y) := by
  have w := walk_tup (K := K) (a := a) (xs := xs.map inj)
  rw [List.length_map] at w
  refine w.mono (fun H h => h) (fun i H x H' hi _ y => ⟨y.1, ?_⟩)
  have h := y.2
  rw [List.getElem?_map] at h
  cases q : xs[i]? with
  | none => rw [q] at h; cases h
  | some z => rw [q] at h; exact ⟨z, rfl, (Option.some.inj h).symm⟩
/-- zip of two lists: a new pair at each turn -/
theorem walk_zipm {α β : Type} (xs : List α) (ys : List β) (f : α → V) (g : β → V) : Walk (Itz K a b) (xs.zip ys).length (fun H => SqL K H a (xs.map f) ∧ SqL K H b (ys.map g))
    (fun i H v H' => ∃ (t : Addr) (q : α × β), v = .ref t ∧ H t = none ∧ H' = upd H t (.tup [f q.1, g q.2]) ∧ (xs.zip ys)[i]? = some q) := by
  have w := walk_zip (K := K) (a := a) (b := b) (xs := xs.map f) (ys := ys.map g) (n := (xs.zip ys).length) (by rw [List.length_zip, List.length_map, List.length_map])
  refine w.mono (fun H h => h) (fun i H x H' hi _ y => ?_)
  obtain ⟨t, x1, x2, e1, e2, e3, e4, e5⟩ := y
  have h1 : (xs.zip ys)[i]? = some (xs.zip ys)[i] := List.getElem?_eq_getElem hi
  have h2 := List.getElem?_zip_eq_some.mp h1
  have e6 : x1 = f (xs.zip ys)[i].1 := by
    have e4 : (xs.map f)[i]? = some x1 := e4
    rw [List.getElem?_map, h2.1] at e4
    exact (Option.some.inj e4).symm
  have e7 : x2 = g (xs.zip ys)[i].2 := by
    have e5 : (ys.map g)[i]? = some x2 := e5
    rw [List.getElem?_map, h2.2] at e5
    exact (Option.some.inj e5).symm
  exact ⟨t, _, e1, e2, by rw [e3, e6, e7], h1⟩
theorem ixN_in {n : Nat} {i : Int} (h0 : 0 ≤ i) (h1 : i < n) : ixN n i = some i.toNat := by
  unfold ixN
  rw [if_pos h0, if_pos h1]
theorem atI_neg1 {xs : List V} (h : xs ≠ []) : atI xs (-1) = xs.getLast? := by
  have e : xs = xs.dropLast ++ [xs.getLast h] := (List.dropLast_concat_getLast h).symm
  rw [e, atI_last]
  simp
end
/-- a comprehension that changes nothing that stood: the new list is F of the items, where it is some -/
theorem lc_fil {α : Type} (xs : List α) (F : α → Option V) {J : It} {G : Hp → Prop} {Y : Nat → Hp → V → Hp → Prop} (w : Walk J xs.length G Y) {g : TG} {tt : TT} {te : TE} {vs : List Nat} {σ : L2.St} {H1 : Hp} {Q : VK}
    (hn : xs.length ≤ 100000) (hG : ∀ H, Same H1 H → G H)
    (hs : ∀ i a x H H' (R : Option V → Hp → Prop), xs[i]? = some a → Same H1 H → Y i H x H' → (∀ H2, Same H H2 → R (F a) H2) →
      g x (wipe σ vs) H' fun σ2 H2 => wipe σ2 vs = wipe σ vs ∧ tt σ2 H2 fun b H3 => if b = true then te σ2 H3 (fun y H4 => R (some y) H4) else R none H3)
    (hd : ∀ D H, H1 D = none → Same H1 H → H D = some (.lst (xs.filterMap F)) → Q (.ref D) H) : LcG J g tt te vs σ H1 Q := by
  refine lc_acc w No (fun _ => True) (fun i acc => acc = (xs.take i).filterMap F) (smallLt hn) (fun _ _ z => z) rfl trivial (fun _ _ _ _ _ => trivial) (fun H e _ => hG H e.same) (fun i x H H' acc R hi e _ p hy r0 r1 => ?_) (fun D acc H fD p _ e _ hD => ?_)
  · have hx : xs[i]? = some xs[i] := List.getElem?_eq_getElem hi
    refine hs i xs[i] x H H' R hx e.same hy (fun H2 s2 => ?_)
    cases q : F xs[i] with
    | none =>
      refine r0 H2 (.of_same s2) trivial ?_
      rw [p, List.take_add_one, hx, List.filterMap_append]
      simp [q]
    | some y =>
      refine r1 y H2 (.of_same s2) trivial ?_
      rw [p, List.take_add_one, hx, List.filterMap_append]
      simp [q]
  · subst p
    refine hd D H fD e.same ?_
    rw [hD, List.take_length]
/-- .. the new list is f of the items -/
theorem lc_map {α : Type} (xs : List α) (f : α → V) {J : It} {G : Hp → Prop} {Y : Nat → Hp → V → Hp → Prop} (w : Walk J xs.length G Y) {g : TG} {te : TE} {vs : List Nat} {σ : L2.St} {H1 : Hp} {Q : VK}
    (hn : xs.length ≤ 100000) (hG : ∀ H, Same H1 H → G H)
    (hs : ∀ i a x H H' (R : VK), xs[i]? = some a → Same H1 H → Y i H x H' → (∀ H2, Same H H2 → R (f a) H2) →
      g x (wipe σ vs) H' fun σ2 H2 => wipe σ2 vs = wipe σ vs ∧ te σ2 H2 R)
    (hd : ∀ D H, H1 D = none → Same H1 H → H D = some (.lst (xs.map f)) → Q (.ref D) H) : LcG J g tYes te vs σ H1 Q := by
  refine lc_fil xs (fun a => some (f a)) w hn hG (fun i a x H H' R hx s1 hy r => ?_) (fun D H fD s1 hD => hd D H fD s1 ?_)
  · simp only [tYes, if_true]
    exact hs i a x H H' (fun v h => R (some v) h) hx s1 hy r
  · rw [hD]
    simp
end Hk

set_option Elab.async false
set_option linter.all false
set_option maxRecDepth 100000
set_option maxHeartbeats 4000000
/-! The rules that speak of X.K, with K told (a comprehension's block has an X of its own). -/
namespace Hk
open PySem PySem.Spec PyProof.Rows L2
section
variable {X : Cx} {K : PySem.W.Frag} (hK : X.K = K)
include hK
theorem ix_listK : IxR X (rIxL K) := by subst hK; exact ix_list
theorem ix_tupK : IxR X (rIxT K) := by subst hK; exact ix_tup
theorem sl_listK : SlR X (rSlL K) := by subst hK; exact sl_list
theorem sl_tupK : SlR X (rSlA K) := by subst hK; exact sl_tupA
theorem op_in_seqK : OpR X (compareOp .In) (rIn K false) := by subst hK; exact op_in_seq
theorem op_notIn_seqK : OpR X (compareOp .NotIn) (rIn K true) := by subst hK; exact op_notIn_seq
def rLenK (K : PySem.W.Frag) : List V → Hp → VK → Prop := fun xs H Q => ∃ p ys, xs = [.ref p] ∧ (SqL K H p ys ∨ SqT K H p ys) ∧ Q (.int ys.length) H
theorem call_len_seqK : CallR X (.builtin "len") (rLenK K) := by subst hK; exact call_len_seq
theorem cr_allK (hc : X.calm = true) : CallR X (.builtin "all") (rAll K) := by subst hK; exact cr_all hc
theorem cr_anyK (hc : X.calm = true) : CallR X (.builtin "any") (rAny K) := by subst hK; exact cr_any hc
def rListOf (K : PySem.W.Frag) : List V → Hp → VK → Prop := fun xs H Q => ∃ p ys, xs = [.ref p] ∧ (SqL K H p ys ∨ SqT K H p ys) ∧ ∀ l, H l = none → Q (.ref l) (upd H l (.lst ys))
theorem call_list_ofK : CallR X (.type "list") (rListOf K) := by subst hK; exact call_list_of
theorem op_eqDK (hu : X.A.units + 64 < cLine) : OpR X (compareOp .Eq) (rEqD K) := by subst hK; exact op_eqD hu
theorem op_neDK (hu : X.A.units + 64 < cLine) : OpR X (compareOp .NotEq) (rNeD K) := by subst hK; exact op_neD hu
theorem op_catAK : OpR X (binaryOp .Add) (rCatA K) := by subst hK; exact op_catA
theorem pi_listK {tg l : Expr} {tl : TE} (hl : PE X l tl) : PI X tg l (iList K tl) := by subst hK; exact pi_list hl
theorem pi_tupK {tg l : Expr} {tl : TE} (hl : PE X l tl) : PI X tg l (iTup K tl) := by subst hK; exact pi_tup hl
theorem pi_zipK {e e2 : Expr} {ta : TA} {p pos tpos : Pos} {elts : List Expr} {kk : Nat} (hg : Gl X "zip") (hm : X.mg "zip" = none) (ha : PA X [e, e2] ta)
    (hs : starEach [e, e2] X.env = (false, eval e X.env) :: starEach [e2] X.env := by rfl) (hpl : (backTo pos (starEach [e2] X.env)).any (·.1) = false := by rfl) :
    PI X (.Tuple elts kk tpos) (.Call (.Name "zip" p) [e, e2] [] pos) (iZip K ta) := by subst hK; exact pi_zip hg hm ha hs hpl
theorem pi_enumK {e : Expr} {ta : TA} {p pos tpos : Pos} {elts : List Expr} {kk : Nat} (hg : Gl X "enumerate") (hm : X.mg "enumerate" = none) (ha : PA X [e] ta) (hs : starEach [e] X.env = [(false, eval e X.env)] := by rfl) :
    PI X (.Tuple elts kk tpos) (.Call (.Name "enumerate" p) [e] [] pos) (iEnum K ta) := by subst hK; exact pi_enum hg hm ha hs
theorem pg_tupK {es : List Expr} {k : Nat} {t : TGs} {n : Nat} {pos : Pos} (hc : X.calm = true) (h : PGs X es t) (hn : (assignEach es X.env).length = n := by rfl) (hst : (assignEach es X.env).findIdx? (·.1) = none := by rfl) :
    PG X (.Tuple es k pos) (gTup K n t) := by subst hK; exact pg_tup hc h hn hst
theorem pe_bm0K {o : Expr} {to : TE} {name : Str} {apos cpos : Pos} {T id : String} {r : V → List V → Hp → VK → Prop} (pa : PlainAttrs T) (slot : Slot T name id) (hty : typeOf (.builtin id) = pure (.type "method_descriptor")) (hm : MtR X id r) (ho : PE X o to)
    (hbase : attributeBase o name X.env (eval o X.env) = eval o X.env := by rfl) (hline : (apos.endLine == cpos.line) = true := by rfl) : PE X (.Call (.Attribute o name apos) [] [] cpos) (tBM0 K T r to) := by
  subst hK; exact pe_bm0 pa slot hty hm ho hbase hline
theorem pe_bmK {o e : Expr} {es : List Expr} {to : TE} {t : TA} {name : Str} {apos cpos : Pos} {T id : String} {r : V → List V → Hp → VK → Prop} (pa : PlainAttrs T) (slot : Slot T name id) (hty : typeOf (.builtin id) = pure (.type "method_descriptor")) (hm : MtR X id r) (ho : PE X o to) (ha : PA X (e :: es) t)
    (hbase : attributeBase o name X.env (eval o X.env) = eval o X.env := by rfl)
    (hfew : ((backTo cpos (starEach (e :: es) X.env)).all (fun x => !x.1) && (backToKw cpos (keywordEach [] X.env)).all (fun x => x.1.isSome)
      && decide ((e :: es).length + ([] : List Keyword).length + (if ([] : List Keyword).isEmpty then 0 else 1) < 30)) = true := by rfl)
    (hline : (apos.endLine == cpos.line) = true := by rfl) (hs : starEach (e :: es) X.env = (false, eval e X.env) :: starEach es X.env := by rfl) (hplain : (backTo cpos (starEach es X.env)).any (·.1) = false := by rfl) :
    PE X (.Call (.Attribute o name apos) (e :: es) [] cpos) (tBM K T r to t) := by subst hK; exact pe_bm pa slot hty hm ho ha hbase hfew hline hs hplain
def rJoin (K : PySem.W.Frag) : V → List V → Hp → VK → Prop := fun x xs H Q => ∃ a p, ∃ ys : List Str, x = .str a ∧ xs = [.ref p] ∧ (SqL K H p (ys.map V.str) ∨ SqT K H p (ys.map V.str)) ∧
      (ys.map (·.length)).sum + ys.length * a.length ≤ 16777216 ∧ Q (.str (Txt.join a ys)) H
theorem pe_joinK {o e : Expr} {to te : TE} {apos pos : Pos} (ho : PE X o to) (he : PE X e te) (hs : starEach [e] X.env = [(false, eval e X.env)] := by rfl) (hbase : attributeBase o "join" X.env (eval o X.env) = eval o X.env := by rfl) (hline : (apos.endLine == pos.line) = true := by rfl) :
    PE X (.Call (.Attribute o "join" apos) [e] [] pos) (tM1 (rJoin K) to te) := by subst hK; exact pe_join ho he hs hbase hline
theorem pt_truthK {a : Expr} {ta : TE} (ha : PE X a ta) (he : ∀ whole, isTrue a X.env whole = (do let v ← whole; standAt a.pos; holding [v] (truthy v))) :
    PT X a (fun σ H Q => ta σ H fun x H' => ∃ k, TruV K x H' k ∧ Q k H') := by subst hK; exact pt_truth ha he
theorem pe_notTK {a : Expr} {ta : TE} {pos : Pos} (ha : PE X a ta) : PE X (.UnaryOp .Not a pos) (tNotT K ta) := by subst hK; exact pe_notT ha
theorem mt_indexK : MtR X "list.index" (rIndex K) := by subst hK; exact mt_index
theorem mt_lcountK : MtR X "list.count" (rCntI K) := by subst hK; exact mt_lcount
theorem pe_fldK {e : Expr} {f : Str} {ta : TE} {pos : Pos} (he : PE X e ta) (hb : attributeBase e f X.env (eval e X.env) = eval e X.env) : PE X (.Attribute e f pos) (tFld K ta f) := by subst hK; exact pe_fld he hb
end
/-! ### words for readings -/
theorem scal_ss {a b : Str} : scal (.str a) (.str b) = true := rfl
theorem scal_ii {a b : Int} : scal (.int a) (.int b) = true := rfl
theorem scal_bb {a b : Bool} : scal (.bl a) (.bl b) = true := rfl
theorem scal_ns {b : Str} : scal .non (.str b) = true := rfl
theorem scal_sn {b : Str} : scal (.str b) .non = true := rfl
theorem scal_nn : scal .non .non = true := rfl
theorem scal_in {a : Int} : scal (.int a) .non = true := rfl
theorem scal_ni {a : Int} : scal .non (.int a) = true := rfl
theorem gCons_cons {t : TG} {u : TGs} {x : V} {xs : List V} {σ : L2.St} {H : Hp} {Q : L2.St → Hp → Prop} : gCons t u (x :: xs) σ H Q = t x σ H fun σ' H' => u xs σ' H' Q := propext ⟨fun ⟨v, r, e, h⟩ => by cases e; exact h, fun h => ⟨x, xs, rfl, h⟩⟩
theorem gNil_nil {σ : L2.St} {H : Hp} {Q : L2.St → Hp → Prop} : gNil [] σ H Q = Q σ H := propext ⟨fun h => h.2, fun h => ⟨rfl, h⟩⟩
theorem gTup_ref {K : PySem.W.Frag} {n : Nat} {t : TGs} {a : Addr} {σ : L2.St} {H : Hp} {Q : L2.St → Hp → Prop} : gTup K n t (.ref a) σ H Q = ∃ xs, SqT K H a xs ∧ xs.length = n ∧ t xs σ H Q := propext ⟨fun ⟨_, xs, e, h⟩ => by cases e; exact ⟨xs, h⟩, fun ⟨xs, h⟩ => ⟨a, xs, rfl, h⟩⟩
theorem rSetL_ref {p : Addr} {k : Int} {v : V} {H : Hp} {Q : Hp → Prop} : rSetL (.ref p) (.int k) v H Q = ∃ xs j, H p = some (.lst xs) ∧ ixN xs.length k = some j ∧ Q (upd H p (.lst (xs.set j v))) := propext ⟨fun ⟨_, xs, _, j, e, e2, h⟩ => by cases e; cases e2; exact ⟨xs, j, h⟩, fun ⟨xs, j, h⟩ => ⟨p, xs, k, j, rfl, rfl, h⟩⟩
theorem rCat_ref {l b : Addr} {H : Hp} {Q : VK} : rCat (.ref l) (.ref b) H Q = ∃ xs zs, H l = some (.lst xs) ∧ H b = some (.lst zs) ∧ xs.length + zs.length ≤ sizeLine ∧ ∀ p, H p = none → Q (.ref p) (upd H p (.lst (xs ++ zs))) := propext ⟨fun ⟨_, _, xs, zs, e, e2, h⟩ => by cases e; cases e2; exact ⟨xs, zs, h⟩, fun ⟨xs, zs, h⟩ => ⟨l, b, xs, zs, rfl, rfl, h⟩⟩
theorem rRep_ref {l : Addr} {k : Int} {H : Hp} {Q : VK} : rRep (.ref l) (.int k) H Q = ∃ xs, H l = some (.lst xs) ∧ -(2 ^ 63) ≤ k ∧ k < 2 ^ 63 ∧ xs.length * k.toNat ≤ sizeLine ∧ ∀ p, H p = none → Q (.ref p) (upd H p (.lst (List.replicate k.toNat xs).flatten)) := propext ⟨fun ⟨_, _, xs, e, e2, h⟩ => by cases e; cases e2; exact ⟨xs, h⟩, fun ⟨xs, h⟩ => ⟨l, k, xs, rfl, rfl, h⟩⟩
theorem rJoin_ref {K : PySem.W.Frag} {a : Str} {p : Addr} {H : Hp} {Q : VK} : rJoin K (.str a) [.ref p] H Q = ∃ ys : List Str, (SqL K H p (ys.map V.str) ∨ SqT K H p (ys.map V.str)) ∧ (ys.map (·.length)).sum + ys.length * a.length ≤ 16777216 ∧ Q (.str (Txt.join a ys)) H := propext ⟨fun ⟨_, _, xs, e, e2, h⟩ => by cases e; cases e2; exact ⟨xs, h⟩, fun ⟨xs, h⟩ => ⟨a, p, xs, rfl, rfl, h⟩⟩
theorem rSlL_ref {K : PySem.W.Frag} {a : Addr} {lo hi : Option Int} {H : Hp} {Q : VK} : rSlL K (.ref a) lo hi H Q = ∃ xs, SqL K H a xs ∧ ∀ p, H p = none → Q (.ref p) (upd H p (.lst (cutV xs lo hi))) := propext ⟨fun ⟨_, xs, e, h⟩ => by cases e; exact ⟨xs, h⟩, fun ⟨xs, h⟩ => ⟨a, xs, rfl, h⟩⟩
theorem rSlS_ref {z : Str} {lo hi : Option Int} {H : Hp} {Q : VK} : rSlS (.str z) lo hi H Q = (z.length ≤ sizeLine ∧ Q (.str (cutS z lo hi)) H) := propext ⟨fun ⟨_, e, h⟩ => by cases e; exact h, fun h => ⟨z, rfl, h⟩⟩
theorem rIxL_ref {K : PySem.W.Frag} {p : Addr} {i : Int} {H : Hp} {Q : VK} : rIxL K (.ref p) (.int i) H Q = ∃ xs v, SqL K H p xs ∧ atI xs i = some v ∧ Q v H := propext ⟨fun ⟨_, xs, _, v, e, e2, h⟩ => by cases e; cases e2; exact ⟨xs, v, h⟩, fun ⟨xs, v, h⟩ => ⟨p, xs, i, v, rfl, rfl, h⟩⟩
theorem rIxT_ref {K : PySem.W.Frag} {p : Addr} {i : Int} {H : Hp} {Q : VK} : rIxT K (.ref p) (.int i) H Q = ∃ xs v, SqT K H p xs ∧ atI xs i = some v ∧ Q v H := propext ⟨fun ⟨_, xs, _, v, e, e2, h⟩ => by cases e; cases e2; exact ⟨xs, v, h⟩, fun ⟨xs, v, h⟩ => ⟨p, xs, i, v, rfl, rfl, h⟩⟩
theorem rLenK_ref {K : PySem.W.Frag} {p : Addr} {H : Hp} {Q : VK} : rLenK K [.ref p] H Q = ∃ ys, (SqL K H p ys ∨ SqT K H p ys) ∧ Q (.int ys.length) H := propext ⟨fun ⟨_, ys, e, h⟩ => by cases e; exact ⟨ys, h⟩, fun ⟨ys, h⟩ => ⟨p, ys, rfl, h⟩⟩
theorem rAll_ref {K : PySem.W.Frag} {p : Addr} {H : Hp} {Q : VK} : rAll K [.ref p] H Q = ∃ bs : List Bool, SqL K H p (bs.map V.bl) ∧ Q (.bl (bs.all id)) H := propext ⟨fun ⟨_, ys, e, h⟩ => by cases e; exact ⟨ys, h⟩, fun ⟨ys, h⟩ => ⟨p, ys, rfl, h⟩⟩
theorem rIn_ref {K : PySem.W.Frag} {b : Bool} {p : Addr} {x : V} {H : Hp} {Q : VK} : rIn K b x (.ref p) H Q = ∃ xs, (SqL K H p xs ∨ SqT K H p xs) ∧ flatV x = true ∧ xs.all flatV = true ∧ Q (.bl (if b then !inV x xs else inV x xs)) H := propext ⟨fun ⟨_, ys, e, h⟩ => by cases e; exact ⟨ys, h⟩, fun ⟨ys, h⟩ => ⟨p, ys, rfl, h⟩⟩
/-! ### a text once or not at all -/
def rMulS : R2 := fun x y H Q => ∃ z n, x = .str z ∧ y = .int n ∧ (n = 0 ∨ n = 1) ∧ Q (.str (if n = 1 then z else Str.empty)) H
theorem op_mulS {X : Cx} : OpR X (binaryOp .Mult) rMulS := by
  intro pins s σ H x y v u Q I rx ry h
  obtain ⟨z, n, rfl, rfl, hn, q⟩ := h
  obtain ⟨t, rfl⟩ := rx
  obtain ⟨t', rfl⟩ := ry
  refine SB.mul ?_ fun t2 k => ⟨.str (Txt.mul z n), H, I.tok _, ⟨_, rfl⟩, ?_⟩
  · rcases hn with rfl | rfl
    · exact ⟨by decide, fun h => absurd (by decide) h, fun h => absurd (by decide) h⟩
    · exact ⟨by decide, fun _ h => by simp at h, fun _ h => by simp at h⟩
  · have e : Txt.mul z n = if n = 1 then z else Str.empty := by
      rcases hn with rfl | rfl
      · rfl
      · rfl
    rw [e]; exact q
theorem rMulS_ref {z : Str} {n : Int} {H : Hp} {Q : VK} : rMulS (.str z) (.int n) H Q = ((n = 0 ∨ n = 1) ∧ Q (.str (if n = 1 then z else Str.empty)) H) := propext ⟨fun ⟨_, _, e, e2, h⟩ => by cases e; cases e2; exact h, fun h => ⟨z, n, rfl, rfl, h⟩⟩
/-! ### isinstance -/
section
variable {X : Cx} {K : PySem.W.Frag} (hK : X.K = K)
include hK
theorem call_isiK1 : CallR X (.builtin "isinstance") (rIsi K) := by subst hK; exact call_isi
theorem call_isiTK : CallR X (.builtin "isinstance") (rIsiT K) := by subst hK; exact call_isiT
theorem ix_seqK : IxR X (rIx K) := by subst hK; exact ix_seq
end
def tyName : PyData → String
  | .none => "NoneType"
  | .bool _ => "bool"
  | .int _ => "int"
  | .str _ => "str"
  | .list _ => "list"
  | .tuple _ => "tuple"
  | .dict _ => "dict"
theorem tyx_dp {K : PySem.W.Frag} {H : Hp} {x : V} {d : PyData} (h : Dp K H x d) : TyX K H x (.type (tyName d)) := by
  cases h with
  | non => exact .base .non
  | bl b => exact .base (.bl b)
  | int i => exact .base (.int i)
  | str x => exact .base (.str x)
  | lst h _ =>
    rcases h with (h | ⟨o, h⟩) | ⟨o, its, n, h, c, _⟩
    · exact .base (.lst h)
    · exact .base (.frz h)
    · exact .kList h c
  | tup h _ =>
    rcases h with (h | ⟨o, h⟩) | ⟨o, its, n, h, c, _⟩
    · exact .base (.tup h)
    · exact .fTuple h
    · exact .kTuple h c
theorem isi_dp {K : PySem.W.Frag} {H : Hp} {x : V} {d : PyData} {n : String} {b : Bool} {Q : VK} (h : Dp K H x d) (e : kitB (tyName d) n = some b) (q : Q (.bl b) H) : rIsi K [x, .ty n] H Q :=
  ⟨x, .ty n, _, _, b, rfl, .ty n, tyx_dp h, kit_ty e, q⟩
theorem isiT_dp {K : PySem.W.Frag} {H : Hp} {x : V} {d : PyData} {tp : Addr} {n m : String} {b c : Bool} {Q : VK} (h : Dp K H x d) (ht : H tp = some (.tup [.ty n, .ty m])) (e : kitB (tyName d) n = some b) (e2 : kitB (tyName d) m = some c) (q : Q (.bl (b || c)) H) : rIsiT K [x, .ref tp] H Q := by
  refine ⟨x, tp, _, _, [.type n, .type m], b || c, rfl, ht, .cons (.ty n) (.cons (.ty m) .nil), tyx_dp h, kitAny_cons (kit_ty e) (fun hb => ?_) (fun hb => by rw [hb]; rfl), q⟩
  subst hb
  exact kitAny_cons (r := c) (kit_ty e2) (fun hc => by rw [hc]; exact kitAny_nil) (fun hc => hc)
theorem kb_NoneType_tuple : kitB "NoneType" "tuple" = some false := by decide +kernel
theorem kb_NoneType_list : kitB "NoneType" "list" = some false := by decide +kernel
theorem kb_NoneType_str : kitB "NoneType" "str" = some false := by decide +kernel
theorem kb_NoneType_int : kitB "NoneType" "int" = some false := by decide +kernel
theorem kb_NoneType_bool : kitB "NoneType" "bool" = some false := by decide +kernel
theorem kb_bool_tuple : kitB "bool" "tuple" = some false := by decide +kernel
theorem kb_bool_list : kitB "bool" "list" = some false := by decide +kernel
theorem kb_bool_str : kitB "bool" "str" = some false := by decide +kernel
theorem kb_bool_int : kitB "bool" "int" = some true := by decide +kernel
theorem kb_bool_bool : kitB "bool" "bool" = some true := by decide +kernel
theorem kb_int_tuple : kitB "int" "tuple" = some false := by decide +kernel
theorem kb_int_list : kitB "int" "list" = some false := by decide +kernel
theorem kb_int_str : kitB "int" "str" = some false := by decide +kernel
theorem kb_int_int : kitB "int" "int" = some true := by decide +kernel
theorem kb_int_bool : kitB "int" "bool" = some false := by decide +kernel
theorem kb_str_tuple : kitB "str" "tuple" = some false := by decide +kernel
theorem kb_str_list : kitB "str" "list" = some false := by decide +kernel
theorem kb_str_str : kitB "str" "str" = some true := by decide +kernel
theorem kb_str_int : kitB "str" "int" = some false := by decide +kernel
theorem kb_str_bool : kitB "str" "bool" = some false := by decide +kernel
theorem kb_list_tuple : kitB "list" "tuple" = some false := by decide +kernel
theorem kb_list_list : kitB "list" "list" = some true := by decide +kernel
theorem kb_list_str : kitB "list" "str" = some false := by decide +kernel
theorem kb_list_int : kitB "list" "int" = some false := by decide +kernel
theorem kb_list_bool : kitB "list" "bool" = some false := by decide +kernel
theorem kb_tuple_tuple : kitB "tuple" "tuple" = some true := by decide +kernel
theorem kb_tuple_list : kitB "tuple" "list" = some false := by decide +kernel
theorem kb_tuple_str : kitB "tuple" "str" = some false := by decide +kernel
theorem kb_tuple_int : kitB "tuple" "int" = some false := by decide +kernel
theorem kb_tuple_bool : kitB "tuple" "bool" = some false := by decide +kernel
mutual
/-- every list and tuple within is of bounded length -/
def smallD : PyData → Bool
  | .list xs => decide (xs.length ≤ 100000) && smallAll xs
  | .tuple xs => decide (xs.length ≤ 100000) && smallAll xs
  | .none => true
  | .bool _ => true
  | .int _ => true
  | .str _ => true
  | .dict _ => true
def smallAll : List PyData → Bool
  | [] => true
  | x :: r => smallD x && smallAll r
end
theorem small_in : ∀ {ds : List PyData}, smallAll ds = true → ∀ d ∈ ds, smallD d = true
  | [], _, _, h => nomatch h
  | x :: r, h, d, hd => by
    simp only [smallAll, Bool.and_eq_true] at h
    rcases List.mem_cons.mp hd with e | e
    · rw [e]; exact h.1
    · exact small_in h.2 d e
theorem smallAll_of : ∀ {ds : List PyData}, (∀ d ∈ ds, smallD d = true) → smallAll ds = true
  | [], _ => by simp only [smallAll]
  | x :: r, h => by
    simp only [smallAll]
    rw [h x (List.mem_cons_self ..), smallAll_of fun d hd => h d (List.mem_cons_of_mem _ hd)]; rfl
theorem smallL_of {ds : List PyData} (hl : ds.length ≤ 100000) (h : ∀ d ∈ ds, smallD d = true) : smallD (.list ds) = true := by
  simp only [smallD]
  rw [decide_eq_true hl, smallAll_of h]; rfl
theorem smallT_of {ds : List PyData} (hl : ds.length ≤ 100000) (h : ∀ d ∈ ds, smallD d = true) : smallD (.tuple ds) = true := by
  simp only [smallD]
  rw [decide_eq_true hl, smallAll_of h]; rfl
/-! ### == of data -/
theorem dpAll_map {K : PySem.W.Frag} {H : Hp} {α : Type} {f : α → V} {g : α → PyData} : ∀ {xs : List α}, (∀ a ∈ xs, Dp K H (f a) (g a)) → DpAll K H (xs.map f) (xs.map g)
  | [], _ => .nil
  | a :: r, h => .cons (h a (List.mem_cons_self ..)) (dpAll_map fun b hb => h b (List.mem_cons_of_mem _ hb))
mutual
theorem dp_same {K : PySem.W.Frag} {H H' : Hp} (s : Same H H') : ∀ {v : V} {d : PyData}, Dp K H v d → Dp K H' v d
  | _, _, .non => .non
  | _, _, .bl b => .bl b
  | _, _, .int i => .int i
  | _, _, .str x => .str x
  | _, _, .lst h a => .lst (s.seq h) (dpAll_same s a)
  | _, _, .tup h a => .tup (same_tup s h) (dpAll_same s a)
theorem dpAll_same {K : PySem.W.Frag} {H H' : Hp} (s : Same H H') : ∀ {vs : List V} {ds : List PyData}, DpAll K H vs ds → DpAll K H' vs ds
  | _, _, .nil => .nil
  | _, _, .cons h a => .cons (dp_same s h) (dpAll_same s a)
end
theorem dpAll_len {K : PySem.W.Frag} {H : Hp} : ∀ {vs : List V} {ds : List PyData}, DpAll K H vs ds → vs.length = ds.length
  | _, _, .nil => rfl
  | _, _, .cons _ a => by rw [List.length_cons, List.length_cons, dpAll_len a]
theorem dpAll_get {K : PySem.W.Frag} {H : Hp} : ∀ {vs : List V} {ds : List PyData} {i : Nat} {d : PyData}, DpAll K H vs ds → ds[i]? = some d → ∃ v, vs[i]? = some v ∧ Dp K H v d
  | _, _, _, _, .nil, e => by simp at e
  | _, _, 0, _, .cons h _, e => by simp at e; subst e; exact ⟨_, rfl, h⟩
  | _, _, i + 1, _, .cons _ a, e => by
    obtain ⟨v, e1, e2⟩ := dpAll_get (i := i) a (by simpa using e)
    exact ⟨v, by simpa using e1, e2⟩
theorem depth_in : ∀ {ds : List PyData} {d : PyData}, d ∈ ds → d.depth ≤ PyData.depthAll ds
  | [], _, h => nomatch h
  | x :: r, d, h => by
    simp only [PyData.depthAll]
    rcases List.mem_cons.mp h with e | e
    · rw [e]; exact Nat.le_max_left _ _
    · exact Nat.le_trans (depth_in e) (Nat.le_max_right _ _)
theorem canAll_of : ∀ {ds : List PyData}, (∀ d ∈ ds, d.canLay0 = true) → PyData.canLayAll0 ds = true
  | [], _ => by simp only [PyData.canLayAll0]
  | d :: r, h => by
    simp only [PyData.canLayAll0]
    rw [h d (List.mem_cons_self ..), canAll_of fun b hb => h b (List.mem_cons_of_mem _ hb)]; rfl
theorem depthAll_of {k : Nat} : ∀ {ds : List PyData}, (∀ d ∈ ds, d.depth ≤ k) → PyData.depthAll ds ≤ k
  | [], _ => by simp only [PyData.depthAll]; omega
  | d :: r, h => by
    simp only [PyData.depthAll]
    exact Nat.max_le.mpr ⟨h d (List.mem_cons_self ..), depthAll_of fun b hb => h b (List.mem_cons_of_mem _ hb)⟩
theorem shaped_list {ds : List PyData} (k : Nat) (hk : k ≤ 63) (h : ∀ d ∈ ds, d.canLay0 = true ∧ d.depth ≤ k) : SeqAt.shaped (.list ds) = true := by
  unfold SeqAt.shaped
  refine Bool.and_eq_true_iff.mpr ⟨?_, decide_eq_true ?_⟩
  · simp only [PyData.canLay0]
    exact canAll_of fun d hd => (h d hd).1
  · have := depthAll_of fun d hd => (h d hd).2
    simp only [PyData.depth]
    omega
theorem shaped_tuple {ds : List PyData} (k : Nat) (hk : k ≤ 63) (h : ∀ d ∈ ds, d.canLay0 = true ∧ d.depth ≤ k) : SeqAt.shaped (.tuple ds) = true := by
  unfold SeqAt.shaped
  refine Bool.and_eq_true_iff.mpr ⟨?_, decide_eq_true ?_⟩
  · simp only [PyData.canLay0]
    exact canAll_of fun d hd => (h d hd).1
  · have := depthAll_of fun d hd => (h d hd).2
    simp only [PyData.depth]
    omega
theorem shaped_ints (ns : List Int) : SeqAt.shaped (.list (ns.map PyData.int)) = true := shaped_list 0 (by decide) fun d hd => by
  obtain ⟨n, _, rfl⟩ := List.mem_map.mp hd
  exact ⟨by simp only [PyData.canLay0], by simp only [PyData.depth]; omega⟩
theorem eqv_nil (ds : List PyData) : PyData.eqv (.list ds) (.list []) = ds.isEmpty := by
  cases ds with
  | nil => simp only [PyData.eqv, PyData.eqvAll]; rfl
  | cons d r => simp only [PyData.eqv, PyData.eqvAll]; rfl
theorem cut_last {xs : List V} : cutV xs none (some (-1)) = xs.dropLast := by
  unfold cutV
  rw [HT.sIx_none]
  have e : HT.sIx xs.length xs.length (some (-1)) = xs.length - 1 := by
    unfold HT.sIx
    simp only
    rw [if_pos (show (-1 : Int) < 0 by decide)]
    omega
  rw [e, List.drop_zero, Nat.sub_zero, List.dropLast_eq_take]
/-! ### texts of signs -/
theorem joinL_nil : ∀ ps : List (List Nat), TL.joinL [] ps = ps.flatten
  | [] => rfl
  | [p] => by simp [TL.joinL]
  | p :: q :: r => by
    show p ++ ([] ++ TL.joinL [] (q :: r)) = _
    rw [joinL_nil (q :: r)]; simp
theorem tl_signs (cs : List Nat) : TL.tl (Txt.join (Str.ofString "") (cs.map fun c => (⟨#[c]⟩ : Str))) = cs := by
  rw [TL.join_eq, TL.tl_join, show TL.tl (Str.ofString "") = [] by decide +kernel, joinL_nil, List.map_map]
  induction cs with
  | nil => rfl
  | cons c r ih =>
    show [c] ++ _ = _
    rw [ih]; rfl
/-! ### a block cut in two: R is what is known between -/
def tCutE (t u : TS) : TS := fun D σ H => ∃ R : L2.St → Hp → Prop, t { D with nx := R } σ H ∧ ∀ σ' H', R σ' H' → u D σ' H'
theorem pss_cutE {X : Cx} {st : Stmt} {rest : List Stmt} {t u : TS} (h1 : PS X st t) (h2 : PSs X rest u) : PSs X (st :: rest) (tCutE t u) := by
  refine ⟨fun pins s σ H D I ⟨R, h, hr⟩ => ?_⟩
  refine wpAny_execs_cons (thn (h1.run pins s σ H { D with nx := R } I h) fun f s1 q => ?_)
  cases f with
  | next =>
    obtain ⟨σ', H', I', q⟩ := q
    exact h2.run pins s1 σ' H' D I' (hr σ' H' q)
  | ret v => exact q
  | brk => exact q
  | cont => exact q
theorem newF {H H3 : Hp} {p : Addr} {o : HO} (hH : upd H p o = H3) (hp : H p = none) : Same H H3 ∧ H3 p = some o := by
  subst hH
  exact ⟨same_put (Same.refl _) hp, upd_same⟩
/-! ### a heap without one object -/
def offA (p : Addr) (H : Hp) : Hp := fun b => if b = p then none else H b
theorem offA_ne {p b : Addr} {H : Hp} (h : b ≠ p) : offA p H b = H b := if_neg h
theorem offA_upd {p : Addr} {H : Hp} {o : HO} : offA p (upd H p o) = offA p H := by
  funext b; unfold offA upd
  split <;> rfl
theorem offA_same {p : Addr} {H : Hp} : Same (offA p H) H := fun b o h => by
  unfold offA at h
  split at h
  · cases h
  · exact h
theorem offA_mono {p : Addr} {H H' : Hp} (s : Same H H') : Same (offA p H) (offA p H') := fun b o h => by
  unfold offA at h ⊢
  split at h
  · cases h
  · rename_i n; rw [if_neg n]; exact s b o h
theorem dpAll_snoc {K : PySem.W.Frag} {H : Hp} {v : V} {d : PyData} (h1 : Dp K H v d) : ∀ {vs : List V} {ds : List PyData}, DpAll K H vs ds → DpAll K H (vs ++ [v]) (ds ++ [d])
  | _, _, .nil => .cons h1 .nil
  | _, _, .cons a b => .cons a (dpAll_snoc h1 b)
theorem ext_off {S : Addr → Prop} {p : Addr} {H H' : Hp} (s : Ext S H H') : Ext S (offA p H) (offA p H') := fun b o n h => by
  unfold offA at h ⊢
  split at h
  · cases h
  · rename_i z; rw [if_neg z]; exact s b o n h
/-- a comprehension: what is known of the heap without the new list goes with what is gathered -/
theorem lc_accH {J : It} {n : Nat} {G : Hp → Prop} {Y : Nat → Hp → V → Hp → Prop} (w : Walk J n G Y) {g : TG} {tt : TT} {te : TE} {vs : List Nat} {σ : L2.St} {H1 : Hp} {Q : VK} (S : Addr → Prop) (Jv : Nat → List V → Hp → Prop)
    (hn : n < sizeLine) (nD : ∀ D, H1 D = none → ¬ S D) (h0 : Jv 0 [] H1) (hG : ∀ H D i acc, H1 D = none → Ext S H1 H → Jv i acc (offA D H) → G H)
    (hs : ∀ D i x H H' acc (R : Option V → Hp → Prop), H1 D = none → H D = some (.lst acc) → i < n → Ext S H1 H → Jv i acc (offA D H) → Y i H x H' →
      (∀ H2, Ext S H H2 → Jv (i + 1) acc (offA D H2) → R none H2) → (∀ y H2, Ext S H H2 → Jv (i + 1) (acc ++ [y]) (offA D H2) → R (some y) H2) →
      g x (wipe σ vs) H' fun σ2 H2 => wipe σ2 vs = wipe σ vs ∧ tt σ2 H2 fun b H3 => if b = true then te σ2 H3 (fun y H4 => R (some y) H4) else R none H3)
    (hd : ∀ D acc H, H1 D = none → acc.length ≤ n → Ext S H1 H → Jv n acc (offA D H) → H D = some (.lst acc) → Q (.ref D) H) : LcG J g tt te vs σ H1 Q := by
  intro D fD
  have nD := nD D fD
  have e0 : offA D (upd H1 D (.lst [])) = H1 := by
    rw [offA_upd]; funext b; unfold offA
    split
    · rename_i e; rw [e, fD]
    · rfl
  refine lc_it w (fun i H => ∃ acc, Jv i acc (offA D H) ∧ acc.length ≤ i ∧ Ext S H1 H ∧ H D = some (.lst acc)) ⟨[], by rw [e0]; exact h0, Nat.le_refl _, (Ext.refl S H1).put (.inl fD), upd_same⟩ (fun i H _ ⟨acc, j, _, e, _⟩ => hG H D i acc fD e j) (fun i x H H' hi hP hy => ?_)
    (fun H ⟨acc, p, l, e, hD⟩ => hd D acc H fD l e p hD)
  obtain ⟨acc, p, l, e, hD⟩ := hP
  refine hs D i x H H' acc (fun o H4 => match o with
    | some y => ∃ acc, H4 D = some (.lst acc) ∧ acc.length < sizeLine ∧ ∃ acc', Jv (i + 1) acc' (offA D (upd H4 D (.lst (acc ++ [y])))) ∧ acc'.length ≤ i + 1 ∧ Ext S H1 (upd H4 D (.lst (acc ++ [y]))) ∧ (upd H4 D (.lst (acc ++ [y]))) D = some (.lst acc')
    | none => ∃ acc', Jv (i + 1) acc' (offA D H4) ∧ acc'.length ≤ i + 1 ∧ Ext S H1 H4 ∧ H4 D = some (.lst acc')) fD hD hi e p hy (fun H2 e2 p2 => ?_) (fun y H2 e2 p2 => ?_)
  · exact ⟨acc, p2, Nat.le_succ_of_le l, e.trans e2, e2 D _ nD hD⟩
  · exact ⟨acc, e2 D _ nD hD, Nat.lt_of_le_of_lt (Nat.le_trans l (Nat.le_of_lt hi)) hn, acc ++ [y], by rw [offA_upd]; exact p2, by rw [List.length_append]; exact Nat.succ_le_succ l, (e.trans e2).put (.inl fD), upd_same⟩
/-! ### tuples at addresses -/
def TupsAt (H : Hp) : List Addr → List (List V) → Prop
  | [], [] => True
  | t :: ts, x :: xs => H t = some (.tup x) ∧ TupsAt H ts xs
  | _, _ => False
theorem TupsAt.mono {H H' : Hp} (e : ∀ t x, H t = some (.tup x) → H' t = some (.tup x)) : ∀ {ts : List Addr} {xs : List (List V)}, TupsAt H ts xs → TupsAt H' ts xs
  | [], [], _ => trivial
  | _ :: _, _ :: _, h => ⟨e _ _ h.1, TupsAt.mono e h.2⟩
  | [], _ :: _, h => h.elim
  | _ :: _, [], h => h.elim
theorem TupsAt.snoc {H : Hp} {t : Addr} {x : List V} (h1 : H t = some (.tup x)) : ∀ {ts : List Addr} {xs : List (List V)}, TupsAt H ts xs → TupsAt H (ts ++ [t]) (xs ++ [x])
  | [], [], _ => ⟨h1, trivial⟩
  | _ :: _, _ :: _, h => ⟨h.1, TupsAt.snoc h1 h.2⟩
  | [], _ :: _, h => h.elim
  | _ :: _, [], h => h.elim
theorem TupsAt.len {H : Hp} : ∀ {ts : List Addr} {xs : List (List V)}, TupsAt H ts xs → ts.length = xs.length
  | [], [], _ => rfl
  | _ :: _, _ :: _, h => by rw [List.length_cons, List.length_cons, TupsAt.len h.2]
  | [], _ :: _, h => h.elim
  | _ :: _, [], h => h.elim
theorem TupsAt.get {H : Hp} : ∀ {ts : List Addr} {xs : List (List V)} {i : Nat} {t : Addr}, TupsAt H ts xs → ts[i]? = some t → ∃ x, xs[i]? = some x ∧ H t = some (.tup x)
  | [], [], _, _, _, e => by simp at e
  | _ :: _, x :: _, 0, _, h, e => by simp at e; subst e; exact ⟨x, rfl, h.1⟩
  | _ :: _, _ :: _, i + 1, _, h, e => by
    obtain ⟨x, e1, e2⟩ := TupsAt.get (i := i) h.2 (by simpa using e)
    exact ⟨x, by simpa using e1, e2⟩
  | [], _ :: _, _, _, h, _ => h.elim
  | _ :: _, [], _, _, h, _ => h.elim
theorem TupsAt.dp {K : PySem.W.Frag} {H : Hp} {α : Type} {f : α → List V} {d : α → PyData} (hf : ∀ t a, H t = some (.tup (f a)) → Dp K H (.ref t) (d a)) : ∀ {ts : List Addr} {as : List α}, TupsAt H ts (as.map f) → DpAll K H (ts.map V.ref) (as.map d)
  | [], [], _ => .nil
  | _ :: _, _ :: _, h => .cons (hf _ _ h.1) (TupsAt.dp hf h.2)
  | [], _ :: _, h => h.elim
  | _ :: _, [], h => h.elim
theorem walk_tups {K : PySem.W.Frag} {D : Addr} {α : Type} {us : List Addr} {as : List α} (hl : us.length = as.length) : Walk (Itl K D) (us.zip as).length (fun H => SqL K H D (us.map V.ref)) (fun j H x H' => H' = H ∧ ∃ y, (us.zip as)[j]? = some y ∧ x = .ref y.1) := by
  have w := walk_listm (K := K) (a := D) us V.ref
  have el : (us.zip as).length = us.length := by rw [List.length_zip]; omega
  rw [el]
  refine w.mono (fun H h => h) (fun i H x H' hi _ y => ⟨y.1, ?_⟩)
  obtain ⟨t, e1, e2⟩ := y.2
  have hi2 : i < as.length := by omega
  refine ⟨(t, as[i]), List.getElem?_zip_eq_some.mpr ⟨e1, List.getElem?_eq_getElem hi2⟩, e2⟩
theorem TupsAt.zat {H : Hp} {α : Type} {f : α → List V} {us : List Addr} {as : List α} {j : Nat} {y : Addr × α} (h : TupsAt H us (as.map f)) (hy : (us.zip as)[j]? = some y) : H y.1 = some (.tup (f y.2)) ∧ y.2 ∈ as := by
  obtain ⟨h1, h2⟩ := List.getElem?_zip_eq_some.mp hy
  obtain ⟨x, e1, e2⟩ := h.get h1
  rw [List.getElem?_map, h2] at e1
  cases e1
  exact ⟨e2, List.mem_of_getElem? h2⟩
theorem zip_snd_map {α β : Type} {us : List Addr} {as : List α} (hl : us.length = as.length) (f : α → β) : (us.zip as).map (fun q => f q.2) = as.map f := by
  have : as = (us.zip as).map Prod.snd := by rw [List.map_snd_zip (by omega)]
  conv => rhs; rw [this, List.map_map]
  rfl
end Hk

set_option Elab.async false
set_option linter.all false
set_option maxRecDepth 100000
set_option maxHeartbeats 4000000
/-! Lines and patterns, in plain Lean. -/
namespace Hk
open PySem PySem.Spec PyProof.Rows L2 TL
abbrev letters : Str := "abcdefghijklmnopqrstuvwxyz"
def isWord (z : Str) : Bool := decide (1 ≤ z.length) && (decide (z.length ≤ 4) && (tl z).all fun c => decide (c ∈ tl letters))
def isLine (z : Str) : Bool := decide ((wds z).length ≤ 6) && (wds z).all isWord
/-- without the last one, if that is # -/
def cut (ws : List Str) : List Str := if ws.getLast? = some ("#" : Str) then ws.dropLast else ws
def starOr (z : Str) : Bool := decide (z = ("*" : Str)) || isWord z
def isPat (z : Str) : Bool := decide ((cut (wds z)).length ≤ 6) && (cut (wds z)).all starOr
/-- a pattern's words for lines of n -/
def ofLen (p : Str) (n : Int) : Option (List Str) :=
  let ws := wds p
  let us := if ws.getLast? = some ("#" : Str) then ws.dropLast ++ List.replicate (n - ws.dropLast.length).toNat ("*" : Str) else ws
  if (us.length : Int) = n then some us else none
def fit1 (q : Str × Str) : Bool := decide (q.1 = ("*" : Str)) || decide (q.1 = q.2)
def doesFit (p l : Str) : Bool := match ofLen p (wds l).length with
  | none => false
  | some ws => (ws.zip (wds l)).all fit1
theorem wds_ne (z : Str) : wds z ≠ [] := by
  intro h
  have e := split_spl z "." (by decide +kernel) (kind_ok (by decide +kernel))
  have h2 : (Txt.split z (".": Str)).map tl = [] := by
    show (wds z).map tl = []
    rw [h]; rfl
  rw [h2] at e
  have : ∀ (acc l : List Nat), spl (tl (".": Str)) 0 acc l ≠ [] := by
    intro acc l
    induction l generalizing acc with
    | nil => rw [spl_nil]; simp
    | cons c r ih =>
      cases q : pre (tl (".": Str)) (c :: r) with
      | true => rw [spl_hit q]; simp
      | false => rw [spl_miss q]; exact ih _
  exact this _ _ e.symm
theorem split_len_le (z y : Str) (hy : tl y ≠ []) (hk : ¬ Builtin.Str.strKind z < Builtin.Str.strKind y) : (Txt.split z y).length ≤ z.length + 1 := by
  have e := congrArg List.length (split_spl z y hy hk)
  rw [List.length_map] at e
  rw [e]
  have main : ∀ (k : Nat) (l acc : List Nat), l.length ≤ k → (spl (tl y) 0 acc l).length ≤ l.length + 1 := by
    intro k
    induction k with
    | zero =>
      intro l acc h
      have : l = [] := List.eq_nil_of_length_eq_zero (by omega)
      subst this
      rw [spl_nil]; simp
    | succ k ih =>
      intro l acc h
      cases l with
      | nil => rw [spl_nil]; simp
      | cons c r =>
        cases q : pre (tl y) (c :: r) with
        | true =>
          rw [spl_hit q, spl_pass]
          have := ih (r.drop ((tl y).length - 1)) [] (by simp at h; rw [List.length_drop]; omega)
          rw [List.length_drop] at this
          simp only [List.length_cons]
          omega
        | false =>
          rw [spl_miss q]
          have := ih r (acc ++ [c]) (by simpa using h)
          simp only [List.length_cons]
          omega
  have := main _ (tl z) [] (Nat.le_refl _)
  rw [len_tl]; exact this
theorem wds_len (z : Str) : (wds z).length ≤ z.length + 1 := split_len_le z "." (by decide +kernel) (kind_ok (by decide +kernel))
theorem wds_join {ws : List Str} (hne : ws ≠ []) (h : ∀ p ∈ ws, 46 ∉ tl p) : wds (Txt.join "." ws) = ws :=
  split_join (y := ".") (s := 46) (S := []) (by decide +kernel) (by decide +kernel) hne h
/-- every word that a text is cut into is as long as the text at most -/
theorem split_each_le (z y : Str) (hy : tl y ≠ []) (hk : ¬ Builtin.Str.strKind z < Builtin.Str.strKind y) : ∀ w ∈ Txt.split z y, w.length ≤ z.length := by
  intro w hw
  have e := split_spl z y hy hk
  have hm : tl w ∈ spl (tl y) 0 [] (tl z) := by
    rw [← e]; exact List.mem_map.mpr ⟨w, hw, rfl⟩
  have main : ∀ (k : Nat) (l acc : List Nat), l.length ≤ k → ∀ x ∈ spl (tl y) 0 acc l, x.length ≤ acc.length + l.length := by
    intro k
    induction k with
    | zero =>
      intro l acc h x hx
      have : l = [] := List.eq_nil_of_length_eq_zero (by omega)
      subst this
      rw [spl_nil] at hx
      simp at hx; subst hx; simp
    | succ k ih =>
      intro l acc h x hx
      cases l with
      | nil => rw [spl_nil] at hx; simp at hx; subst hx; simp
      | cons c r =>
        cases q : pre (tl y) (c :: r) with
        | true =>
          rw [spl_hit q, spl_pass] at hx
          rcases List.mem_cons.mp hx with rfl | hx
          · simp
          · have := ih (r.drop ((tl y).length - 1)) [] (by simp at h; rw [List.length_drop]; omega) x hx
            rw [List.length_drop] at this
            simp only [List.length_cons, List.length_nil] at this ⊢
            omega
        | false =>
          rw [spl_miss q] at hx
          have := ih r (acc ++ [c]) (by simpa using h) x hx
          simp only [List.length_cons, List.length_append, List.length_nil] at this ⊢
          omega
  have := main _ (tl z) [] (Nat.le_refl _) _ hm
  rw [len_tl w, len_tl z]
  simpa using this
theorem wds_each (z : Str) : ∀ w ∈ wds z, w.length ≤ z.length := split_each_le z "." (by decide +kernel) (kind_ok (by decide +kernel))
/-- .. and of its signs -/
theorem split_mem (z y : Str) (hy : tl y ≠ []) (hk : ¬ Builtin.Str.strKind z < Builtin.Str.strKind y) : ∀ w ∈ Txt.split z y, ∀ c ∈ tl w, c ∈ tl z := by
  intro w hw
  have e := split_spl z y hy hk
  have hm : tl w ∈ spl (tl y) 0 [] (tl z) := by
    rw [← e]; exact List.mem_map.mpr ⟨w, hw, rfl⟩
  have main : ∀ (k : Nat) (l acc : List Nat), l.length ≤ k → ∀ x ∈ spl (tl y) 0 acc l, ∀ c ∈ x, c ∈ acc ∨ c ∈ l := by
    intro k
    induction k with
    | zero =>
      intro l acc h x hx
      have : l = [] := List.eq_nil_of_length_eq_zero (by omega)
      subst this
      rw [spl_nil] at hx
      simp at hx; subst hx; exact fun c hc => .inl hc
    | succ k ih =>
      intro l acc h x hx
      cases l with
      | nil => rw [spl_nil] at hx; simp at hx; subst hx; exact fun c hc => .inl hc
      | cons c r =>
        cases q : pre (tl y) (c :: r) with
        | true =>
          rw [spl_hit q, spl_pass] at hx
          rcases List.mem_cons.mp hx with rfl | hx
          · exact fun c hc => .inl hc
          · have := ih (r.drop ((tl y).length - 1)) [] (by simp at h; rw [List.length_drop]; omega) x hx
            intro d hd
            rcases this d hd with z | z
            · cases z
            · exact .inr (List.mem_cons_of_mem _ (List.mem_of_mem_drop z))
        | false =>
          rw [spl_miss q] at hx
          have := ih r (acc ++ [c]) (by simpa using h) x hx
          intro d hd
          rcases this d hd with z | z
          · rcases List.mem_append.mp z with z | z
            · exact .inl z
            · rw [List.mem_singleton.mp z]; exact .inr (List.mem_cons_self ..)
          · exact .inr (List.mem_cons_of_mem _ z)
  intro c hc
  rcases main _ (tl z) [] (Nat.le_refl _) _ hm c hc with z | z
  · cases z
  · exact z
theorem strOk_iff {z : Str} : PyData.strOk z = true ↔ ∀ c ∈ tl z, c < 1114112 := by
  unfold PyData.strOk
  rw [Array.all_eq_true_iff_forall_mem]
  constructor
  · intro h c hc
    have := h c (Array.mem_toList_iff.mp hc)
    simpa using this
  · intro h c hc
    have := h c (Array.mem_toList_iff.mpr hc)
    simpa using this
theorem split_ok {z y : Str} (hy : tl y ≠ []) (hk : ¬ Builtin.Str.strKind z < Builtin.Str.strKind y) (h : PyData.strOk z = true) : ∀ w ∈ Txt.split z y, PyData.strOk w = true := fun w hw =>
  strOk_iff.mpr fun c hc => strOk_iff.mp h c (split_mem z y hy hk w hw c hc)
theorem shaped_strs {us : List Str} (h : ∀ z ∈ us, PyData.strOk z = true) : SeqAt.shaped (.list (us.map PyData.str)) = true := by
  unfold SeqAt.shaped
  refine Bool.and_eq_true_iff.mpr ⟨?_, decide_eq_true ?_⟩
  · simp only [PyData.canLay0]
    rw [canLayAll_strs', List.all_eq_true]; exact h
  · have : ∀ us : List Str, PyData.depthAll (us.map PyData.str) ≤ 0 := fun us => by
      induction us with
      | nil => simp only [List.map_nil, PyData.depthAll]; omega
      | cons a r ih =>
        simp only [List.map_cons, PyData.depthAll, PyData.depth]
        exact Nat.max_le.mpr ⟨Nat.le_refl _, ih⟩
    have := this us
    simp only [PyData.depth]
    omega
theorem sum_le {ws : List Str} {k : Nat} (h : ∀ w ∈ ws, w.length ≤ k) : (ws.map (·.length)).sum ≤ ws.length * k := by
  induction ws with
  | nil => simp
  | cons a r ih =>
    have h1 := h a (List.mem_cons_self ..)
    have h2 := ih fun w hw => h w (List.mem_cons_of_mem _ hw)
    simp only [List.map_cons, List.sum_cons, List.length_cons]
    rw [Nat.add_mul]; omega
theorem sum_one (cs : List Nat) : ((cs.map fun c => (⟨#[c]⟩ : Str)).map (·.length)).sum = cs.length := by
  induction cs with
  | nil => rfl
  | cons a r ih =>
    simp only [List.map_cons, List.sum_cons, List.length_cons]
    rw [ih]
    show 1 + r.length = _
    omega
theorem joinL_len (S : List Nat) : ∀ ps : List (List Nat), (joinL S ps).length ≤ (ps.map List.length).sum + ps.length * S.length
  | [] => by simp [joinL]
  | [p] => by simp [joinL]
  | p :: q :: r => by
    have := joinL_len S (q :: r)
    show (p ++ (S ++ joinL S (q :: r))).length ≤ _
    simp only [List.length_append, List.map_cons, List.sum_cons, List.length_cons] at this ⊢
    rw [Nat.add_mul _ 1, Nat.one_mul]
    omega
theorem join_len (s : Str) (ws : List Str) : (Txt.join s ws).length ≤ (ws.map (·.length)).sum + ws.length * s.length := by
  have := joinL_len (tl s) (ws.map tl)
  rw [len_tl (Txt.join s ws), join_eq, tl_join, len_tl s]
  rw [List.map_map, List.length_map] at this
  have e : (ws.map (List.length ∘ tl)) = ws.map (·.length) := List.map_congr_left fun w _ => (len_tl w).symm
  rw [e] at this
  exact this
theorem joinD_len {ws : List Str} {k : Nat} (h : ∀ w ∈ ws, w.length ≤ k) : (Txt.join "." ws).length ≤ ws.length * (k + 1) := by
  have h1 := join_len "." ws
  have h2 := sum_le h
  have e : ("." : Str).length = 1 := by decide +kernel
  rw [e] at h1
  rw [Nat.mul_add]
  omega
theorem letters_in : ∀ c ∈ tl letters, 97 ≤ c ∧ c ≤ 122 := by decide +kernel
theorem word_signs {z : Str} (h : isWord z = true) : 1 ≤ z.length ∧ z.length ≤ 4 ∧ ∀ c ∈ tl z, 97 ≤ c ∧ c ≤ 122 := by
  unfold isWord at h
  simp only [Bool.and_eq_true, decide_eq_true_eq, List.all_eq_true] at h
  exact ⟨h.1, h.2.1, fun c hc => letters_in c (h.2.2 c hc)⟩
theorem star_signs {z : Str} (h : starOr z = true) : z.length ≤ 4 ∧ (∀ c ∈ tl z, c = 42 ∨ (97 ≤ c ∧ c ≤ 122)) ∧ z ≠ ("#" : Str) := by
  unfold starOr at h
  rcases Bool.or_eq_true_iff.mp h with h | h
  · have e := of_decide_eq_true h
    subst e
    refine ⟨by decide +kernel, ?_, by decide +kernel⟩
    have : tl ("*" : Str) = [42] := by decide +kernel
    rw [this]
    intro c hc; left; simpa using hc
  · obtain ⟨h1, h2, h3⟩ := word_signs h
    refine ⟨h2, fun c hc => .inr (h3 c hc), fun e => ?_⟩
    subst e
    have := h3 35 (by decide +kernel)
    omega
theorem word_star {z : Str} (h : isWord z = true) : starOr z = true := by unfold starOr; rw [h]; simp
theorem star_nodot {z : Str} (h : starOr z = true) : 46 ∉ tl z := fun hc => by
  rcases (star_signs h).2.1 46 hc with e | e
  · cases e
  · omega
/-- a pattern of such words; with # behind -/
theorem isPat_join {us : List Str} (hne : us ≠ []) (hl : us.length ≤ 6) (h : ∀ u ∈ us, starOr u = true) : isPat (Txt.join "." us) = true := by
  have e : wds (Txt.join "." us) = us := wds_join hne fun p hp => star_nodot (h p hp)
  unfold isPat
  rw [e]
  have ec : cut us = us := by
    unfold cut
    refine if_neg fun z => ?_
    have := List.mem_of_getLast? z
    exact (star_signs (h _ this)).2.2 rfl
  rw [ec, decide_eq_true hl, List.all_eq_true.mpr h]; rfl
theorem isPat_hash {us : List Str} (hl : us.length ≤ 6) (h : ∀ u ∈ us, starOr u = true) : isPat (Txt.join "." (us ++ [("#" : Str)])) = true := by
  have e : wds (Txt.join "." (us ++ [("#" : Str)])) = us ++ [("#" : Str)] := wds_join (by simp) fun p hp => by
    rcases List.mem_append.mp hp with hp | hp
    · exact star_nodot (h p hp)
    · rw [List.mem_singleton.mp hp]; decide +kernel
  unfold isPat
  rw [e]
  have ec : cut (us ++ [("#" : Str)]) = us := by
    unfold cut
    rw [if_pos (by simp)]
    simp
  rw [ec, decide_eq_true hl, List.all_eq_true.mpr h]; rfl
theorem isLine_join {us : List Str} (hne : us ≠ []) (hl : us.length ≤ 6) (h : ∀ u ∈ us, isWord u = true) : isLine (Txt.join "." us) = true := by
  have e : wds (Txt.join "." us) = us := wds_join hne fun p hp => star_nodot (word_star (h p hp))
  unfold isLine
  rw [e, decide_eq_true hl, List.all_eq_true.mpr h]; rfl
/-- words of few letters, one to four of them each -/
def fewWord (z : Str) : Prop := 1 ≤ z.length ∧ z.length ≤ 4 ∧ ∀ c ∈ tl z, c = 97 ∨ c = 98 ∨ c = 122
theorem few_word {z : Str} (h : fewWord z) : isWord z = true := by
  unfold isWord
  rw [decide_eq_true h.1, decide_eq_true h.2.1, Bool.true_and, Bool.true_and, List.all_eq_true]
  intro c hc
  refine decide_eq_true ?_
  rcases h.2.2 c hc with e | e | e
  · rw [e]; decide +kernel
  · rw [e]; decide +kernel
  · rw [e]; decide +kernel
end Hk

set_option Elab.async false
set_option linter.all false
set_option maxRecDepth 100000
set_option maxHeartbeats 4000000
/-! Functions as values: closures that outlive the frame that made them. -/
namespace Hk
open PySem PySem.Spec PyProof.Rows L2 LamX NdefX
/-! ### cells that are tracked -/
/-- the cell at c holds v; its object is ob -/
def CellO (c : Addr) (v : V) (ob : Obj) : HO := .frz ob (.ext fun h => ∃ u, L2.RelV v u ∧ h.IsCell c (some u))
def IsC (H : Hp) (c : Addr) (v : V) : Prop := ∃ ob, H c = some (CellO c v ob)
theorem IsC.ext {H H' : Hp} {c : Addr} {v : V} (h : IsC H c v) (e : ∀ ob, H c = some (CellO c v ob) → H' c = some (CellO c v ob)) : IsC H' c v := h.elim fun ob q => ⟨ob, e ob q⟩
theorem cellO_ok {P : Program} {w : World} {H : Hp} {h : Heap} {c : Addr} {v : V} {u : Value} {ob : Obj} (r : L2.RelV v u) (e : h.get? c = some ob) (d : ob.data = .cell (some u)) : ObjOk P w H h c (CellO c v ob) :=
  ⟨e, ⟨u, r, ob, e, d⟩, ⟨ob, e⟩, fun h1 h2 ⟨u, r, o, e, d⟩ st => ⟨u, r, o, st _ e, d⟩⟩
theorem cellO_at {P : Program} {w : World} {H : Hp} {h : Heap} {c : Addr} {v : V} {ob : Obj} (x : ObjOk P w H h c (CellO c v ob)) : h.get? c = some ob ∧ ∃ u, L2.RelV v u ∧ ob.data = .cell (some u) := by
  obtain ⟨e, ⟨u, r, o, e2, d⟩, _⟩ := x
  rw [e] at e2
  cases e2
  exact ⟨e, u, r, d⟩
/-- is one of the cells of cl -/
def InC (cl : List (Str × Addr)) (a : Addr) : Prop := ∃ y, cl.lookup y = some a
open Classical in
/-- H without these cells -/
noncomputable def delC (cl : List (Str × Addr)) (H : Hp) : Hp := fun a => if InC cl a then none else H a
open Classical in
/-- H with these cells as they are in G -/
noncomputable def putC (cl : List (Str × Addr)) (G H : Hp) : Hp := fun a => if InC cl a then G a else H a
theorem delC_in {cl : List (Str × Addr)} {H : Hp} {a : Addr} (h : InC cl a) : delC cl H a = none := by unfold delC; exact if_pos h
theorem delC_out {cl : List (Str × Addr)} {H : Hp} {a : Addr} (h : ¬ InC cl a) : delC cl H a = H a := by unfold delC; exact if_neg h
theorem putC_in {cl : List (Str × Addr)} {G H : Hp} {a : Addr} (h : InC cl a) : putC cl G H a = G a := by unfold putC; exact if_pos h
theorem putC_out {cl : List (Str × Addr)} {G H : Hp} {a : Addr} (h : ¬ InC cl a) : putC cl G H a = H a := by unfold putC; exact if_neg h
/-- the captured names fr, each in a cell of its own that holds what ws says -/
structure CapsAt (cl : List (Str × Addr)) (fr : List Str) (ws : List V) (H : Hp) : Prop where
  len : ws.length = fr.length
  inj : ∀ x y c, cl.lookup x = some c → cl.lookup y = some c → x = y
  only : ∀ y c, cl.lookup y = some c → y ∈ fr
  has : ∀ (i : Nat) (y : Str), fr[i]? = some y → ∃ c v, cl.lookup y = some c ∧ ws[i]? = some v ∧ IsC H c v
theorem CapsAt.tr {cl : List (Str × Addr)} {fr : List Str} {ws : List V} {H : Hp} (C : CapsAt cl fr ws H) {a : Addr} (h : InC cl a) : ∃ v, IsC H a v := by
  obtain ⟨y, e⟩ := h
  obtain ⟨i, hi⟩ := List.mem_iff_getElem?.mp (C.only y a e)
  obtain ⟨c, v, e1, _, e3⟩ := C.has i y hi
  rw [e] at e1
  cases e1
  exact ⟨v, e3⟩
theorem CapsAt.mono {cl : List (Str × Addr)} {fr : List Str} {ws : List V} {H H' : Hp} (C : CapsAt cl fr ws H) (e : ∀ a, InC cl a → ∀ v, IsC H a v → IsC H' a v) : CapsAt cl fr ws H' :=
  ⟨C.len, C.inj, C.only, fun i y h => by
    obtain ⟨c, v, e1, e2, e3⟩ := C.has i y h
    exact ⟨c, v, e1, e2, e c ⟨y, e1⟩ v e3⟩⟩
/-- what is no locked thing is none of the cells -/
theorem CapsAt.out {cl : List (Str × Addr)} {fr : List Str} {ws : List V} {H : Hp} (C : CapsAt cl fr ws H) {a : Addr} {o : HO} (h : H a = some o) (n : ∀ ob u, o ≠ .frz ob u) : ¬ InC cl a := fun z => by
  obtain ⟨v, ob, e⟩ := C.tr z
  rw [h] at e
  exact n _ _ (Option.some.inj e)
theorem CapsAt.outN {cl : List (Str × Addr)} {fr : List Str} {ws : List V} {H : Hp} (C : CapsAt cl fr ws H) {a : Addr} (h : H a = none) : ¬ InC cl a := fun z => by
  obtain ⟨v, ob, e⟩ := C.tr z
  rw [h] at e
  cases e
theorem CapsAt.del {cl : List (Str × Addr)} {fr : List Str} {ws : List V} {H : Hp} (C : CapsAt cl fr ws H) {a : Addr} {o : HO} (h : H a = some o) (n : ∀ ob u, o ≠ .frz ob u) : delC cl H a = some o := by rw [delC_out (C.out h n)]; exact h
section
variable {P : Program} {w : World} {cl : List (Str × Addr)} {fr : List Str} {ws : List V} {H H' : Hp} {h h' B : Heap} {fs : List Addr}
theorem CapsAt.hokDel (C : CapsAt cl fr ws H) (hok : HOk P w H h) : HOk P w (delC cl H) h := fun a o e => by
  have na : ¬ InC cl a := fun z => by rw [delC_in z] at e; cases e
  rw [delC_out na] at e
  exact (hok a o e).stay (fun _ _ _ q => q) (fun b q => C.del q (fun _ _ z => by cases z)) fun b xs q => C.del q (fun _ _ z => by cases z)
/-- behind the body: the cells are as they were -/
theorem CapsAt.hokPut (C : CapsAt cl fr ws H) (hok0 : HOk P w H h) (hok : HOk P w H' h') (kp : ∀ a, InC cl a → ∀ o, h.get? a = some o → h'.get? a = some o) (fr0 : ∀ a, InC cl a → H' a = none) : HOk P w (putC cl H H') h' := fun a o e => by
  by_cases z : InC cl a
  · rw [putC_in z] at e
    obtain ⟨v, ob, e2⟩ := C.tr z
    rw [e] at e2
    cases e2
    obtain ⟨e3, u, r, d⟩ := cellO_at (hok0 a _ e)
    exact cellO_ok r (kp a z _ e3) d
  · rw [putC_out z] at e
    have st : ∀ b o, H' b = some o → putC cl H H' b = some o := fun b o q => by
      rw [putC_out (fun z => by rw [fr0 b z] at q; cases q)]; exact q
    exact (hok a o e).stay (fun _ _ _ q => q) (fun b q => st b _ q) fun b xs q => st b _ q
theorem CapsAt.un (C : CapsAt cl fr ws H) (u : Un fs [] (delC cl H) H' h h') (ex : ∀ a, InC cl a → ∃ o, h.get? a = some o) : Un fs [] H (putC cl H H') h h' where
  keep := fun b o e n => u.keep b o e (by rw [delC_out (C.outN n)]; exact n)
  slot := fun b o e n => u.slot b o e (by rw [delC_out (C.outN n)]; exact n)
  free := fun b o e n z => by rw [putC_out (C.outN n)]; exact u.free b o e (by rw [delC_out (C.outN n)]; exact n) z
  there := u.there
  tups := fun b xs e => by
    have q := C.out e (fun _ _ z => by cases z)
    rw [putC_out q]; exact u.tups b xs (by rw [delC_out q]; exact e)
  frzs := fun b o x e => by
    by_cases z : InC cl b
    · rw [putC_in z]; exact e
    · rw [putC_out z]; exact u.frzs b o x (by rw [delC_out z]; exact e)
  tbls := fun b ps e => by
    have q := C.out e (fun _ _ z => by cases z)
    rw [putC_out q]; exact u.tbls b ps (by rw [delC_out q]; exact e)
theorem CapsAt.ub (C : CapsAt cl fr ws H) (u : UB fs (delC cl H) H' h B h') : UB fs H (putC cl H H') h B h' where
  keep := fun b o e n => u.keep b o e (by rw [delC_out (C.outN n)]; exact n)
  slot := u.slot
  free := fun b o e n => by rw [putC_out (C.outN n)]; exact u.free b o e (by rw [delC_out (C.outN n)]; exact n)
  there := u.there
  tups := fun b xs e => by
    have q := C.out e (fun _ _ z => by cases z)
    rw [putC_out q]; exact u.tups b xs (by rw [delC_out q]; exact e)
  frzs := fun b o x e => by
    by_cases z : InC cl b
    · rw [putC_in z]; exact e
    · rw [putC_out z]; exact u.frzs b o x (by rw [delC_out z]; exact e)
  tbls := fun b ps e => by
    have q := C.out e (fun _ _ z => by cases z)
    rw [putC_out q]; exact u.tbls b ps (by rw [delC_out q]; exact e)
end
/-! ### a function value's promise -/
/-- called at level k, the function at f keeps the promise sp -/
def Act (P : Program) (w : World) (K : PySem.W.Frag) (mg : Str → Option Value) (base : Heap) (k : Nat) (f : Addr) (sp : Sp) : Prop :=
  ∀ (A : Around) (outer : List Env) (s : Shared) (H : Hp) (us : List Value) (vs : List V) (Q : VK) (E : XK), Room k A → Env0 P w K mg base A outer s H → Vals vs us → sp vs H Q E →
    PySem.W.FnAt f s.heap ∧ codeAny (model P w) A (.call (.ref f) ⟨us, []⟩) (CR (L2.CX P w) outer P w H s Q E) s
section
variable {P : Program} {w : World} {K : PySem.W.Frag} {mg : Str → Option Value} {base : Heap} {j k : Nat} {f : Addr} {sp sp' : Sp}
theorem Act.mono (a : Act P w K mg base j f sp) (h : j ≤ k) : Act P w K mg base k f sp := fun A outer s H us vs Q E hr => a A outer s H us vs Q E (hr.mono h)
theorem Act.imp (a : Act P w K mg base k f sp) (h : ∀ vs H Q E, sp' vs H Q E → sp vs H Q E) : Act P w K mg base k f sp' := fun A outer s H us vs Q E hr e0 r q => a A outer s H us vs Q E hr e0 r (h _ _ _ _ q)
theorem CR.weak {outer : List Env} {H : Hp} {s s' : Shared} {Q : VK} {E : XK} {r : Result} (h : CR CX0 outer P w H s Q E r s') : CR (L2.CX P w) outer P w H s Q E r s' := by
  cases r with
  | ok fl =>
    cases fl with
    | ret u => exact h
    | next => exact False.elim h
    | brk => exact False.elim h
    | cont => exact False.elim h
  | error e => exact False.elim h
/-- the promise of a closure, over the heap with its cells: spN is told of the heap without them -/
def spClo (f : Addr) (F : NF) (fr : List Str) (spN : List (Option V) → Sp) : Sp := fun vs H Q E => ∃ ws, H f = some (FnO f F) ∧ H F.c = some (CodeO F.c F.qual) ∧ CapsAt F.cl fr ws H ∧
  spN (ws.map some) vs (delC F.cl H) (fun v H' => (∀ a, InC F.cl a → H' a = none) → Q v (putC F.cl H H')) (fun cls d H' => (∀ a, InC F.cl a → H' a = none) → E cls d (putC F.cl H H'))
theorem fnO_nf {f : Addr} {F : NF} (ob : Obj) (u : HO) : FnO f F ≠ .frz ob u := fun z => by unfold FnO at z; cases z
theorem codeO_nf {f : Addr} {q : Str} (ob : Obj) (u : HO) : CodeO f q ≠ .frz ob u := fun z => by unfold CodeO at z; cases z
/-- what a run over the heap without the cells gives over the heap with them -/
theorem capsRun {cl : List (Str × Addr)} {fr : List Str} {ws : List V} {A : Around} {outer : List Env} {s : Shared} {H : Hp} {Q : VK} {E : XK} {c : Code} (C : CapsAt cl fr ws H) (e0 : Env0 P w K mg base A outer s H)
    (h : Env0 P w K mg base A outer s (delC cl H) → CellsAt cl fr (ws.map some) s.heap (delC cl H) → codeAny (model P w) A c (CR (L2.CX P w) outer P w (delC cl H) s (fun v H' => (∀ a, InC cl a → H' a = none) → Q v (putC cl H H')) (fun cls d H' => (∀ a, InC cl a → H' a = none) → E cls d (putC cl H H'))) s) :
    codeAny (model P w) A c (CR (L2.CX P w) outer P w H s Q E) s := by
  have at_ : ∀ a, InC cl a → ∃ v ob, H a = some (CellO a v ob) ∧ s.heap.get? a = some ob := fun a z => by
    obtain ⟨v, ob, e⟩ := C.tr z
    exact ⟨v, ob, e, (cellO_at (e0.hok a _ e)).1⟩
  have nfs : ∀ a, InC cl a → a ∉ frs outer := fun a z hb => by
    obtain ⟨v, ob, e, _⟩ := at_ a z
    rw [e0.frf a hb] at e
    cases e
  have e1 : Env0 P w K mg base A outer s (delC cl H) := ⟨e0.frames, e0.mod, fun b o e => ⟨(e0.bs b o e).1, by rw [delC_out (C.outN (e0.bs b o e).2)]; exact (e0.bs b o e).2⟩, e0.bsz, e0.funs, fun b hb => by rw [delC_out (C.outN (e0.frf b hb))]; exact e0.frf b hb, C.hokDel e0.hok, e0.bare⟩
  have C1 : CellsAt cl fr (ws.map some) s.heap (delC cl H) := by
    refine ⟨by rw [List.length_map]; exact C.len, fun y c e => ⟨delC_in ⟨y, e⟩, ?_⟩, C.inj, fun i y e => ?_⟩
    · obtain ⟨v, ob, q1, q2⟩ := at_ c ⟨y, e⟩
      obtain ⟨_, u, _, d⟩ := cellO_at (e0.hok c _ q1)
      exact ⟨some u, ob, q2, d⟩
    · obtain ⟨c, v, q1, q2, ob, q3⟩ := C.has i y e
      refine ⟨c, q1, fun v' hv => ?_⟩
      rw [List.getElem?_map, q2] at hv
      cases hv
      obtain ⟨q4, u, r, d⟩ := cellO_at (e0.hok c _ q3)
      exact ⟨u, r, ob, q4, d⟩
  refine codeAny_mono (h e1 C1) fun r s' hq => ?_
  cases r with
  | ok fl =>
    cases fl with
    | ret u =>
      obtain ⟨v, H', os, bare, un, hok, rv, q⟩ := (show CE outer P w (delC cl H) s _ u s' from hq)
      have f0 : ∀ a, InC cl a → H' a = none := fun a z => by
        obtain ⟨v, ob, _, q2⟩ := at_ a z
        exact un.free a ob q2 (delC_in z) (by simp)
      exact ⟨v, putC cl H H', os, bare, C.un un (fun a z => (at_ a z).elim fun v ⟨ob, _, q⟩ => ⟨ob, q⟩), C.hokPut e0.hok hok (fun a z o e => un.keep a o e (delC_in z) (nfs a z) (by simp)) f0, rv, q f0⟩
    | next => exact False.elim hq
    | brk => exact False.elim hq
    | cont => exact False.elim hq
  | error e =>
    obtain ⟨a, B, H', cls, d, e1, fl, hok, ub, na, os, bare, q⟩ := (show L2.CX P w outer (delC cl H) s _ e s' from hq)
    have f0 : ∀ a, InC cl a → H' a = none := fun a z => by
      obtain ⟨v, ob, _, q2⟩ := at_ a z
      exact ub.free a ob q2 (delC_in z)
    have kp : ∀ a, InC cl a → ∀ o, s.heap.get? a = some o → B.get? a = some o := fun a z o e => ub.keep a o e (delC_in z) (nfs a z)
    refine ⟨a, B, putC cl H H', cls, d, e1, fl, C.hokPut e0.hok hok kp f0, C.ub ub, ?_, os, bare, q f0⟩
    have nz : ¬ InC cl a := fun z => by
      obtain ⟨v, ob, _, q2⟩ := at_ a z
      have := kp a z ob q2
      rw [fl.2.1] at this
      cases this
    rw [putC_out nz]
    exact na
theorem act_clo {F : NF} {ps fr : List Str} {spN : List (Option V) → Sp} (N : NOk P w K mg base (L2.CX P w) k f F ps fr spN) : Act P w K mg base k f (spClo f F fr spN) := fun A outer s H us vs Q E hr e0 r h => by
  obtain ⟨ws, hf, hc, C, q⟩ := h
  obtain ⟨od, sl, doc, pm, ctv, ho⟩ := fnO_at e0.hok hf
  refine ⟨⟨_, od, _, sl, ho⟩, capsRun C e0 fun e1 C1 => ?_⟩
  exact N.run A outer s (delC F.cl H) us vs (ws.map some) _ _ hr e1 (C.del hf fnO_nf) (C.del hc codeO_nf) C1 r q
/-- a def of the top is a function value, too -/
theorem act_fn {fd : FuncData} {ps : List Str} (F : FnOk P w K mg base (L2.CX P w) k f fd ps sp) (hb : Binds K fd ps []) (hk : ∃ oc od fd' sl, K.lookup f = some ⟨oc, od, .func fd', sl⟩) : Act P w K mg base k f sp := fun A outer s H us vs Q E hr e0 r h => by
  have KX : K.In s.heap := e0.mod.kin.keeps fun b o e => (e0.bs b o e).1
  obtain ⟨oc, od, fd', sl, lk⟩ := hk
  refine ⟨⟨oc, od, fd', sl, KX _ _ lk⟩, ?_⟩
  have hl : (us ++ ([] : List Value)).length = ps.length := by rw [List.append_nil, ← r.length]; exact F.len _ _ _ _ h
  have := hb s us KX hl
  rw [List.append_nil] at this
  exact F.run A outer s H ⟨us, []⟩ us vs Q E hr e0 this r h
end
/-! ### calls of a function value that a name holds -/
def tCallV (P : Program) (w : World) (K : PySem.W.Frag) (mg : Str → Option Value) (base : Heap) (k i : Nat) (E : XK) (t : TA) : TE := fun σ H Q => ∃ f sp, σ[i]? = some (some (.ref f)) ∧ Act P w K mg base k f sp ∧ t σ H fun vs H1 => sp vs H1 Q E
section
variable {X : Cx} {k i : Nat} {x : Str} {E : XK} {t : TA} {e : Expr} {es : List Expr} {p pos : Pos}
theorem run_act {pins : List (Addr × Obj)} {σ : L2.St} {H : Hp} {s : Shared} {Q : VK} {f : Addr} {sp : Sp} {us : List Value} {vs : List V} (a : Act X.prog X.w X.K X.mg X.base k f sp) (hr : Room k X.A) (hx : Passes (L2.CX X.prog X.w) X E) (I : Inv X pins σ H s) (r : Vals vs us) (q : sp vs H Q E) :
    PySem.W.FnAt f s.heap ∧ wpAny (model X.prog X.w) X.A (call (.ref f) us) (EP X pins σ Q) X.xe s := by
  obtain ⟨z, c⟩ := a X.A X.stack s H us vs Q E hr I.env0 r q
  refine ⟨z, wpAny_call (codeAny_mono c fun r s' hq => ?_)⟩
  cases r with
  | error e => exact hx pins σ H s e s' I hq
  | ok fl =>
    cases fl with
    | ret u => exact I.after hq
    | next => exact False.elim hq
    | brk => exact False.elim hq
    | cont => exact False.elim hq
theorem pe_callV (hr : Room k X.A) (hx : Passes (L2.CX X.prog X.w) X E) (hN : X.N[i]? = some x) (hv : Vis X.env.scope x) (ha : PA X (e :: es) t)
    (hd : (x == ("__debug__" : Str)) = false := by decide) (hcd : (x == ("__classdict__" : Str)) = false := by decide)
    (he : starEach (e :: es) X.env = (false, eval e X.env) :: starEach es X.env := by rfl) (hpl : (backTo pos (starEach es X.env)).any (·.1) = false := by rfl) :
    PE X (.Call (.Name x p) (e :: es) [] pos) (tCallV X.prog X.w X.K X.mg X.base k i E t) := by
  refine ⟨fun pins s σ H Q I h => ?_⟩
  obtain ⟨f, sp, hs, ac, ht⟩ := h
  refine wpAny_Call_Name_kw (thn ((pe_var (pos := p) hN hv hd hcd).run pins s σ H (fun v H1 => v = .ref f ∧ H1 = H) I ⟨.ref f, hs, rfl, rfl⟩) fun u s1 ⟨v, H1, I1, r1, q1⟩ => ?_)
  obtain ⟨ev, eH⟩ := q1
  subst ev
  rw [eH] at I1
  obtain rfl : u = Value.ref f := r1
  have h := thn (ha.run pos pins s1 σ H _ I1 ht) fun us s2 ⟨vs, H2, I2, r, q⟩ => run_act ac hr hx I2 r q
  show wpAny _ _ (callWith pos (.ref f) [] (backTo pos (starEach (e :: es) X.env)) []) _ _ _
  rw [he] at h ⊢
  exact PySem.W.callWith_of (by show ((false || (backTo pos (starEach es X.env)).any (·.1)) || false) = false; rw [hpl]; rfl) PySem.W.keeps_F (PySem.Calls.evalArgs_plain h)
theorem pe_callV0 (hr : Room k X.A) (hx : Passes (L2.CX X.prog X.w) X E) (hN : X.N[i]? = some x) (hv : Vis X.env.scope x)
    (hd : (x == ("__debug__" : Str)) = false := by decide) (hcd : (x == ("__classdict__" : Str)) = false := by decide) :
    PE X (.Call (.Name x p) [] [] pos) (tCallV X.prog X.w X.K X.mg X.base k i E tNil) := by
  refine ⟨fun pins s σ H Q I h => ?_⟩
  obtain ⟨f, sp, hs, ac, q⟩ := h
  refine wpAny_Call_Name_kw (thn ((pe_var (pos := p) hN hv hd hcd).run pins s σ H (fun v H1 => v = .ref f ∧ H1 = H) I ⟨.ref f, hs, rfl, rfl⟩) fun u s1 ⟨v, H1, I1, r1, q1⟩ => ?_)
  obtain ⟨ev, eH⟩ := q1
  subst ev
  rw [eH] at I1
  obtain rfl : u = Value.ref f := r1
  obtain ⟨z, c⟩ := run_act ac hr hx I1 .nil q
  exact PySem.W.callWith_F0 (first := []) z c
end
end Hk

set_option Elab.async false
set_option linter.all false
set_option maxRecDepth 100000
set_option maxHeartbeats 4000000
/-! Lambdas, with or without a default; what a live frame's cells hold, told to a callee. -/
namespace Hk
open PySem PySem.Spec PySem.W PySem.Calls PyProof.Rows L2 LamX NdefX
/-- a lambda's words; dT: the tuple of its defaults -/
structure LF where
  qual : Str
  params : Arguments
  body : Expr
  scope : Scope
  cl : List (Str × Addr)
  c : Addr
  dT : Option Addr
def dVof : Option Addr → Value
  | none => .none
  | some T => .ref T
abbrev lamFd (qual : Str) (params : Arguments) (body : Expr) (scope : Scope) (cl : List (Str × Addr)) (dV pm cdv ctv : Value) : FuncData :=
  { name := "<lambda>", qualname := qual, params := params, body := .expr body, scope := scope, globals := mainGlobals, closure := cl, defaults := dV, kwdefaults := .none, doc := .none, pyModule := pm, annotations := none, code := cdv, closureTuple := ctv, builtins := builtinsNs }
abbrev LF.fd (L : LF) (pm ctv : Value) : FuncData := lamFd L.qual L.params L.body L.scope L.cl (dVof L.dT) pm (.ref L.c) ctv
def LamO (f : Addr) (L : LF) : HO := .ext fun h => ∃ (od : Option Addr) (sl : Array (Option Value)) (pm ctv : Value), h.get? f = some (⟨.type "function", od, .func (L.fd pm ctv), sl⟩ : Obj)
theorem lamO_ne {f : Addr} {L : LF} (ps : Array Value) : LamO f L ≠ .tbl ps := fun z => by unfold LamO at z; cases z
theorem lamO_nf {f : Addr} {L : LF} (ob : Obj) (u : HO) : LamO f L ≠ .frz ob u := fun z => by unfold LamO at z; cases z
theorem lamO_at {P : Program} {w : World} {H : Hp} {h : Heap} {f : Addr} {L : LF} (hok : HOk P w H h) (e : H f = some (LamO f L)) : ∃ (od : Option Addr) (sl : Array (Option Value)) (pm ctv : Value), h.get? f = some (⟨.type "function", od, .func (L.fd pm ctv), sl⟩ : Obj) := by
  obtain ⟨z, _, _⟩ := hok f _ e
  exact z
section
variable {M : Model} {A : Around} {E : Value → Shared → Prop} {s : Shared} {name qual : Str} {params : Arguments} {body : Expr} {scope : Scope} {env : Env} {c P : Addr} {ps : Array Value} {pos : Pos} {firstLine : Nat} {mg : Str → Option Value}
  {clos : List (Str × Addr)} {Q : Value → Shared → Prop} {dV : Value}
theorem lam_tail (hcl : closureFor scope env = pure clos) (hge0 : env.globals = mainGlobals) (hg : s.heap.Ns mainGlobals mg) (hcode : env.code = .ref c) (C : CodeHd s.heap c P) (hP : s.heap.get? P = some (tabObj ps)) (ht : TriplesOk ps.toList)
    (hnf : codeAmong pos ps.toList = none) (hgP : mainGlobals ≠ P) (hb : s.heap.BuiltinsAt mg P)
    (h : ∀ c' ctv h' tk, Heap.ExtBut P s.heap h' → s.heap.objs.size ≤ c' → c' < h'.objs.size → h'.CodeRec (.ref c') qual → h'.get? P = some (tabObj (ps ++ #[rawInt pos.line, rawInt pos.col, .ref c'])) →
      Q (.ref h'.objs.size) { s with heap := h'.push { cls := .type "function", data := .func (lamFd qual params body scope clos dV ((mg "__name__").getD .none) (.ref c') ctv) }, toks := tk }) :
    wpAny M A (makeTail "<lambda>" qual params (.expr body) scope env dV .none none pos firstLine) Q E s := by
  obtain ⟨bm, ob, hbm, hne0, _, hneP, hbo, hcls, hdict, hdata⟩ := hb
  unfold makeTail
  rw [hcl, hge0]
  refine wpAny_bind (wpAny_pure ?_)
  cases clos with
  | nil =>
    simp only [List.isEmpty_nil, if_true]
    refine wpAny_bind (wpAny_pure ?_)
    refine wpAny_bind (wpAny_functionCodeX hcode (C.code hP ht) (C.tab hP) hnf fun c' h' tk hx hge hlt _ hrec htb _ => ?_)
    have hg' := hg.extBut hx hgP
    refine wpAny_bind (wpAny_builtinsFor hg' hbm hne0 (hx _ _ hneP hbo) hcls hdict hdata ?_)
    refine wpAny_bind (wpAny_nsGet hg' ?_)
    exact wpAny_bind (wpAny_pure (wpAny_newObj_type (h c' .none h' tk hx hge hlt hrec htb.2) (by size_fits)))
  | cons q r =>
    simp only [List.isEmpty_cons, Bool.false_eq_true, if_false]
    refine wpAny_bind (wpAny_newTextTuple ?_)
    refine wpAny_bind (wpAny_functionCodeX hcode ((C.keeps fun b o e => Heap.get?_push_of_some _ e).code (Heap.get?_push_of_some _ hP) ht) ((C.keeps fun b o e => Heap.get?_push_of_some _ e).tab (Heap.get?_push_of_some _ hP)) hnf fun c' h' tk hx hge hlt _ hrec htb _ => ?_)
    have hg' := (hg.push _).extBut hx hgP
    have hx' : Heap.ExtBut P s.heap h' := fun b o hb' e => hx b o hb' (Heap.get?_push_of_some _ e)
    have hge' : s.heap.objs.size ≤ c' := Nat.le_trans (by rw [Heap.size_push]; omega) hge
    refine wpAny_bind (wpAny_builtinsFor hg' hbm hne0 (hx' _ _ hneP hbo) hcls hdict hdata ?_)
    refine wpAny_bind (wpAny_nsGet hg' ?_)
    exact wpAny_bind (wpAny_pure (wpAny_newObj_type (h c' _ h' tk hx' hge' hlt hrec htb.2) (by size_fits)))
theorem lam_tailHit {cv : Value} (hcl : closureFor scope env = pure clos) (hge0 : env.globals = mainGlobals) (hg : s.heap.Ns mainGlobals mg) (hcode : env.code = .ref c) (C : CodeHd s.heap c P) (hP : s.heap.get? P = some (tabObj ps)) (ht : TriplesOk ps.toList)
    (hf : codeAmong pos ps.toList = some cv) (hb : s.heap.BuiltinsAt mg P)
    (h : ∀ (ctv : Value) (h' : Heap) (tk : Tok), (∀ b o, s.heap.get? b = some o → h'.get? b = some o) → s.heap.objs.size ≤ h'.objs.size →
      Q (.ref h'.objs.size) { s with heap := h'.push { cls := .type "function", data := .func (lamFd qual params body scope clos dV ((mg "__name__").getD .none) cv ctv) }, toks := tk }) :
    wpAny M A (makeTail "<lambda>" qual params (.expr body) scope env dV .none none pos firstLine) Q E s := by
  obtain ⟨bm, ob, hbm, hne0, _, hneP, hbo, hcls, hdict, hdata⟩ := hb
  unfold makeTail
  rw [hcl, hge0]
  refine wpAny_bind (wpAny_pure ?_)
  cases clos with
  | nil =>
    simp only [List.isEmpty_nil, if_true]
    refine wpAny_bind (wpAny_pure ?_)
    refine wpAny_bind (wpAny_functionCode_hit hcode (C.code hP ht) hf ?_)
    refine wpAny_bind (wpAny_builtinsFor hg hbm hne0 hbo hcls hdict hdata ?_)
    refine wpAny_bind (wpAny_nsGet hg ?_)
    exact wpAny_bind (wpAny_pure (wpAny_newObj_type (h .none s.heap s.toks (fun _ _ e => e) (Nat.le_refl _)) (by size_fits)))
  | cons q r =>
    simp only [List.isEmpty_cons, Bool.false_eq_true, if_false]
    refine wpAny_bind (wpAny_newTextTuple ?_)
    refine wpAny_bind (wpAny_functionCode_hit hcode ((C.keeps fun b o e => Heap.get?_push_of_some _ e).code (Heap.get?_push_of_some _ hP) ht) hf ?_)
    refine wpAny_bind (wpAny_builtinsFor (hg.push _) hbm hne0 (Heap.get?_push_of_some _ hbo) hcls hdict hdata ?_)
    refine wpAny_bind (wpAny_nsGet (hg.push _) ?_)
    have hsz : ∀ oT : Obj, s.heap.objs.size ≤ (s.heap.push oT).objs.size := fun oT => by rw [Heap.size_push]; omega
    exact wpAny_bind (wpAny_pure (wpAny_newObj_type (h _ _ s.toks (fun b o e => Heap.get?_push_of_some _ e) (hsz _)) (by size_fits)))
end
/-! ### tables: one function tells the names of all code objects by their places -/
def Tabs1 (Ts : List Addr) (nm : Nat → Nat → Str) (H : Hp) : Prop := ∀ P ∈ Ts, TabN H P nm
theorem Tabs1.ext {Ts : List Addr} {nm : Nat → Nat → Str} {H H' : Hp} (t : Tabs1 Ts nm H) (e : ∀ b o, H b = some o → H' b = some o) : Tabs1 Ts nm H' := fun p hp => (t p hp).ext e
section
variable {X : Cx} {pins : List (Addr × Obj)} {σ : L2.St} {H : Hp} {s : Shared}
theorem inv_lam {L : LF} {o : Obj} {t' : Nat} {pm ctv : Value} (I : Inv X pins σ H s) (ho : o = { cls := .type "function", data := .func (L.fd pm ctv) }) :
    Inv X pins σ (upd H s.heap.objs.size (LamO s.heap.objs.size L)) { s with heap := s.heap.push o, toks := t' } := by
  subst ho
  refine I.laid (a := s.heap.objs.size) (fun b u e => Heap.get?_push_of_some _ e) (Nat.le_refl _) ?_
  have e : (s.heap.push ({ cls := .type "function", data := .func (L.fd pm ctv) } : Obj)).get? s.heap.objs.size = some ({ cls := .type "function", data := .func (L.fd pm ctv) } : Obj) := Heap.get?_push_size _ rfl
  exact ⟨⟨_, _, pm, ctv, e⟩, ⟨_, e⟩, fun h1 h2 ⟨od, sl, p, t, z⟩ st => ⟨od, sl, p, t, st _ z⟩⟩
/-- the lambda's object is made: its code object is new, or found in the table -/
theorem lam_new {Ts : List Addr} {nm : Nat → Nat → Str} {c P : Addr} {params : Arguments} {body : Expr} {scope : Scope} {pos : Pos} {dT : Option Addr} {firstLine : Nat} {E : Value → Shared → Prop} {Q : Value → Shared → Prop} (I : Inv X pins σ H s) (TB : TabB X.base X.mg c P) (hcode : X.env.code = .ref c)
    (hm : P ∈ Ts) (hn : nm pos.line pos.col = X.env.qual ++ "<lambda>") (hT : Tabs1 Ts nm H) (hfree : ∀ y ∈ scope.names, y.2 = .free → ∃ c, X.env.cells.lookup y.1 = some c)
    (h : ∀ (f c' : Addr) (H1 : Hp) (s' : Shared), Inv X pins σ H1 s' → (∀ b o, H b = some o → b ∉ Ts → H1 b = some o) → (∀ b, H1 b = Option.none → H b = Option.none) → Tabs1 Ts nm H1 → H f = none → H1 f = some (LamO f ⟨X.env.qual ++ "<lambda>", params, body, scope, cloFrom X.env.cells scope.names [], c', dT⟩) → H1 c' = some (CodeO c' (X.env.qual ++ "<lambda>")) → Q (.ref f) s') :
    wpAny (model X.prog X.w) X.A (makeTail "<lambda>" (X.env.qual ++ "<lambda>") params (.expr body) scope X.env (dVof dT) .none none pos firstLine) Q E s := by
  obtain ⟨ps, hP, ht, ha⟩ := hT P hm
  have bP : s.heap.BuiltinsAt X.mg P := TB.bm.keeps I.bk
  have hP' : s.heap.get? P = some { cls := .none, data := .fields ps } := I.hok P _ hP
  cases hc : codeAmong pos ps.toList with
  | none =>
    refine lam_tail (mg := X.mg) (c := c) (P := P) (ps := ps) (closure_ok hfree) I.ok.glob (I.mod.glob.keeps I.bk) hcode (TB.code.keeps I.bk) hP' ht hc TB.gP bP fun c' ctv h' tk hx hge hlt hrec htb => ?_
    obtain ⟨c2, oc, vs, t, e2, hoc, hd, hv⟩ := hrec
    cases e2
    have nC : H c' = none := I.hok.fresh hge
    have I1 := inv_table (t' := tk) (more := #[rawInt pos.line, rawInt pos.col, .ref c']) (h' := h') I hP (fun b o hb e => hx b o hb e) htb hge ⟨oc, vs, t, hoc, hd, hv⟩
    have hE : ∀ b o, H b = some o → b ≠ P → upd (upd H P (.tbl (ps ++ #[rawInt pos.line, rawInt pos.col, .ref c']))) c' (CodeO c' (X.env.qual ++ "<lambda>")) b = some o := fun b o e n => by
      rw [upd_ne (ne_of_none e nC), upd_ne n]
      exact e
    have neP : ∀ b q, H b = some (CodeO b q) → b ≠ P := fun b q e z => by
      rw [z, hP] at e
      exact codeO_ne ps (Option.some.inj e).symm
    have eL : (ps ++ #[rawInt pos.line, rawInt pos.col, .ref c']).toList = ps.toList ++ [rawInt pos.line, rawInt pos.col, .ref c'] := by simp
    have T1 : Tabs1 Ts nm (upd (upd H P (.tbl (ps ++ #[rawInt pos.line, rawInt pos.col, .ref c']))) c' (CodeO c' (X.env.qual ++ "<lambda>"))) := fun p hp => by
      by_cases hb : p = P
      · rw [hb]
        refine ⟨_, by rw [upd_ne (ne_of_none hP nC), upd_same], by rw [eL]; exact PySem.TriplesOk_snoc _ _ _ _ ht, fun p' cv hcv => ?_⟩
        rw [eL] at hcv
        rcases among_app2 _ ht hcv with z | ⟨z, z1, z2⟩
        · obtain ⟨c0, e1, e2⟩ := ha p' cv z
          exact ⟨c0, e1, hE _ _ e2 (neP _ _ e2)⟩
        · refine ⟨c', z, ?_⟩
          rw [← z1, ← z2, hn]
          exact upd_same
      · obtain ⟨ps', a1, a2, a3⟩ := hT p hp
        refine ⟨ps', by rw [upd_ne (ne_of_none a1 nC), upd_ne hb]; exact a1, a2, fun p' cv hcv => ?_⟩
        obtain ⟨c0, e1, e2⟩ := a3 p' cv hcv
        exact ⟨c0, e1, hE _ _ e2 (neP _ _ e2)⟩
    have nF := I1.hok.fresh (Nat.le_refl _)
    have I2 := inv_lam (L := ⟨X.env.qual ++ "<lambda>", params, body, scope, cloFrom X.env.cells scope.names [], c', dT⟩) (t' := tk) (pm := (X.mg "__name__").getD .none) (ctv := ctv) I1 rfl
    refine h h'.objs.size c' _ _ I2 (fun b o e n => ?_) (fun b e => upd_none (upd_none (upd_none e))) (T1.ext fun b o e => ?_) (I.hok.fresh (Nat.le_trans hge (Nat.le_of_lt hlt))) upd_same ?_
    · have e1 := hE b o e (fun z => n (by rw [z]; exact hm))
      exact (upd_ne (ne_of_none e1 nF)).trans e1
    · exact (upd_ne (ne_of_none e nF)).trans e
    · exact (upd_ne (Nat.ne_of_lt hlt)).trans upd_same
  | some cv =>
    obtain ⟨c', e, hco⟩ := ha pos cv hc
    subst e
    rw [hn] at hco
    refine lam_tailHit (mg := X.mg) (c := c) (P := P) (ps := ps) (closure_ok hfree) I.ok.glob (I.mod.glob.keeps I.bk) hcode (TB.code.keeps I.bk) hP' ht hc bP fun ctv h' tk hx hsz => ?_
    have I1 : Inv X pins σ H { s with heap := h', toks := tk } := I.kept hx
    have nF : H h'.objs.size = none := I1.hok.fresh (Nat.le_refl _)
    have I2 := inv_lam (L := ⟨X.env.qual ++ "<lambda>", params, body, scope, cloFrom X.env.cells scope.names [], c', dT⟩) (t' := tk) (pm := (X.mg "__name__").getD .none) (ctv := ctv) I1 rfl
    refine h h'.objs.size c' _ _ I2 (fun b o e n => ?_) (fun b e => upd_none e) (hT.ext fun b o e => ?_) nF upd_same ?_
    · exact (upd_ne (ne_of_none e nF)).trans e
    · exact (upd_ne (ne_of_none e nF)).trans e
    · exact (upd_ne (ne_of_none hco nF)).trans hco
end
/-- the reading of a lambda: a new function; mk: its words, by its code object -/
def tLam1 (Ts : List Addr) (nm : Nat → Nat → Str) (mk : Addr → LF) : TE := fun σ H Q => Tabs1 Ts nm H ∧ ∀ (f c' : Addr) (H1 : Hp), (∀ b o, H b = some o → b ∉ Ts → H1 b = some o) → (∀ b, H1 b = Option.none → H b = Option.none) → Tabs1 Ts nm H1 → H f = none → H1 f = some (LamO f (mk c')) → H1 c' = some (CodeO c' (mk c').qual) → Q (.ref f) H1
section
variable {X : Cx} {Ts : List Addr} {nm : Nat → Nat → Str} {c P : Addr} {params : Arguments} {body d : Expr} {scope : Scope} {pos : Pos} {td : TE}
theorem pe_lam (TB : TabB X.base X.mg c P) (hcode : X.env.code = .ref c) (hm : P ∈ Ts) (hn : nm pos.line pos.col = X.env.qual ++ "<lambda>") (hfree : ∀ y ∈ scope.names, y.2 = .free → X.env.scope.names.lookup y.1 = some .cell ∨ X.env.scope.names.lookup y.1 = some .free)
    (hdef : defaultsOf params X.env = ([], [])) : PE X (.Lambda params body scope pos) (tLam1 Ts nm fun c' => ⟨X.env.qual ++ "<lambda>", params, body, scope, cloFrom X.env.cells scope.names [], c', none⟩) := by
  refine ⟨fun pins s σ H Q I h => ?_⟩
  obtain ⟨hT, h⟩ := h
  refine kla_eval hdef ?_
  rw [makeFunction_eq]
  simp only [List.zip_nil_right, List.filterMap_nil, List.isEmpty_nil, if_true, pure_bind]
  have hfr : ∀ y ∈ scope.names, y.2 = .free → ∃ c, X.env.cells.lookup y.1 = some c := fun y hy e => (hfree y hy e).elim (fun z => I.ok.has _ (.inl z)) fun z => I.ok.has _ (.inr z)
  exact lam_new (dT := none) I TB hcode hm hn hT hfr fun f c' H1 s' I1 e1 e2 T1 f0 f1 c1 => ⟨.ref f, H1, I1, rfl, h f c' H1 e1 e2 T1 f0 f1 c1⟩
end
end Hk

set_option Elab.async false
set_option linter.all false
set_option maxRecDepth 100000
set_option maxHeartbeats 4000000
namespace Hk
open PySem PySem.Spec PySem.W PySem.Calls PyProof.Rows L2 LamX NdefX
/-! ### a lambda with a default -/
section
variable {X : Cx} {Ts : List Addr} {nm : Nat → Nat → Str} {c P : Addr} {params : Arguments} {body d : Expr} {scope : Scope} {pos : Pos} {td : TE}
/-- .. the tuple of its one default at T -/
def tLamD (Ts : List Addr) (nm : Nat → Nat → Str) (mk : Addr → Addr → LF) (td : TE) : TE := fun σ H Q => td σ H fun v H0 => ∀ T, H0 T = none → tLam1 Ts nm (mk T) σ (upd H0 T (.tup [v])) Q
theorem pe_lamD (TB : TabB X.base X.mg c P) (hcode : X.env.code = .ref c) (hm : P ∈ Ts) (hn : nm pos.line pos.col = X.env.qual ++ "<lambda>") (hfree : ∀ y ∈ scope.names, y.2 = .free → X.env.scope.names.lookup y.1 = some .cell ∨ X.env.scope.names.lookup y.1 = some .free)
    (hd : PE X d td) (hdef : defaultsOf params X.env = ([eval d X.env], [])) : PE X (.Lambda params body scope pos) (tLamD Ts nm (fun T c' => ⟨X.env.qual ++ "<lambda>", params, body, scope, cloFrom X.env.cells scope.names [], c', some T⟩) td) := by
  refine ⟨fun pins s σ H Q I h => ?_⟩
  rw [arm_eval_Lambda, hdef]
  refine wpAny_bind ?_
  show wpAny _ _ (evalAll [eval d X.env]) _ _ _
  unfold evalAll
  refine wpAny_bind (thn (hd.run pins s σ H _ I h) fun u s1 ⟨v, H1, I1, r1, q1⟩ => ?_)
  refine wpAny_bind (wpAny_holding (wpAny_pure (wpAny_pure ?_)))
  refine wpAny_bind (wpAny_holding (wpAny_pure ?_))
  rw [makeFunction_eq]
  simp only [List.zip_nil_right, List.filterMap_nil, List.isEmpty_nil, List.isEmpty_cons, Bool.false_eq_true, if_false, if_true, pure_bind]
  refine wpAny_bind (wpAny_newTextTuple ?_)
  have I2 : Inv X pins σ (upd H1 s1.heap.objs.size (.tup [v])) { s1 with heap := s1.heap.push { cls := .type "tuple", data := .seq [u].toArray } } := by
    refine I1.laid (a := s1.heap.objs.size) (t' := s1.toks) (fun b u e => Heap.get?_push_of_some _ e) (Nat.le_refl _) ?_
    exact ⟨by show 1 ≤ sizeLine; decide, [u], .cons r1 .nil, IsTup.new s1.heap _⟩
  obtain ⟨hT, h⟩ := q1 s1.heap.objs.size (I1.hok.fresh (Nat.le_refl _))
  have hfr : ∀ y ∈ scope.names, y.2 = .free → ∃ c, X.env.cells.lookup y.1 = some c := fun y hy e => (hfree y hy e).elim (fun z => I.ok.has _ (.inl z)) fun z => I.ok.has _ (.inr z)
  exact lam_new (dT := some s1.heap.objs.size) I2 TB hcode hm hn hT hfr fun f c' H1 s' I1 e1 e2 T1 f0 f1 c1 => ⟨.ref f, H1, I1, rfl, h f c' H1 e1 e2 T1 f0 f1 c1⟩
end
/-! ### a lambda's promise by its body -/
abbrev LF.nf (L : LF) : NF := ⟨"<lambda>", L.qual, L.params, [], L.scope, L.cl, L.c⟩
def DtOk (H : Hp) (dT : Option Addr) (dvs : List V) : Prop := match dT with
  | none => dvs = []
  | some T => H T = some (.tup dvs)
def spLam (f : Addr) (L : LF) (fr : List Str) (dvs : List V) (spN : List (Option V) → Sp) : Sp := fun vs H Q E => ∃ ws, H f = some (LamO f L) ∧ H L.c = some (CodeO L.c L.qual) ∧ CapsAt L.cl fr ws H ∧ DtOk H L.dT dvs ∧
  spN (ws.map some) (vs ++ dvs) (delC L.cl H) (fun v H' => (∀ a, InC L.cl a → H' a = none) → Q v (putC L.cl H H')) (fun cls d H' => (∀ a, InC L.cl a → H' a = none) → E cls d (putC L.cl H H'))
section
variable {P : Program} {w : World} {K : PySem.W.Frag} {mg : Str → Option Value} {base : Heap} {N ps fr : List Str} {L : LF} {f : Addr} {k : Nat} {spN : List (Option V) → Sp}
theorem act_lamB {dvs : List V} (S : NScope N ps fr L.scope) (len : ∀ ws vs H Q E, spN ws vs H Q E → vs.length = ps.length)
    (hb : ∀ (s : Shared) (H : Hp) (pm ctv : Value) (us : List Value), HOk P w H s.heap → DtOk H L.dT dvs → us.length + dvs.length = ps.length → ∃ ds, Vals dvs ds ∧ BindsTo s (L.fd pm ctv) ⟨us, []⟩ (ps.zip (us ++ ds)))
    (hbody : ∀ (A : Around) (outer : List Env) (s : Shared) (H : Hp) (vs : List V) (ws : List (Option V)) (Q : VK) (E : XK), Room k (A.deeper (envF L.nf f s.heap.objs.size)) → ws.length = fr.length → spN ws vs H Q E →
      ∃ te, PE (ncx (L2.CX P w) P w K mg base N L.nf f A outer s H E) L.body te ∧ te (startF N vs ws) H Q) :
    Act P w K mg base (k + 1) f (spLam f L fr dvs spN) := fun A outer s H us vs Q E hr e0 r h => by
  obtain ⟨ws, hf, hc, C, hd, q⟩ := h
  have lim : s.heap.NoLimit := e0.mod.nolimit.keeps fun b o e => (e0.bs b o e).1
  obtain ⟨od, sl, pm, ctv, ho⟩ := lamO_at e0.hok hf
  refine ⟨⟨_, od, _, sl, ho⟩, capsRun C e0 fun e1 C1 => ?_⟩
  have hl := len _ _ _ _ _ q
  obtain ⟨ds, rd, bd⟩ := hb s H pm ctv us e0.hok hd (by rw [← hl, List.length_append, ← r.length])
  have r2 : Vals (vs ++ dvs) (us ++ ds) := r.append rd
  refine kla_callFunE hr.depth ho rfl S.co S.gen rfl (codeO_at e0.hok hc) (bd _ _ _ _ ?_)
  refine wpAny_newFunctionEnv S.nocell (fun ⟨n, _⟩ hy => S.par n (List.of_mem_zip hy).1) (fun h₁ hns hsb => ⟨lim.fresh _ hsb, ?_⟩) S.kind
  show codeAny _ _ (.expr L.body (envF L.nf f s.heap.objs.size)) _ _
  have kp : ∀ b o, s.heap.get? b = some o → h₁.get? b = some o := fun b o e => hsb.extBut b o (Nat.ne_of_lt (Heap.lt_size e)) (Heap.get?_push_of_some _ e)
  obtain ⟨te, ht, hq⟩ := hbody A outer s (delC L.cl H) (vs ++ dvs) (ws.map some) _ _ (hr.deeper _) C1.len q
  have I := inv_startN (CX := L2.CX P w) (F := L.nf) (f := f) (A := A) (E := fun cls d H' => (∀ a, InC L.cl a → H' a = none) → E cls d (putC L.cl H H')) (tk := s.toks + (ps.zip (us ++ ds)).length) S hr.hd e1 hl r2 C1 hns kp
  refine kla_codeExpr (wpAny_mono (ht.run [] _ _ _ _ I hq) (fun v s' hs => ?_) fun e s' hs => hs)
  obtain ⟨v, H', J, rv, q⟩ := hs
  exact ⟨v, H', J.os, J.bare, J.base, J.hok, rv, q⟩
/-- .. without a default -/
theorem act_lam (S : NScope N ps fr L.scope) (hdT : L.dT = none) (len : ∀ ws vs H Q E, spN ws vs H Q E → vs.length = ps.length)
    (hb : ∀ (pm ctv : Value) (us : List Value), us.length = ps.length → bindArgs (L.fd pm ctv) ⟨us, []⟩ = pure (ps.zip us))
    (hbody : ∀ (A : Around) (outer : List Env) (s : Shared) (H : Hp) (vs : List V) (ws : List (Option V)) (Q : VK) (E : XK), Room k (A.deeper (envF L.nf f s.heap.objs.size)) → ws.length = fr.length → spN ws vs H Q E →
      ∃ te, PE (ncx (L2.CX P w) P w K mg base N L.nf f A outer s H E) L.body te ∧ te (startF N vs ws) H Q) :
    Act P w K mg base (k + 1) f (spLam f L fr [] spN) := act_lamB S len (fun s H pm ctv us _ _ hl => ⟨[], .nil, by
      rw [List.append_nil]; exact .of_eq (hb pm ctv us (by simpa using hl))⟩) hbody
/-- .. with one, that is not given -/
theorem act_lamD {T : Addr} {dv : V} {x : Str} (S : NScope N [x] fr L.scope) (hdT : L.dT = some T) (len : ∀ ws vs H Q E, spN ws vs H Q E → vs.length = 1)
    (hb : ∀ (pm ctv u : Value), ∃ k, bindArgs (L.fd pm ctv) ⟨[], []⟩ = seqItems? (.ref T) >>= k ∧ k (some #[u]) = pure [(x, u)])
    (hbody : ∀ (A : Around) (outer : List Env) (s : Shared) (H : Hp) (vs : List V) (ws : List (Option V)) (Q : VK) (E : XK), Room k (A.deeper (envF L.nf f s.heap.objs.size)) → ws.length = fr.length → spN ws vs H Q E →
      ∃ te, PE (ncx (L2.CX P w) P w K mg base N L.nf f A outer s H E) L.body te ∧ te (startF N vs ws) H Q) :
    Act P w K mg base (k + 1) f (spLam f L fr [dv] spN) := act_lamB S len (fun s H pm ctv us hok hd hl => by
      have e0 : us = [] := List.eq_nil_of_length_eq_zero (by simpa using hl)
      subst e0
      rw [hdT] at hd
      obtain ⟨_, its, rv, o, ho, hcls⟩ := (show ObjOk P w H s.heap T (.tup [dv]) from hok T _ hd)
      obtain ⟨u, rfl⟩ : ∃ u, its = [u] := by
        have := rv.length
        match its, this with
        | [u], _ => exact ⟨u, rfl⟩
      obtain ⟨kk, e1, e2⟩ := hb pm ctv u
      refine ⟨[u], rv, ?_⟩
      obtain ⟨n, hdat⟩ := hcls.2
      refine .of_defaults (T := T) (k := kk) (by show dVof L.dT = _; rw [hdT]; rfl) ho hdat ?_ e2
      rw [e1]
      show _ = seqItems? (dVof L.dT) >>= kk
      rw [hdT]; rfl) hbody
end
end Hk

set_option Elab.async false
set_option linter.all false
set_option maxRecDepth 100000
set_option maxHeartbeats 4000000
namespace Hk
open PySem PySem.Spec PySem.W PySem.Calls PyProof.Rows L2 LamX NdefX
/-! ### what a live frame's cells hold, told to a callee -/
def Kc (sc : Scope) (y : Str) : Prop := sc.names.lookup y = some .cell ∨ sc.names.lookup y = some .free
def CellAt (cm : List (Str × Addr)) (sc : Scope) (N : List Str) (σ : L2.St) (a : Addr) (v : V) : Prop := ∃ (i : Nat) (y : Str), N[i]? = some y ∧ cm.lookup y = some a ∧ σ[i]? = some (some v) ∧ Kc sc y
open Classical in
noncomputable def cellV (cm : List (Str × Addr)) (sc : Scope) (N : List Str) (σ : L2.St) (a : Addr) : Option V := if h : ∃ v, CellAt cm sc N σ a v then some h.choose else none
noncomputable def exC (cm : List (Str × Addr)) (sc : Scope) (N : List Str) (σ : L2.St) (obs : Addr → Obj) (H : Hp) : Hp := fun a => match cellV cm sc N σ a with
  | some v => some (CellO a v (obs a))
  | none => H a
theorem cellV_some {cm : List (Str × Addr)} {sc : Scope} {N : List Str} {σ : L2.St} {a : Addr} {v : V} (h : cellV cm sc N σ a = some v) : CellAt cm sc N σ a v := by
  unfold cellV at h
  split at h
  · rename_i q; cases h; exact q.choose_spec
  · cases h
theorem cell_uniq {cm : List (Str × Addr)} {sc : Scope} {N : List Str} {σ : L2.St} {a : Addr} {v v' : V} (nd : N.Nodup) (inj : ∀ x y c, cm.lookup x = some c → cm.lookup y = some c → x = y) (h : CellAt cm sc N σ a v) (h' : CellAt cm sc N σ a v') : v = v' := by
  obtain ⟨i, y, e1, e2, e3, _⟩ := h
  obtain ⟨j, z, d1, d2, d3, _⟩ := h'
  have e := inj _ _ _ e2 d2
  subst e
  have hi := (List.getElem?_eq_some_iff.mp e1)
  have hj := (List.getElem?_eq_some_iff.mp d1)
  have : i = j := (List.getElem_inj nd).mp (hi.2.trans hj.2.symm)
  subst this
  rw [e3] at d3
  exact Option.some.inj (Option.some.inj d3)
theorem cellV_at {cm : List (Str × Addr)} {sc : Scope} {N : List Str} {σ : L2.St} {a : Addr} {v : V} (nd : N.Nodup) (inj : ∀ x y c, cm.lookup x = some c → cm.lookup y = some c → x = y) (h : CellAt cm sc N σ a v) : cellV cm sc N σ a = some v := by
  unfold cellV
  have q : ∃ v, CellAt cm sc N σ a v := ⟨v, h⟩
  rw [dif_pos q, cell_uniq nd inj q.choose_spec h]
theorem cellV_out {cm : List (Str × Addr)} {sc : Scope} {N : List Str} {σ : L2.St} {a : Addr} (h : ¬ InC cm a) : cellV cm sc N σ a = none := by
  cases e : cellV cm sc N σ a with
  | none => rfl
  | some v =>
    obtain ⟨i, y, _, e2, _⟩ := cellV_some e
    exact absurd ⟨y, e2⟩ h
theorem exC_out {cm : List (Str × Addr)} {sc : Scope} {N : List Str} {σ : L2.St} {obs : Addr → Obj} {H : Hp} {a : Addr} (h : ¬ InC cm a) : exC cm sc N σ obs H a = H a := by unfold exC; rw [cellV_out h]
theorem exC_some {cm : List (Str × Addr)} {sc : Scope} {N : List Str} {σ : L2.St} {obs : Addr → Obj} {H : Hp} {a : Addr} {v : V} (h : cellV cm sc N σ a = some v) : exC cm sc N σ obs H a = some (CellO a v (obs a)) := by unfold exC; rw [h]
theorem exC_none {cm : List (Str × Addr)} {sc : Scope} {N : List Str} {σ : L2.St} {obs : Addr → Obj} {H : Hp} {a : Addr} (h : cellV cm sc N σ a = none) : exC cm sc N σ obs H a = H a := by unfold exC; rw [h]
/-- what is known of a frame's cells -/
structure CEnv (cm : List (Str × Addr)) (sc : Scope) (N : List Str) (H : Hp) : Prop where
  nd : N.Nodup
  inj : ∀ x y c, cm.lookup x = some c → cm.lookup y = some c → x = y
  free : ∀ a, InC cm a → H a = none
  has : ∀ y, (sc.names.lookup y = some .cell ∨ sc.names.lookup y = some .free) → ∃ c, cm.lookup y = some c
theorem CEnv.out {cm : List (Str × Addr)} {sc : Scope} {N : List Str} {H : Hp} (C : CEnv cm sc N H) {a : Addr} {o : HO} (h : H a = some o) : ¬ InC cm a := fun z => by rw [C.free a z] at h; cases h
theorem CEnv.same {cm : List (Str × Addr)} {sc : Scope} {N : List Str} {σ : L2.St} {obs : Addr → Obj} {H : Hp} (C : CEnv cm sc N H) : Same H (exC cm sc N σ obs H) := fun a o h => by rw [exC_out (C.out h)]; exact h
/-- a function that this frame made finds its cells -/
theorem CEnv.caps {cm : List (Str × Addr)} {sc : Scope} {N : List Str} {σ : L2.St} {obs : Addr → Obj} {H H' : Hp} {scope : Scope} {fr : List Str} {ws : List V} {js : List Nat} (C : CEnv cm sc N H) (hb : ndefB sc scope fr = true)
    (honly : ∀ y ∈ scope.names, y.2 = .free → y.1 ∈ fr) (hjs : js.map (fun j => N[j]?) = fr.map some) (hws : js.map (fun j => σ[j]?) = ws.map (fun v => some (some v)))
    (hs : ∀ a o, exC cm sc N σ obs H a = some o → InC cm a → H' a = some o) : CapsAt (cloFrom cm scope.names []) fr ws H' := by
  have hf : ∀ y ∈ scope.names, y.2 = .free → ∃ c, cm.lookup y.1 = some c := fun y hy e => C.has y.1 (ndef_free hb y hy e)
  refine ⟨?_, fun x y c e1 e2 => C.inj x y c (clo_cm hf e1) (clo_cm hf e2), fun y c e => ?_, fun i y hi => ?_⟩
  · have h1 := congrArg List.length hjs
    have h2 := congrArg List.length hws
    simp only [List.length_map] at h1 h2
    omega
  · rcases cloFrom_mem (PySem.mem_of_lookup e) with hm | ⟨h1, h2⟩
    · cases hm
    · exact honly (y, .free) h1 rfl
  · have hy := List.mem_of_getElem? hi
    have hfree := ndef_fr hb y hy
    obtain ⟨c, hc⟩ := hf (y, .free) hfree rfl
    have h1 := congrArg (fun l => l[i]?) hjs
    simp only [List.getElem?_map, hi, Option.map_some] at h1
    have h2 := congrArg (fun l => l[i]?) hws
    simp only [List.getElem?_map] at h2
    cases ej : js[i]? with
    | none => rw [ej] at h1; cases h1
    | some j =>
      rw [ej] at h1 h2
      simp only [Option.map_some, Option.some.injEq] at h1 h2
      cases ew : ws[i]? with
      | none => rw [ew] at h2; cases h2
      | some v =>
        rw [ew] at h2
        simp only [Option.map_some, Option.some.injEq] at h2
        have hv := cellV_at C.nd C.inj (σ := σ) (v := v) ⟨j, y, h1, hc, h2, ndef_free hb (y, .free) hfree rfl⟩
        exact ⟨c, v, clo_has hf hfree hc, rfl, _, hs _ _ (exC_some hv) ⟨y, hc⟩⟩
section
variable {X : Cx} {pins : List (Addr × Obj)} {σ : L2.St} {H : Hp} {s : Shared}
theorem cenv_of (I : Inv X pins σ H s) (nd : X.N.Nodup) : CEnv X.env.cells X.env.scope X.N H := ⟨nd, I.ok.inj, fun a ⟨y, e⟩ => I.freeC y a e, fun y h => I.ok.has y h⟩
/-- the callee runs, told of the cells -/
theorem out_own (I : Inv X pins σ H s) (hfn : ∀ y c, X.env.cells.lookup y = some c → X.fn y = true) : ∀ a, InC X.env.cells a → X.base.get? a = none ∧ a ∉ X.fs := fun a ⟨y, e⟩ => by
  have g : X.s_0.heap.objs.size ≤ a := I.ok.cab y a (hfn y a e) e
  refine ⟨?_, fun hb => ?_⟩
  · cases q : X.base.get? a with
    | none => rfl
    | some o => exact absurd (Nat.lt_of_lt_of_le (Heap.lt_size (I.ok.bs a o q).1) g) (Nat.lt_irrefl _)
  · obtain ⟨_, o, ho, _⟩ := I.ok.funs.mem hb
    exact absurd (Nat.lt_of_lt_of_le (Heap.lt_size ho) g) (Nat.lt_irrefl _)
theorem run_expO {Q : VK} {E : XK} {c : Code} (I : Inv X pins σ H s) (nd : X.N.Nodup) (hout : ∀ a, InC X.env.cells a → X.base.get? a = none ∧ a ∉ X.fs) (hx : Passes (L2.CX X.prog X.w) X E)
    (h : ∀ obs, Env0 X.prog X.w X.K X.mg X.base X.A X.stack s (exC X.env.cells X.env.scope X.N σ obs H) → codeAny (model X.prog X.w) X.A c (CR (L2.CX X.prog X.w) X.stack X.prog X.w (exC X.env.cells X.env.scope X.N σ obs H) s (fun v H' => Q v (delC X.env.cells H')) (fun cls d H' => E cls d (delC X.env.cells H'))) s) :
    codeAny (model X.prog X.w) X.A c (fun r s' => match r with
      | .ok (.ret u) => EP X pins σ Q u s'
      | .ok _ => False
      | .error e => X.xe e s') s := by
  have C := cenv_of I nd
  obtain ⟨obs, hobs⟩ : ∃ obs : Addr → Obj, ∀ a, InC X.env.cells a → s.heap.get? a = some (obs a) := by
    refine ⟨fun a => (s.heap.get? a).getD default, fun a ⟨y, e⟩ => ?_⟩
    obtain ⟨v, o, ho, _⟩ := I.cell y a e
    show s.heap.get? a = some ((s.heap.get? a).getD default)
    rw [ho]; rfl
  have inC : ∀ {a v}, cellV X.env.cells X.env.scope X.N σ a = some v → InC X.env.cells a := fun {a v} e => by
    obtain ⟨i, y, _, e2, _⟩ := cellV_some e
    exact ⟨y, e2⟩
  have okc : ∀ {a v}, cellV X.env.cells X.env.scope X.N σ a = some v → ∃ u, L2.RelV v u ∧ (obs a).data = .cell (some u) := fun {a v} e => by
    obtain ⟨i, y, e1, e2, e3, kc⟩ := cellV_some e
    have ho := hobs a ⟨y, e2⟩
    obtain ⟨m, hn, hl⟩ := I.loc
    obtain ⟨u, r, l⟩ := hl i y v e1 e3 (kc.elim (fun z => .inr (.inl z)) fun z => .inr (.inr z))
    rcases l with ⟨k, _⟩ | ⟨_, c, hc, o, ho', hd'⟩
    · have k' : X.env.scope.names.lookup y = some .local := k
      rcases kc with z | z <;> rw [z] at k' <;> cases k'
    · rw [e2] at hc; cases hc
      rw [ho] at ho'; cases ho'
      exact ⟨u, r, hd'⟩
  have nfr : ∀ a, InC X.env.cells a → a ∉ frs X.stack := fun a z hb => by
    rcases List.mem_cons.mp (I.stkSub a hb) with e | e
    · obtain ⟨y, hy⟩ := z
      exact I.cne y a hy e
    · exact (hout a z).2 e
  have hokX : HOk X.prog X.w (exC X.env.cells X.env.scope X.N σ obs H) s.heap := fun a o e => by
    cases q : cellV X.env.cells X.env.scope X.N σ a with
    | some v =>
      rw [exC_some q] at e
      cases e
      obtain ⟨u, r, d⟩ := okc q
      exact cellO_ok r (hobs a (inC q)) d
    | none =>
      rw [exC_none q] at e
      exact (I.hok a o e).stay (fun _ _ _ q => q) (fun b q => C.same _ _ q) fun b xs q => C.same _ _ q
  have e1 : Env0 X.prog X.w X.K X.mg X.base X.A X.stack s (exC X.env.cells X.env.scope X.N σ obs H) := by
    have e0 := I.env0
    refine ⟨e0.frames, e0.mod, fun b o e => ⟨(e0.bs b o e).1, ?_⟩, e0.bsz, e0.funs, fun b hb => ?_, hokX, e0.bare⟩
    · rw [exC_out (fun z => ?_)]
      · exact (e0.bs b o e).2
      · rw [(hout b z).1] at e; cases e
    · rw [exC_out (fun z => nfr b z hb)]
      exact e0.frf b hb
  refine codeAny_mono (h obs e1) fun r s' hq => ?_
  /- behind it -/
  have cellK : ∀ {H' : Hp} {h' : Heap}, HOk X.prog X.w H' h' → (∀ b o u, exC X.env.cells X.env.scope X.N σ obs H b = some (.frz o u) → H' b = some (.frz o u)) → ∀ a v, cellV X.env.cells X.env.scope X.N σ a = some v → h'.get? a = some (obs a) := fun {H' h'} hok fz a v q => by
    have := fz a _ _ (exC_some q)
    exact (cellO_at (hok a _ (show H' a = some (CellO a v (obs a)) from this))).1
  have hokD : ∀ {H' : Hp} {h' : Heap}, HOk X.prog X.w H' h' → (∀ b o u, exC X.env.cells X.env.scope X.N σ obs H b = some (.frz o u) → H' b = some (.frz o u)) → (∀ b o, s.heap.get? b = some o → exC X.env.cells X.env.scope X.N σ obs H b = none → H' b = none) → HOk X.prog X.w (delC X.env.cells H') h' := fun {H' h'} hok fz fr0 a o e => by
    have na : ¬ InC X.env.cells a := fun z => by rw [delC_in z] at e; cases e
    rw [delC_out na] at e
    have st : ∀ b o, H' b = some o → (∀ ob u, o ≠ .frz ob u) → delC X.env.cells H' b = some o := fun b o q nf => by
      rw [delC_out (fun z => ?_)]
      · exact q
      · cases qq : cellV X.env.cells X.env.scope X.N σ b with
        | some v =>
          have := fz b _ _ (exC_some qq)
          rw [q] at this
          exact nf _ _ (Option.some.inj this)
        | none =>
          have := fr0 b _ (hobs b z) (by rw [exC_none qq]; exact C.free b z)
          rw [q] at this; cases this
    exact (hok a o e).stay (fun _ _ _ q => q) (fun b q => st b _ q (fun _ _ z => by cases z)) fun b xs q => st b _ q (fun _ _ z => by cases z)
  cases r with
  | ok fl =>
    cases fl with
    | ret u =>
      obtain ⟨v, H', os, bare, un, hok, rv, q⟩ := (show CE X.stack X.prog X.w (exC X.env.cells X.env.scope X.N σ obs H) s _ u s' from hq)
      have un2 : Un (frs X.stack) [] H (delC X.env.cells H') s.heap s'.heap := by
        refine ⟨fun b o e n hb hx => ?_, fun b o e n hb hx => ?_, fun b o e n hx => ?_, un.there, fun b xs e => ?_, fun b o x e => ?_, fun b ps e => ?_⟩
        · cases qq : cellV X.env.cells X.env.scope X.N σ b with
          | some w =>
            have h1 := cellK hok un.frzs b w qq
            rw [hobs b (inC qq)] at e
            cases e; exact h1
          | none => exact un.keep b o e (by rw [exC_none qq]; exact n) hb hx
        · exact un.slot b o e (by rw [exC_out (fun z => nfr b z hb)]; exact n) hb hx
        · by_cases z : InC X.env.cells b
          · exact delC_in z
          · rw [delC_out z]; exact un.free b o e (by rw [exC_out z]; exact n) hx
        · rw [delC_out (C.out e)]; exact un.tups b xs (C.same _ _ e)
        · rw [delC_out (C.out e)]; exact un.frzs b o x (C.same _ _ e)
        · rw [delC_out (C.out e)]; exact un.tbls b ps (C.same _ _ e)
      exact I.after ⟨v, delC X.env.cells H', os, bare, un2, hokD hok un.frzs (fun b o e n => un.free b o e n (by simp)), rv, q⟩
    | next => exact False.elim hq
    | brk => exact False.elim hq
    | cont => exact False.elim hq
  | error e =>
    obtain ⟨a, B, H', cls, d, ea, fl, hok, ub, na, os, bare, q⟩ := (show L2.CX X.prog X.w X.stack (exC X.env.cells X.env.scope X.N σ obs H) s _ e s' from hq)
    have ub2 : UB (frs X.stack) H (delC X.env.cells H') s.heap B s'.heap := by
      refine ⟨fun b o e n hb => ?_, ub.slot, fun b o e n => ?_, ub.there, fun b xs e => ?_, fun b o x e => ?_, fun b ps e => ?_⟩
      · cases qq : cellV X.env.cells X.env.scope X.N σ b with
        | some w =>
          have h1 := cellK hok ub.frzs b w qq
          rw [hobs b (inC qq)] at e
          cases e; exact h1
        | none => exact ub.keep b o e (by rw [exC_none qq]; exact n) hb
      · by_cases z : InC X.env.cells b
        · exact delC_in z
        · rw [delC_out z]; exact ub.free b o e (by rw [exC_out z]; exact n)
      · rw [delC_out (C.out e)]; exact ub.tups b xs (C.same _ _ e)
      · rw [delC_out (C.out e)]; exact ub.frzs b o x (C.same _ _ e)
      · rw [delC_out (C.out e)]; exact ub.tbls b ps (C.same _ _ e)
    refine hx pins σ H s e s' I ⟨a, B, delC X.env.cells H', cls, d, ea, fl, hokD hok ub.frzs (fun b o e n => ub.free b o e n), ub2, ?_, os, bare, q⟩
    by_cases z : InC X.env.cells a
    · exact delC_in z
    · rw [delC_out z]; exact na
theorem run_exp {Q : VK} {E : XK} {c : Code} (I : Inv X pins σ H s) (nd : X.N.Nodup) (hfn : ∀ y c, X.env.cells.lookup y = some c → X.fn y = true) (hx : Passes (L2.CX X.prog X.w) X E)
    (h : ∀ obs, Env0 X.prog X.w X.K X.mg X.base X.A X.stack s (exC X.env.cells X.env.scope X.N σ obs H) → codeAny (model X.prog X.w) X.A c (CR (L2.CX X.prog X.w) X.stack X.prog X.w (exC X.env.cells X.env.scope X.N σ obs H) s (fun v H' => Q v (delC X.env.cells H')) (fun cls d H' => E cls d (delC X.env.cells H'))) s) :
    codeAny (model X.prog X.w) X.A c (fun r s' => match r with
      | .ok (.ret u) => EP X pins σ Q u s'
      | .ok _ => False
      | .error e => X.xe e s') s := run_expO I nd (out_own I hfn) hx h
end
/-! ### calls with the cells told -/
/-- f(..) of a def of the top -/
def tCallX (cm : List (Str × Addr)) (sc : Scope) (N : List Str) (sp : Sp) (dvs : List V) (E : XK) (t : TA) : TE := fun σ H Q => t σ H fun vs H1 => CEnv cm sc N H1 → ∀ obs, sp (vs ++ dvs) (exC cm sc N σ obs H1) (fun v H' => Q v (delC cm H')) (fun cls d H' => E cls d (delC cm H'))
section
variable {X : Cx} {k : Nat} {x : Str} {ps : List Str} {dvs : List V} {sp : Sp} {E : XK} {p pos : Pos} {e : Expr} {es : List Expr} {t : TA}
theorem pe_callX (G : Glob X.prog X.w X.K X.mg X.base (L2.CX X.prog X.w) k x ps dvs sp) (hr : Room k X.A) (hg : Gl X x) (hx : Passes (L2.CX X.prog X.w) X E) (nd : X.N.Nodup) (hfn : ∀ y c, X.env.cells.lookup y = some c → X.fn y = true) (ha : PA X (e :: es) t)
    (hdb : (x == ("__debug__" : Str)) = false := by decide) (he : starEach (e :: es) X.env = (false, eval e X.env) :: starEach es X.env := by rfl) (hpl : (backTo pos (starEach es X.env)).any (·.1) = false := by rfl) :
    PE X (.Call (.Name x p) (e :: es) [] pos) (tCallX X.env.cells X.env.scope X.N sp dvs E t) := by
  refine ⟨fun pins s σ H Q I h => ?_⟩
  obtain ⟨f, fd, ds, F, hm, kp, vd, hb⟩ := G.ex
  refine wpAny_Call_Name_kw (ld_glob I hg hm ?_ hdb)
  refine PySem.W.callWith_K (h₀ := X.base) I.ok.mod.kin kp (thn (ha.run pos pins s σ H _ I h) fun us s1 ⟨vs, H1, I1, r, q⟩ => ⟨I1.kIn, ?_⟩) he hpl
  refine wpAny_call (codeAny_mono (run_exp (Q := Q) (E := E) I1 nd hfn hx fun obs e0 => ?_) fun r s' hq => ?_)
  · have r2 : Vals (vs ++ dvs) (us ++ ds) := r.append vd
    have q2 := q (cenv_of I1 nd) obs
    have hl : (us ++ ds).length = ps.length := by rw [← r2.length]; exact F.len _ _ _ _ q2
    exact F.run X.A X.stack s1 _ ⟨us, []⟩ (us ++ ds) (vs ++ dvs) _ _ hr e0 (hb s1 us I1.kIn hl) r2 q2
  · cases r with
    | error e => exact hq
    | ok fl =>
      cases fl with
      | ret u => exact hq
      | next => exact False.elim hq
      | brk => exact False.elim hq
      | cont => exact False.elim hq
end
end Hk

set_option Elab.async false
set_option linter.all false
set_option maxRecDepth 100000
set_option maxHeartbeats 4000000
namespace Hk
open PySem PySem.Spec PyProof.Rows L2 LamX NdefX
section
variable {P : Program} {w : World} {K : PySem.W.Frag} {mg : Str → Option Value} {base : Heap} {k : Nat} {f : Addr} {fd : FuncData} {ps : List Str} {sp : Sp} {x : Str} {dvs : List V}
theorem fn_weak (F : FnOk P w K mg base CX0 k f fd ps sp) : FnOk P w K mg base (L2.CX P w) k f fd ps sp := ⟨F.len, fun A outer s H args us vs Q E hr e0 hb r q => codeAny_mono (F.run A outer s H args us vs Q E hr e0 hb r q) fun r s' h => CR.weak h⟩
theorem Glob.weak (G : Glob P w K mg base CX0 k x ps dvs sp) : Glob P w K mg base (L2.CX P w) k x ps dvs sp := by
  obtain ⟨f, fd, ds, F, r⟩ := G.ex
  exact ⟨f, fd, ds, fn_weak F, r⟩
/-- a def whose code object is told -/
theorem okT {CX : CXT} {qual : Str} {params : Arguments} {body : List Stmt} {scope : Scope} {kws : List (Str × V)} {N : List Str} {p : Str × Option Str} (F : FunD K x qual params body scope dvs kws (He.fAd K p) fd) (S : FnScope N ps scope) (len : ∀ vs H Q E, sp vs H Q E → vs.length = ps.length)
    (hbody : ∀ (A : Around) (outer : List Env) (s : Shared) (H : Hp) (vs : List V) (Q : VK) (E : XK), Room k (A.deeper (envOfC qual scope s.heap.objs.size (He.fAd K p) (.ref (He.codeOf K p)))) → sp vs H Q E →
      ∃ t, PSs (cxOf CX P w K mg base N qual scope (He.fAd K p) (.ref (He.codeOf K p)) A outer s H E) body t ∧ t { nx := fun _ H' => Q .non H', rt := Q } (start N vs) H) : FnOk P w K mg base CX (k + 1) (He.fAd K p) fd ps sp := by
  obtain ⟨oc, od, dV, kV, doc, pm, an, cdv, ct, osl, rfl, lk, hcd, _, _⟩ := F.ex
  obtain ⟨c, rfl⟩ := He.codeIn_ref hcd
  have ec := He.codeOf_eq lk rfl
  rw [ec] at hbody
  exact fn_of lk hcd S len fun A outer s H vs Q E hr hsp => hbody A outer s H vs Q E hr hsp
end
/-! ### a function value called where what is raised is wished for at the slots -/
def tCallVS (P : Program) (w : World) (K : PySem.W.Frag) (mg : Str → Option Value) (base : Heap) (k i : Nat) (E : L2.St → XK) (t : TA) : TE := fun σ H Q => ∃ f sp, σ[i]? = some (some (.ref f)) ∧ Act P w K mg base k f sp ∧ t σ H fun vs H1 => sp vs H1 Q (E σ)
section
variable {X : Cx} {k i : Nat} {x : Str} {E : L2.St → XK} {t : TA} {e : Expr} {es : List Expr} {p pos : Pos}
theorem run_actS {pins : List (Addr × Obj)} {σ : L2.St} {H : Hp} {s : Shared} {Q : VK} {f : Addr} {sp : Sp} {us : List Value} {vs : List V} (a : Act X.prog X.w X.K X.mg X.base k f sp) (hr : Room k X.A) (hx : PassesAt (L2.CX X.prog X.w) X σ (E σ)) (I : Inv X pins σ H s) (r : Vals vs us) (q : sp vs H Q (E σ)) :
    PySem.W.FnAt f s.heap ∧ wpAny (model X.prog X.w) X.A (call (.ref f) us) (EP X pins σ Q) X.xe s := by
  obtain ⟨z, c⟩ := a X.A X.stack s H us vs Q (E σ) hr I.env0 r q
  refine ⟨z, wpAny_call (codeAny_mono c fun r s' hq => ?_)⟩
  cases r with
  | error e => exact hx pins H s e s' I hq
  | ok fl =>
    cases fl with
    | ret u => exact I.after hq
    | next => exact False.elim hq
    | brk => exact False.elim hq
    | cont => exact False.elim hq
theorem pe_callVS0 (hr : Room k X.A) (hx : ∀ σ, PassesAt (L2.CX X.prog X.w) X σ (E σ)) (hN : X.N[i]? = some x) (hv : Vis X.env.scope x)
    (hd : (x == ("__debug__" : Str)) = false := by decide) (hcd : (x == ("__classdict__" : Str)) = false := by decide) :
    PE X (.Call (.Name x p) [] [] pos) (tCallVS X.prog X.w X.K X.mg X.base k i E tNil) := by
  refine ⟨fun pins s σ H Q I h => ?_⟩
  obtain ⟨f, sp, hs, ac, q⟩ := h
  refine wpAny_Call_Name_kw (thn ((pe_var (pos := p) hN hv hd hcd).run pins s σ H (fun v H1 => v = .ref f ∧ H1 = H) I ⟨.ref f, hs, rfl, rfl⟩) fun u s1 ⟨v, H1, I1, r1, q1⟩ => ?_)
  obtain ⟨ev, eH⟩ := q1
  subst ev
  rw [eH] at I1
  obtain rfl : u = Value.ref f := r1
  obtain ⟨z, c⟩ := run_actS ac hr (hx σ) I1 .nil q
  exact PySem.W.callWith_F0 (first := []) z c
theorem pe_callVS0K {P : Program} {w : World} {K : PySem.W.Frag} {mg : Str → Option Value} {base : Heap} (e1 : X.prog = P) (e2 : X.w = w) (e3 : X.K = K) (e4 : X.mg = mg) (e5 : X.base = base) (hr : Room k X.A) (hx : ∀ σ, PassesAt (L2.CX X.prog X.w) X σ (E σ)) (hN : X.N[i]? = some x) (hv : Vis X.env.scope x)
    (hd : (x == ("__debug__" : Str)) = false := by decide) (hcd : (x == ("__classdict__" : Str)) = false := by decide) :
    PE X (.Call (.Name x p) [] [] pos) (tCallVS P w K mg base k i E tNil) := by
  subst e1 e2 e3 e4 e5
  exact pe_callVS0 hr hx hN hv hd hcd
theorem pe_callVK {P : Program} {w : World} {K : PySem.W.Frag} {mg : Str → Option Value} {base : Heap} {E : XK} (e1 : X.prog = P) (e2 : X.w = w) (e3 : X.K = K) (e4 : X.mg = mg) (e5 : X.base = base) (hr : Room k X.A) (hx : Passes (L2.CX X.prog X.w) X E) (hN : X.N[i]? = some x) (hv : Vis X.env.scope x) (ha : PA X (e :: es) t)
    (hd : (x == ("__debug__" : Str)) = false := by decide) (hcd : (x == ("__classdict__" : Str)) = false := by decide)
    (he : starEach (e :: es) X.env = (false, eval e X.env) :: starEach es X.env := by rfl) (hpl : (backTo pos (starEach es X.env)).any (·.1) = false := by rfl) :
    PE X (.Call (.Name x p) (e :: es) [] pos) (tCallV P w K mg base k i E t) := by
  subst e1 e2 e3 e4 e5
  exact pe_callV hr hx hN hv ha hd hcd he hpl
theorem pe_callV0K {P : Program} {w : World} {K : PySem.W.Frag} {mg : Str → Option Value} {base : Heap} {E : XK} (e1 : X.prog = P) (e2 : X.w = w) (e3 : X.K = K) (e4 : X.mg = mg) (e5 : X.base = base) (hr : Room k X.A) (hx : Passes (L2.CX X.prog X.w) X E) (hN : X.N[i]? = some x) (hv : Vis X.env.scope x)
    (hd : (x == ("__debug__" : Str)) = false := by decide) (hcd : (x == ("__classdict__" : Str)) = false := by decide) :
    PE X (.Call (.Name x p) [] [] pos) (tCallV P w K mg base k i E tNil) := by
  subst e1 e2 e3 e4 e5
  exact pe_callV0 hr hx hN hv hd hcd
/-- the exception's class is told -/
def tCls (K : PySem.W.Frag) (cls : Value) (d : Option Addr) (t : Addr → TS) : TS := fun Dn σ H => ∃ D, cls = .ref D ∧ d = none ∧ ExcC K D ∧ t D Dn σ H
theorem pss_cls {cls : Value} {d : Option Addr} {ss : List Stmt} {t : Addr → TS} {K : PySem.W.Frag} (h : ∀ D, cls = .ref D → d = none → ExcC K D → PSs X ss (t D)) : PSs X ss (tCls K cls d t) :=
  ⟨fun pins s σ H Dn I ⟨D, e1, e2, C, q⟩ => (h D e1 e2 C).run pins s σ H Dn I q⟩
theorem call_isEK {K : PySem.W.Frag} {a D : Addr} {oe : Obj} {pn : List (Addr × Obj)} {cls : Value} {d : Option Addr} (hK : X.K = K) (C : ExcC K D) (e1 : cls = .ref D) (e2 : d = none) (hz : Zc cls d oe) (hf : ∃ vs, oe.data = .fields vs) : CallR (X.suite a ((a, oe) :: pn)) (.builtin "isinstance") (rIsE K D a) := by
  subst hK; subst e1; subst e2; exact call_isE C hz hf
end
/-! ### list.count of flat things -/
def rCntF (K : PySem.W.Frag) : V → List V → Hp → VK → Prop := fun x xs H Q => ∃ (p : Addr) (ys : List V) (y : V), x = .ref p ∧ xs = [y] ∧ SqL K H p ys ∧ flatV y = true ∧ ys.all flatV = true ∧ Q (.int (ys.countP (fun z => eqV z y) : Nat)) H
theorem count_eqU {x : V} : ∀ {xs : List V} {us : List Value}, Vals xs us → xs.all flatV = true → us.countP (eqU x) = xs.countP fun y => eqV y x
  | _, _, .nil, _ => rfl
  | y :: xs, u :: us, .cons r t, f => by
    rw [List.all_cons, Bool.and_eq_true] at f
    rw [List.countP_cons, List.countP_cons, eqU_of r f.1, count_eqU t f.2]
theorem mt_countF {X : Cx} {K : PySem.W.Frag} (hK : X.K = K) : MtR X "list.count" (rCntF K) := by
  subst hK
  intro pins s σ H x xs v us Q I rx rxs h
  obtain ⟨p, ys, y, rfl, rfl, hs, fy, fys, q⟩ := h
  cases rx
  cases rxs with
  | cons ry rt =>
    rename_i uy ut
    cases rt
    obtain ⟨its, rv, ⟨⟨cls, dd, data, sl⟩, n, ho, hc, hdn, hd⟩, hlen⟩ := I.list hs
    simp only at hc hd
    subst hc hd
    refine call_meets PySem.F.slot_list_count ⟨_, ho, rfl⟩ PySem.F.entry_list_count (PySem.F.args_list_count_2 _ _)
      (SeqAt.list_countAt p its.toArray n dd sl uy (eqU y)) ⟨ho, fun u' hu' => mem_eqAt ry fy rv fys u' (by simpa using hu'), ?_⟩
    have ec : its.toArray.toList.countP (eqU y) = ys.countP (fun z => eqV z y) := count_eqU rv fys
    refine ⟨.int (ys.countP (fun z => eqV z y) : Nat), H, I.tok _, ⟨s.toks, ?_⟩, q⟩
    show Value.int ((its.toArray.toList.countP (eqU y) : Nat) : Int) s.toks = Value.int ((ys.countP (fun z => eqV z y) : Nat) : Int) s.toks
    rw [ec]
/-! ### facts of exceptions' classes, by one Bool -/
def excB (K : PySem.W.Frag) (x : Str) : Bool :=
  He.eqO (PySem.W.findIn K (.ref (He.ga K x)) "__getattribute__") (some (some (.builtin "BaseException.__getattribute__"))) && (He.eqO (PySem.W.findIn K (.ref (He.ga K x)) "__getattr__") (some none) && (decide (PySem.W.subIn K (.ref (He.ga K x)) (.type "BaseException") = some true) && (PySem.W.hasDictIn K (He.ga K x) &&
  (He.eqO (PySem.W.findIn K (.ref (He.ga K x)) "__class__") (some (some (.builtin "object.__class__"))) && (He.eqO (PySem.W.specialIn K (.builtin "object.__class__") "__get__") (some (some (.builtin "getset_descriptor.__get__"))) && (decide (PySem.W.takesIn K (.builtin "object.__class__") = some true) && decide (PySem.W.mroIn K (He.ga K x) (.type "object") = some true)))))))
theorem excB_ok {K : PySem.W.Frag} {x : Str} (h : excB K x = true) : ExcC K (He.ga K x) := by
  unfold excB at h
  obtain ⟨h1, h⟩ := He.ba h
  obtain ⟨h2, h⟩ := He.ba h
  obtain ⟨h3, h⟩ := He.ba h
  obtain ⟨h4, h⟩ := He.ba h
  obtain ⟨h5, h⟩ := He.ba h
  obtain ⟨h6, h⟩ := He.ba h
  obtain ⟨h7, h8⟩ := He.ba h
  exact ⟨He.eqO_ok h1, He.eqO_ok h2, of_decide_eq_true h3, h4, He.eqO_ok h5, He.eqO_ok h6, of_decide_eq_true h7, of_decide_eq_true h8⟩
/-- isinstance of one of the class x: of the classes ys, in turn -/
def kitsB (K : PySem.W.Frag) (x : Str) (ys : List (Str × Bool)) : Bool := ys.all fun q => decide (PySem.W.kitOne K (.ref (He.ga K x)) (.ref (He.ga K q.1)) = some q.2)
theorem kitsB_ok {K : PySem.W.Frag} {x : Str} {ys : List (Str × Bool)} (h : kitsB K x ys = true) {y : Str} {b : Bool} (hm : (y, b) ∈ ys) : PySem.W.kitOne K (.ref (He.ga K x)) (.ref (He.ga K y)) = some b := of_decide_eq_true (List.all_eq_true.mp h (y, b) hm)
/-- an exception of the class x: caught by HearError, a ValueError, of itself alone among the eleven -/
def own11 : List Str := ["BadLine", "BadPattern", "BadWord", "BadCount", "NoListener", "Busy", "TooDeep", "NotHeld", "NoWork", "BadText", "Halt"]
def refB (K : PySem.W.Frag) (x : Str) : Bool := excB K x && (kitsB K x (own11.map fun y => (y, decide (y = x))) && (decide (PySem.W.kitOne K (.ref (He.ga K x)) (.type "ValueError") = some true) && decide (PySem.W.exmOne K (.ref (He.ga K x)) (.ref (He.ga K "HearError")) = some true)))
section
variable {CX : CXT} {P : Program} {w : World} {K : PySem.W.Frag} {mg : Str → Option Value} {base : Heap} {N : List Str} {qual : Str} {scope : Scope} {f : Addr} {cd : Value} {A : Around} {outer : List Env} {s : Shared} {H : Hp} {E : XK}
theorem cx_cells : (cxOf CX P w K mg base N qual scope f cd A outer s H E).env.cells = cellsFrom (s.heap.objs.size + 1) scope.names [] := rfl
theorem cx_scope : (cxOf CX P w K mg base N qual scope f cd A outer s H E).env.scope = scope := rfl
theorem cx_prog : (cxOf CX P w K mg base N qual scope f cd A outer s H E).prog = P := rfl
theorem cx_w : (cxOf CX P w K mg base N qual scope f cd A outer s H E).w = w := rfl
theorem cx_base : (cxOf CX P w K mg base N qual scope f cd A outer s H E).base = base := rfl
theorem cx_qual : (cxOf CX P w K mg base N qual scope f cd A outer s H E).env.qual = qual ++ (".<locals>." : Str) := rfl
theorem cx_mg : (cxOf CX P w K mg base N qual scope f cd A outer s H E).mg = mg := rfl
theorem cx_N : (cxOf CX P w K mg base N qual scope f cd A outer s H E).N = N := rfl
end
end Hk

set_option Elab.async false
set_option linter.all false
set_option maxRecDepth 100000
set_option maxHeartbeats 4000000
namespace Hk
open PySem PySem.Spec PyProof.Rows L2 LamX NdefX
/-! ### a def within a def -/
section
variable {X : Cx} {pins : List (Addr × Obj)} {σ : L2.St} {H : Hp} {s : Shared}
theorem ndef_new {Ts : List Addr} {nm : Nat → Nat → Str} {c P : Addr} {name : Str} {params : Arguments} {body : List Stmt} {scope : Scope} {pos : Pos} {E : Value → Shared → Prop} {Q : Value → Shared → Prop} (I : Inv X pins σ H s) (TB : TabB X.base X.mg c P) (hcode : X.env.code = .ref c)
    (hm : P ∈ Ts) (hn : nm pos.line pos.col = X.env.qual ++ name) (hT : Tabs1 Ts nm H) (hfree : ∀ y ∈ scope.names, y.2 = .free → ∃ c, X.env.cells.lookup y.1 = some c)
    (h : ∀ (f c' : Addr) (H1 : Hp) (s' : Shared), Inv X pins σ H1 s' → (∀ b o, H b = some o → b ∉ Ts → H1 b = some o) → (∀ b, H1 b = Option.none → H b = Option.none) → Tabs1 Ts nm H1 → H f = none → H1 f = some (FnO f ⟨name, X.env.qual ++ name, params, body, scope, cloFrom X.env.cells scope.names [], c'⟩) → H1 c' = some (CodeO c' (X.env.qual ++ name)) → Q (.ref f) s') :
    wpAny (model X.prog X.w) X.A (makeFunction name (X.env.qual ++ name) params (.stmts body) scope X.env [] [] [] pos pos.line) Q E s := by
  obtain ⟨ps, hP, ht, ha⟩ := hT P hm
  have bP : s.heap.BuiltinsAt X.mg P := TB.bm.keeps I.bk
  have hP' : s.heap.get? P = some { cls := .none, data := .fields ps } := I.hok P _ hP
  cases hc : codeAmong pos ps.toList with
  | none =>
    refine PySem.W.makeFunction_K (mg := X.mg) (c := c) (P := P) (ps := ps) (closure_ok hfree) I.ok.glob (I.mod.glob.keeps I.bk) hcode (TB.code.keeps I.bk) hP' ht hc TB.gP bP fun c' ctv doc h' tk hx hge hlt hrec htb => ?_
    obtain ⟨c2, oc, vs, t, e2, hoc, hd, hv⟩ := hrec
    cases e2
    have nC : H c' = none := I.hok.fresh hge
    have I1 := inv_table (t' := tk) (more := #[rawInt pos.line, rawInt pos.col, .ref c']) (h' := h') I hP (fun b o hb e => hx b o hb e) htb hge ⟨oc, vs, t, hoc, hd, hv⟩
    have hE : ∀ b o, H b = some o → b ≠ P → upd (upd H P (.tbl (ps ++ #[rawInt pos.line, rawInt pos.col, .ref c']))) c' (CodeO c' (X.env.qual ++ name)) b = some o := fun b o e n => by
      rw [upd_ne (ne_of_none e nC), upd_ne n]
      exact e
    have neP : ∀ b q, H b = some (CodeO b q) → b ≠ P := fun b q e z => by
      rw [z, hP] at e
      exact codeO_ne ps (Option.some.inj e).symm
    have eL : (ps ++ #[rawInt pos.line, rawInt pos.col, .ref c']).toList = ps.toList ++ [rawInt pos.line, rawInt pos.col, .ref c'] := by simp
    have T1 : Tabs1 Ts nm (upd (upd H P (.tbl (ps ++ #[rawInt pos.line, rawInt pos.col, .ref c']))) c' (CodeO c' (X.env.qual ++ name))) := fun p hp => by
      by_cases hb : p = P
      · rw [hb]
        refine ⟨_, by rw [upd_ne (ne_of_none hP nC), upd_same], by rw [eL]; exact PySem.TriplesOk_snoc _ _ _ _ ht, fun p' cv hcv => ?_⟩
        rw [eL] at hcv
        rcases among_app2 _ ht hcv with z | ⟨z, z1, z2⟩
        · obtain ⟨c0, e1, e2⟩ := ha p' cv z
          exact ⟨c0, e1, hE _ _ e2 (neP _ _ e2)⟩
        · refine ⟨c', z, ?_⟩
          rw [← z1, ← z2, hn]
          exact upd_same
      · obtain ⟨ps', a1, a2, a3⟩ := hT p hp
        refine ⟨ps', by rw [upd_ne (ne_of_none a1 nC), upd_ne hb]; exact a1, a2, fun p' cv hcv => ?_⟩
        obtain ⟨c0, e1, e2⟩ := a3 p' cv hcv
        exact ⟨c0, e1, hE _ _ e2 (neP _ _ e2)⟩
    have nF := I1.hok.fresh (Nat.le_refl _)
    have I2 := inv_fn (F := ⟨name, X.env.qual ++ name, params, body, scope, cloFrom X.env.cells scope.names [], c'⟩) (t' := tk) (doc := doc) (pm := (X.mg "__name__").getD .none) (ctv := ctv) I1 rfl
    refine h h'.objs.size c' _ _ I2 (fun b o e n => ?_) (fun b e => upd_none (upd_none (upd_none e))) (T1.ext fun b o e => ?_) (I.hok.fresh (Nat.le_trans hge (Nat.le_of_lt hlt))) upd_same ?_
    · have e1 := hE b o e (fun z => n (by rw [z]; exact hm))
      exact (upd_ne (ne_of_none e1 nF)).trans e1
    · exact (upd_ne (ne_of_none e nF)).trans e
    · exact (upd_ne (Nat.ne_of_lt hlt)).trans upd_same
  | some cv =>
    obtain ⟨c', e, hco⟩ := ha pos cv hc
    subst e
    rw [hn] at hco
    refine PySem.W.makeFunction_hit (mg := X.mg) (c := c) (P := P) (ps := ps) (closure_ok hfree) I.ok.glob (I.mod.glob.keeps I.bk) hcode (TB.code.keeps I.bk) hP' ht hc bP fun ctv doc h' tk hx hsz => ?_
    have I1 : Inv X pins σ H { s with heap := h', toks := tk } := I.kept hx
    have nF : H h'.objs.size = none := I1.hok.fresh (Nat.le_refl _)
    have I2 := inv_fn (F := ⟨name, X.env.qual ++ name, params, body, scope, cloFrom X.env.cells scope.names [], c'⟩) (t' := tk) (doc := doc) (pm := (X.mg "__name__").getD .none) (ctv := ctv) I1 rfl
    refine h h'.objs.size c' _ _ I2 (fun b o e n => ?_) (fun b e => upd_none e) (hT.ext fun b o e => ?_) nF upd_same ?_
    · exact (upd_ne (ne_of_none e nF)).trans e
    · exact (upd_ne (ne_of_none e nF)).trans e
    · exact (upd_ne (ne_of_none hco nF)).trans hco
end
def tNdef1 (Ts : List Addr) (nm : Nat → Nat → Str) (i : Nat) (mk : Addr → NF) : TS := fun D σ H => Tabs1 Ts nm H ∧ ∀ (f c' : Addr) (H1 : Hp), (∀ b o, H b = some o → b ∉ Ts → H1 b = some o) → (∀ b, H1 b = Option.none → H b = Option.none) → Tabs1 Ts nm H1 → H f = none → H1 f = some (FnO f (mk c')) → H1 c' = some (CodeO c' (mk c').qual) → D.nx (σ.set i (some (.ref f))) H1
section
variable {X : Cx}
theorem ps_ndef1 {Ts : List Addr} {nm : Nat → Nat → Str} {c P : Addr} {name : Str} {params : Arguments} {body : List Stmt} {scope : Scope} {pos : Pos} {i : Nat} (TB : TabB X.base X.mg c P) (hcode : X.env.code = .ref c) (hm : P ∈ Ts) (hn : nm pos.line pos.col = X.env.qual ++ name)
    (hfree : ∀ y ∈ scope.names, y.2 = .free → X.env.scope.names.lookup y.1 = some .cell ∨ X.env.scope.names.lookup y.1 = some .free) (hd0 : params.defaults = []) (hk0 : params.kw_defaults = []) (ha : annTrees params none X.env = [])
    (hN : X.N.Nodup) (hi : X.N[i]? = some name) (hx : Loc X.env.scope name) (hf : X.fn name = true ∨ X.env.scope.names.lookup name = some .local) :
    PS X (.FunctionDef name params body [] none [] scope none name pos) (tNdef1 Ts nm i fun c' => ⟨name, X.env.qual ++ name, params, body, scope, cloFrom X.env.cells scope.names [], c'⟩) := by
  refine ⟨fun pins s σ H D I h => ?_⟩
  obtain ⟨hT, h⟩ := h
  have hq : qualnameIn X.env name name = X.env.qual ++ name := by
    have hk : X.env.kindOf name = some .local ∨ X.env.kindOf name = some .cell := hx
    unfold qualnameIn
    rcases hk with k | k <;> rw [k] <;> first | rfl | exact if_neg (by decide)
  refine PySem.W.nestDef_K hd0 hk0 ha ?_
  rw [hq]
  have hfr : ∀ y ∈ scope.names, y.2 = .free → ∃ c, X.env.cells.lookup y.1 = some c := fun y hy e => (hfree y hy e).elim (fun z => I.ok.has _ (.inl z)) fun z => I.ok.has _ (.inr z)
  refine ndef_new I TB hcode hm hn hT hfr fun f c' H1 s' I1 e1 e2 T1 f0 f1 c1 => ?_
  exact store_ok I1 hN hi hx (v := .ref f) rfl (fun s'' J => ⟨_, H1, J, h f c' H1 e1 e2 T1 f0 f1 c1⟩) hf
end
/-! ### defs whose functions outlive them: at the end their cells are told -/
theorem exp_facts {X : Cx} {pins : List (Addr × Obj)} {σ : L2.St} {H : Hp} {s : Shared} (I : Inv X pins σ H s) (nd : X.N.Nodup) : ∃ obs : Addr → Obj, HOk X.prog X.w (exC X.env.cells X.env.scope X.N σ obs H) s.heap := by
  have C := cenv_of I nd
  obtain ⟨obs, hobs⟩ : ∃ obs : Addr → Obj, ∀ a, InC X.env.cells a → s.heap.get? a = some (obs a) := by
    refine ⟨fun a => (s.heap.get? a).getD default, fun a ⟨y, e⟩ => ?_⟩
    obtain ⟨v, o, ho, _⟩ := I.cell y a e
    show s.heap.get? a = some ((s.heap.get? a).getD default)
    rw [ho]; rfl
  refine ⟨obs, fun a o e => ?_⟩
  cases q : cellV X.env.cells X.env.scope X.N σ a with
  | some v =>
    rw [exC_some q] at e
    cases e
    obtain ⟨i, y, e1, e2, e3, kc⟩ := cellV_some q
    have ho := hobs a ⟨y, e2⟩
    obtain ⟨m, hn, hl⟩ := I.loc
    obtain ⟨u, r, l⟩ := hl i y v e1 e3 (kc.elim (fun z => .inr (.inl z)) fun z => .inr (.inr z))
    rcases l with ⟨k, _⟩ | ⟨_, c, hc, o, ho', hd'⟩
    · have k' : X.env.scope.names.lookup y = some .local := k
      rcases kc with z | z <;> rw [z] at k' <;> cases k'
    · rw [e2] at hc; cases hc
      rw [ho] at ho'; cases ho'
      exact cellO_ok r ho hd'
  | none =>
    rw [exC_none q] at e
    exact (I.hok a o e).stay (fun _ _ _ q => q) (fun b q => C.same _ _ q) fun b xs q => C.same _ _ q
/-- a call's end, of the frame X -/
def EndM (X : Cx) (Q : VK) (fl : Flow) (s' : Shared) : Prop := ∃ u v H', fl = .ret u ∧ s'.os = X.s_0.os ∧ AllBare s'.gens ∧ Un X.fs X.ex X.H_0 H' X.s_0.heap s'.heap ∧ HOk X.prog X.w H' s'.heap ∧ L2.RelV v u ∧ Q v H'
abbrev TM := VK → L2.St → Hp → Prop
structure PM (X : Cx) (ss : List Stmt) (t : TM) : Prop where
  run : ∀ (pins : List (Addr × Obj)) (s : Shared) (σ : L2.St) (H : Hp) (Q : VK), Inv X pins σ H s → t Q σ H → wpAny (model X.prog X.w) X.A (execs ss X.env) (EndM X Q) X.xe s
def tMseq (t : TS) (u : TM) : TM := fun Q σ H => t { nx := fun σ' H' => u Q σ' H', rt := Q } σ H
def tMret (cm : List (Str × Addr)) (sc : Scope) (N : List Str) (te : TE) : TM := fun Q σ H => te σ H fun v H1 => CEnv cm sc N H1 → ∀ obs, Q v (exC cm sc N σ obs H1)
section
variable {X : Cx}
theorem pm_cons {st : Stmt} {ss : List Stmt} {t : TS} {u : TM} (h1 : PS X st t) (h2 : PM X ss u) : PM X (st :: ss) (tMseq t u) := by
  refine ⟨fun pins s σ H Q I h => ?_⟩
  refine wpAny_execs_cons (thn (h1.run pins s σ H _ I h) fun f s1 q => ?_)
  cases f with
  | next =>
    obtain ⟨σ', H', I', q⟩ := q
    exact h2.run pins s1 σ' H' Q I' q
  | ret u =>
    obtain ⟨v, σ', H', J, rv, q⟩ := q
    exact ⟨u, v, H', rfl, J.os, J.bare, J.base, J.hok, rv, q⟩
  | brk =>
    obtain ⟨_, _, _, q⟩ := q
    exact False.elim q
  | cont =>
    obtain ⟨_, _, _, q⟩ := q
    exact False.elim q
theorem un_ex {pins : List (Addr × Obj)} {σ : L2.St} {H : Hp} {s : Shared} {obs : Addr → Obj} (I : Inv X pins σ H s) (nd : X.N.Nodup) (hfn : ∀ y c, X.env.cells.lookup y = some c → X.fn y = true) : Un X.fs X.ex X.H_0 (exC X.env.cells X.env.scope X.N σ obs H) X.s_0.heap s.heap := by
  have C := cenv_of I nd
  have u := I.base
  refine ⟨u.keep, u.slot, fun b o e n z => ?_, u.there, fun b xs e => C.same _ _ (u.tups b xs e), fun b o x e => C.same _ _ (u.frzs b o x e), fun b ps e => ?_⟩
  · rw [exC_out (fun z => ?_)]
    · exact u.free b o e n z
    · obtain ⟨y, hy⟩ := z
      exact absurd (Nat.lt_of_lt_of_le (Heap.lt_size e) (I.ok.cab y b (hfn y b hy) hy)) (Nat.lt_irrefl _)
  · obtain ⟨more, q⟩ := u.tbls b ps e
    exact ⟨more, C.same _ _ q⟩
theorem pm_ret {e : Expr} {te : TE} {pos : Pos} (he : PE X e te) (nd : X.N.Nodup) (hfn : ∀ y c, X.env.cells.lookup y = some c → X.fn y = true) : PM X [.Return (some e) pos] (tMret X.env.cells X.env.scope X.N te) := by
  refine ⟨fun pins s σ H Q I h => ?_⟩
  refine wpAny_execs_cons (wpAny_Return_some (thn (he.run pins s σ H _ I h) fun u s1 ⟨v, H1, I1, r1, q1⟩ => ?_))
  obtain ⟨obs, hok⟩ := exp_facts I1 nd
  exact ⟨u, v, _, rfl, I1.os, I1.bare, un_ex I1 nd hfn, hok, r1, q1 (cenv_of I1 nd) obs⟩
end
section
variable {P : Program} {w : World} {K : PySem.W.Frag} {mg : Str → Option Value} {base : Heap} {k : Nat} {fd : FuncData} {ps : List Str} {sp : Sp} {x : Str} {dvs : List V}
/-- a def by such a body -/
theorem okM {CX : CXT} {qual : Str} {params : Arguments} {body : List Stmt} {scope : Scope} {kws : List (Str × V)} {N : List Str} {p : Str × Option Str} (F : FunD K x qual params body scope dvs kws (He.fAd K p) fd) (S : FnScope N ps scope) (len : ∀ vs H Q E, sp vs H Q E → vs.length = ps.length)
    (hbody : ∀ (A : Around) (outer : List Env) (s : Shared) (H : Hp) (vs : List V) (Q : VK) (E : XK), Room k (A.deeper (envOfC qual scope s.heap.objs.size (He.fAd K p) (.ref (He.codeOf K p)))) → sp vs H Q E →
      ∃ t, PM (cxOf CX P w K mg base N qual scope (He.fAd K p) (.ref (He.codeOf K p)) A outer s H E) body t ∧ t Q (start N vs) H) : FnOk P w K mg base CX (k + 1) (He.fAd K p) fd ps sp := by
  obtain ⟨oc, od, dV, kV, doc, pm, an, cdv, ct, osl, rfl, lk, hcd, _, _⟩ := F.ex
  obtain ⟨c, rfl⟩ := He.codeIn_ref hcd
  have ec := He.codeOf_eq lk rfl
  rw [ec] at hbody
  refine ⟨len, fun A outer s H args us vs Q E hr e0 hb r hsp => ?_⟩
  have hl := len _ _ _ _ hsp
  have KX : K.In s.heap := e0.mod.kin.keeps fun b o e => (e0.bs b o e).1
  have lim : s.heap.NoLimit := e0.mod.nolimit.keeps fun b o e => (e0.bs b o e).1
  have hkind : ∀ y ∈ ps.zip us, scope.names.lookup y.1 = some .local ∨ (scope.names.lookup y.1 = some .cell ∧ ((cellsFrom (s.heap.objs.size + 1) scope.names []).lookup y.1).isSome = true) := fun ⟨n, v⟩ hy => by
    rcases S.par n (List.of_mem_zip hy).1 with q | q
    · exact .inl q
    · exact .inr ⟨q, PySem.W.cellsFrom_some _ _ _ (.inl q)⟩
  refine codeAny_call_function hr.depth (KX _ _ lk) rfl S.co S.gen rfl (PySem.W.codeRec_of KX hcd) (hb _ _ _ _ ?_)
  refine wpAny_newFunctionEnv_cells S.kind hkind fun env he s1 x => ?_
  subst he
  refine ⟨lim.keeps x.toInCall.keep, codeAny_func ?_⟩
  obtain ⟨t, ht, hq⟩ := hbody A outer s H vs Q E (hr.deeper _) hsp
  have I : Inv (cxOf CX P w K mg base N qual scope (He.fAd K p) (.ref c) A outer s H E) [] (L2.start N vs) H s1 := inv_start S hr.hd e0 hl r x
  refine wpAny_mono (ht.run [] s1 (L2.start N vs) H Q I hq) (fun fl s' hs => ?_) fun e s' hs => hs
  obtain ⟨u, v, H', rfl, os, bare, un, hok, rv, q⟩ := hs
  exact ⟨v, H', os, bare, un, hok, rv, q⟩
end
/-! ### a lambda of a live frame, called by a callee -/
/-- what stands in the body's heap, what stood in the caller's -/
theorem body_in {cm cl : List (Str × Addr)} {sc : Scope} {N : List Str} {σ : L2.St} {obs : Addr → Obj} {H : Hp} (C : CEnv cm sc N H) (hcl : ∀ y c, cl.lookup y = some c → cm.lookup y = some c) : Same H (delC cl (exC cm sc N σ obs H)) := fun a o h => by
  rw [delC_out (fun z => by obtain ⟨y, e⟩ := z; exact C.out h ⟨y, hcl y a e⟩)]
  exact C.same _ _ h
/-- the heap behind the call, from the body's -/
theorem body_out {S : Addr → Prop} {cm cl : List (Str × Addr)} {sc : Scope} {N : List Str} {σ : L2.St} {obs : Addr → Obj} {H H' H2 : Hp} (C : CEnv cm sc N H) (hcl : ∀ y c, cl.lookup y = some c → cm.lookup y = some c)
    (e : Ext S (delC cl (exC cm sc N σ obs H)) H') (e2 : ∀ b o, ¬ S b → putC cl (exC cm sc N σ obs H) H' b = some o → H2 b = some o) : Ext S H (delC cm H2) := fun a o n h => by
  have na : ¬ InC cm a := C.out h
  have nl : ¬ InC cl a := fun ⟨y, q⟩ => na ⟨y, hcl y a q⟩
  rw [delC_out na]
  exact e2 a o n (by rw [putC_out nl]; exact e a o n (body_in C hcl a o h))
theorem act_use {P : Program} {w : World} {K : PySem.W.Frag} {mg : Str → Option Value} {base : Heap} {k : Nat} {f : Addr} {L : LF} {fr : List Str} {dvs : List V} {spN : List (Option V) → Sp} {H : Hp} {R : Sp → Prop} (hf : H f = some (LamO f L)) (a : Act P w K mg base k f (spLam f L fr dvs spN)) (h : R (spLam f L fr dvs spN)) : ∃ sp, Act P w K mg base k f sp ∧ R sp := ⟨_, a, h⟩
theorem fin_same {cm cl : List (Str × Addr)} {sc : Scope} {N : List Str} {σ : L2.St} {obs : Addr → Obj} {H H' H2 : Hp} (C : CEnv cm sc N H) (hcl : ∀ y c, cl.lookup y = some c → cm.lookup y = some c)
    (e : Same (delC cl (exC cm sc N σ obs H)) H') (e2 : Same (putC cl (exC cm sc N σ obs H) H') H2) : Same H (delC cm H2) :=
  (body_out (S := No) C hcl (.of_same e) fun b o _ h => e2 b o h).same
theorem Tabs1.nt {Ts : List Addr} {nm : Nat → Nat → Str} {H : Hp} (t : Tabs1 Ts nm H) {b : Addr} {o : HO} (h : H b = some o) (n : ∀ ps, o ≠ .tbl ps) : b ∉ Ts := fun hb => by
  obtain ⟨ps, e, _⟩ := t b hb
  rw [h] at e
  exact n ps (Option.some.inj e)
theorem Tabs1.ext2 {Ts : List Addr} {nm : Nat → Nat → Str} {H H' : Hp} (t : Tabs1 Ts nm H) (h1 : ∀ b ps, H b = some (.tbl ps) → H' b = some (.tbl ps)) (h2 : ∀ c q, H c = some (CodeO c q) → H' c = some (CodeO c q)) : Tabs1 Ts nm H' := fun p hp => by
  obtain ⟨ps, a1, a2, a3⟩ := t p hp
  refine ⟨ps, h1 _ _ a1, a2, fun pos cv hc => ?_⟩
  obtain ⟨c, e1, e2⟩ := a3 pos cv hc
  exact ⟨c, e1, h2 _ _ e2⟩
theorem clo_sub {cm : List (Str × Addr)} {sc : Scope} {N : List Str} {H : Hp} {scope : Scope} {fr : List Str} (C : CEnv cm sc N H) (hb : ndefB sc scope fr = true) : ∀ y c, (cloFrom cm scope.names []).lookup y = some c → cm.lookup y = some c :=
  fun y c e => clo_cm (fun y hy e => C.has y.1 (ndef_free hb y hy e)) e
end Hk

set_option Elab.async false
set_option linter.all false
set_option maxRecDepth 100000
set_option maxHeartbeats 4000000
/-! Calls over a heap without some cells; a lambda over the heap without any cell of the frame that made it. -/
namespace Hk
open PySem PySem.Spec PyProof.Rows L2 LamX NdefX
structure CsAt (cl : List (Str × Addr)) (H : Hp) : Prop where
  tr_ : ∀ a, InC cl a → ∃ v, IsC H a v
theorem CsAt.tr {cl : List (Str × Addr)} {H : Hp} (C : CsAt cl H) {a : Addr} (h : InC cl a) : ∃ v, IsC H a v := C.tr_ a h
theorem CapsAt.cs {cl : List (Str × Addr)} {fr : List Str} {ws : List V} {H : Hp} (C : CapsAt cl fr ws H) : CsAt cl H := ⟨fun a z => C.tr z⟩
theorem CsAt.out {cl : List (Str × Addr)} {H : Hp} (C : CsAt cl H) {a : Addr} {o : HO} (h : H a = some o) (n : ∀ ob u, o ≠ .frz ob u) : ¬ InC cl a := fun z => by
  obtain ⟨v, ob, e⟩ := C.tr z
  rw [h] at e
  exact n _ _ (Option.some.inj e)
theorem CsAt.outN {cl : List (Str × Addr)} {H : Hp} (C : CsAt cl H) {a : Addr} (h : H a = none) : ¬ InC cl a := fun z => by
  obtain ⟨v, ob, e⟩ := C.tr z
  rw [h] at e
  cases e
theorem CsAt.del {cl : List (Str × Addr)} {H : Hp} (C : CsAt cl H) {a : Addr} {o : HO} (h : H a = some o) (n : ∀ ob u, o ≠ .frz ob u) : delC cl H a = some o := by rw [delC_out (C.out h n)]; exact h
section
variable {P : Program} {w : World} {cl : List (Str × Addr)} {H H' : Hp} {h h' B : Heap} {fs : List Addr}
theorem CsAt.hokDel (C : CsAt cl H) (hok : HOk P w H h) : HOk P w (delC cl H) h := fun a o e => by
  have na : ¬ InC cl a := fun z => by rw [delC_in z] at e; cases e
  rw [delC_out na] at e
  exact (hok a o e).stay (fun _ _ _ q => q) (fun b q => C.del q (fun _ _ z => by cases z)) fun b xs q => C.del q (fun _ _ z => by cases z)
/-- behind the body: the cells are as they were -/
theorem CsAt.hokPut (C : CsAt cl H) (hok0 : HOk P w H h) (hok : HOk P w H' h') (kp : ∀ a, InC cl a → ∀ o, h.get? a = some o → h'.get? a = some o) (fr0 : ∀ a, InC cl a → H' a = none) : HOk P w (putC cl H H') h' := fun a o e => by
  by_cases z : InC cl a
  · rw [putC_in z] at e
    obtain ⟨v, ob, e2⟩ := C.tr z
    rw [e] at e2
    cases e2
    obtain ⟨e3, u, r, d⟩ := cellO_at (hok0 a _ e)
    exact cellO_ok r (kp a z _ e3) d
  · rw [putC_out z] at e
    have st : ∀ b o, H' b = some o → putC cl H H' b = some o := fun b o q => by
      rw [putC_out (fun z => by rw [fr0 b z] at q; cases q)]; exact q
    exact (hok a o e).stay (fun _ _ _ q => q) (fun b q => st b _ q) fun b xs q => st b _ q
theorem CsAt.un (C : CsAt cl H) (u : Un fs [] (delC cl H) H' h h') (ex : ∀ a, InC cl a → ∃ o, h.get? a = some o) : Un fs [] H (putC cl H H') h h' where
  keep := fun b o e n => u.keep b o e (by rw [delC_out (C.outN n)]; exact n)
  slot := fun b o e n => u.slot b o e (by rw [delC_out (C.outN n)]; exact n)
  free := fun b o e n z => by rw [putC_out (C.outN n)]; exact u.free b o e (by rw [delC_out (C.outN n)]; exact n) z
  there := u.there
  tups := fun b xs e => by
    have q := C.out e (fun _ _ z => by cases z)
    rw [putC_out q]; exact u.tups b xs (by rw [delC_out q]; exact e)
  frzs := fun b o x e => by
    by_cases z : InC cl b
    · rw [putC_in z]; exact e
    · rw [putC_out z]; exact u.frzs b o x (by rw [delC_out z]; exact e)
  tbls := fun b ps e => by
    have q := C.out e (fun _ _ z => by cases z)
    rw [putC_out q]; exact u.tbls b ps (by rw [delC_out q]; exact e)
theorem CsAt.ub (C : CsAt cl H) (u : UB fs (delC cl H) H' h B h') : UB fs H (putC cl H H') h B h' where
  keep := fun b o e n => u.keep b o e (by rw [delC_out (C.outN n)]; exact n)
  slot := u.slot
  free := fun b o e n => by rw [putC_out (C.outN n)]; exact u.free b o e (by rw [delC_out (C.outN n)]; exact n)
  there := u.there
  tups := fun b xs e => by
    have q := C.out e (fun _ _ z => by cases z)
    rw [putC_out q]; exact u.tups b xs (by rw [delC_out q]; exact e)
  frzs := fun b o x e => by
    by_cases z : InC cl b
    · rw [putC_in z]; exact e
    · rw [putC_out z]; exact u.frzs b o x (by rw [delC_out z]; exact e)
  tbls := fun b ps e => by
    have q := C.out e (fun _ _ z => by cases z)
    rw [putC_out q]; exact u.tbls b ps (by rw [delC_out q]; exact e)

end
section
variable {P : Program} {w : World} {K : PySem.W.Frag} {mg : Str → Option Value} {base : Heap} {k : Nat} {f : Addr} {sp : Sp}
/-- what a run over the heap without the cells gives over the heap with them -/
theorem csRun {cl : List (Str × Addr)} {A : Around} {outer : List Env} {s : Shared} {H : Hp} {Q : VK} {E : XK} {c : Code} (C : CsAt cl H) (e0 : Env0 P w K mg base A outer s H)
    (h : Env0 P w K mg base A outer s (delC cl H) → codeAny (model P w) A c (CR (L2.CX P w) outer P w (delC cl H) s (fun v H' => (∀ a, InC cl a → H' a = none) → Q v (putC cl H H')) (fun cls d H' => (∀ a, InC cl a → H' a = none) → E cls d (putC cl H H'))) s) :
    codeAny (model P w) A c (CR (L2.CX P w) outer P w H s Q E) s := by
  have at_ : ∀ a, InC cl a → ∃ v ob, H a = some (CellO a v ob) ∧ s.heap.get? a = some ob := fun a z => by
    obtain ⟨v, ob, e⟩ := C.tr z
    exact ⟨v, ob, e, (cellO_at (e0.hok a _ e)).1⟩
  have nfs : ∀ a, InC cl a → a ∉ frs outer := fun a z hb => by
    obtain ⟨v, ob, e, _⟩ := at_ a z
    rw [e0.frf a hb] at e
    cases e
  have e1 : Env0 P w K mg base A outer s (delC cl H) := ⟨e0.frames, e0.mod, fun b o e => ⟨(e0.bs b o e).1, by rw [delC_out (C.outN (e0.bs b o e).2)]; exact (e0.bs b o e).2⟩, e0.bsz, e0.funs, fun b hb => by rw [delC_out (C.outN (e0.frf b hb))]; exact e0.frf b hb, C.hokDel e0.hok, e0.bare⟩
  refine codeAny_mono (h e1) fun r s' hq => ?_
  cases r with
  | ok fl =>
    cases fl with
    | ret u =>
      obtain ⟨v, H', os, bare, un, hok, rv, q⟩ := (show CE outer P w (delC cl H) s _ u s' from hq)
      have f0 : ∀ a, InC cl a → H' a = none := fun a z => by
        obtain ⟨v, ob, _, q2⟩ := at_ a z
        exact un.free a ob q2 (delC_in z) (by simp)
      exact ⟨v, putC cl H H', os, bare, C.un un (fun a z => (at_ a z).elim fun v ⟨ob, _, q⟩ => ⟨ob, q⟩), C.hokPut e0.hok hok (fun a z o e => un.keep a o e (delC_in z) (nfs a z) (by simp)) f0, rv, q f0⟩
    | next => exact False.elim hq
    | brk => exact False.elim hq
    | cont => exact False.elim hq
  | error e =>
    obtain ⟨a, B, H', cls, d, e1, fl, hok, ub, na, os, bare, q⟩ := (show L2.CX P w outer (delC cl H) s _ e s' from hq)
    have f0 : ∀ a, InC cl a → H' a = none := fun a z => by
      obtain ⟨v, ob, _, q2⟩ := at_ a z
      exact ub.free a ob q2 (delC_in z)
    have kp : ∀ a, InC cl a → ∀ o, s.heap.get? a = some o → B.get? a = some o := fun a z o e => ub.keep a o e (delC_in z) (nfs a z)
    refine ⟨a, B, putC cl H H', cls, d, e1, fl, C.hokPut e0.hok hok kp f0, C.ub ub, ?_, os, bare, q f0⟩
    have nz : ¬ InC cl a := fun z => by
      obtain ⟨v, ob, _, q2⟩ := at_ a z
      have := kp a z ob q2
      rw [fl.2.1] at this
      cases this
    rw [putC_out nz]
    exact na

/-- a call over a heap without some cells -/
def spF (sp : Sp) : Sp := fun vs H Q E => ∃ cl, CsAt cl H ∧ sp vs (delC cl H) (fun v H' => (∀ a, InC cl a → H' a = none) → Q v (putC cl H H')) (fun c d H' => (∀ a, InC cl a → H' a = none) → E c d (putC cl H H'))
theorem FnOk.framed {fd : FuncData} {ps : List Str} (F : FnOk P w K mg base (L2.CX P w) k f fd ps sp) : FnOk P w K mg base (L2.CX P w) k f fd ps (spF sp) :=
  ⟨fun vs H Q E ⟨cl, C, q⟩ => F.len _ _ _ _ q, fun A outer s H args us vs Q E hr e0 hb r ⟨cl, C, q⟩ => csRun C e0 fun e1 => F.run A outer s (delC cl H) args us vs _ _ hr e1 hb r q⟩
theorem csEnv {cl : List (Str × Addr)} {A : Around} {outer : List Env} {s : Shared} {H : Hp} (C : CsAt cl H) (e0 : Env0 P w K mg base A outer s H) : Env0 P w K mg base A outer s (delC cl H) :=
  ⟨e0.frames, e0.mod, fun b o e => ⟨(e0.bs b o e).1, by rw [delC_out (C.outN (e0.bs b o e).2)]; exact (e0.bs b o e).2⟩, e0.bsz, e0.funs, fun b hb => by rw [delC_out (C.outN (e0.frf b hb))]; exact e0.frf b hb, C.hokDel e0.hok, e0.bare⟩
theorem Act.framed (a : Act P w K mg base k f sp) : Act P w K mg base k f (spF sp) := fun A outer s H us vs Q E hr e0 r ⟨cl, C, q⟩ =>
  ⟨(a A outer s (delC cl H) us vs _ _ hr (csEnv C e0) r q).1, csRun C e0 fun e1 => (a A outer s (delC cl H) us vs _ _ hr e1 r q).2⟩
end
section
variable {X : Cx} {pins : List (Addr × Obj)} {σ : L2.St} {H : Hp} {s : Shared}
theorem run_expUO {Q : VK} {E : XK} {c : Code} (I : Inv X pins σ H s) (nd : X.N.Nodup) (hout : ∀ a, InC X.env.cells a → X.base.get? a = none ∧ a ∉ X.fs) (hx : Passes (L2.CX X.prog X.w) X E)
    (h : ∀ obs, Env0 X.prog X.w X.K X.mg X.base X.A X.stack s (exC X.env.cells X.env.scope X.N σ obs H) → codeAny (model X.prog X.w) X.A c (CR (L2.CX X.prog X.w) X.stack X.prog X.w (exC X.env.cells X.env.scope X.N σ obs H) s (fun v H' => (∀ b, InC X.env.cells b → exC X.env.cells X.env.scope X.N σ obs H b = none → H' b = none) → Q v (delC X.env.cells H')) (fun cls d H' => (∀ b, InC X.env.cells b → exC X.env.cells X.env.scope X.N σ obs H b = none → H' b = none) → E cls d (delC X.env.cells H'))) s) :
    codeAny (model X.prog X.w) X.A c (fun r s' => match r with
      | .ok (.ret u) => EP X pins σ Q u s'
      | .ok _ => False
      | .error e => X.xe e s') s := by
  have C := cenv_of I nd
  obtain ⟨obs, hobs⟩ : ∃ obs : Addr → Obj, ∀ a, InC X.env.cells a → s.heap.get? a = some (obs a) := by
    refine ⟨fun a => (s.heap.get? a).getD default, fun a ⟨y, e⟩ => ?_⟩
    obtain ⟨v, o, ho, _⟩ := I.cell y a e
    show s.heap.get? a = some ((s.heap.get? a).getD default)
    rw [ho]; rfl
  have inC : ∀ {a v}, cellV X.env.cells X.env.scope X.N σ a = some v → InC X.env.cells a := fun {a v} e => by
    obtain ⟨i, y, _, e2, _⟩ := cellV_some e
    exact ⟨y, e2⟩
  have okc : ∀ {a v}, cellV X.env.cells X.env.scope X.N σ a = some v → ∃ u, L2.RelV v u ∧ (obs a).data = .cell (some u) := fun {a v} e => by
    obtain ⟨i, y, e1, e2, e3, kc⟩ := cellV_some e
    have ho := hobs a ⟨y, e2⟩
    obtain ⟨m, hn, hl⟩ := I.loc
    obtain ⟨u, r, l⟩ := hl i y v e1 e3 (kc.elim (fun z => .inr (.inl z)) fun z => .inr (.inr z))
    rcases l with ⟨k, _⟩ | ⟨_, c, hc, o, ho', hd'⟩
    · have k' : X.env.scope.names.lookup y = some .local := k
      rcases kc with z | z <;> rw [z] at k' <;> cases k'
    · rw [e2] at hc; cases hc
      rw [ho] at ho'; cases ho'
      exact ⟨u, r, hd'⟩
  have nfr : ∀ a, InC X.env.cells a → a ∉ frs X.stack := fun a z hb => by
    rcases List.mem_cons.mp (I.stkSub a hb) with e | e
    · obtain ⟨y, hy⟩ := z
      exact I.cne y a hy e
    · exact (hout a z).2 e
  have hokX : HOk X.prog X.w (exC X.env.cells X.env.scope X.N σ obs H) s.heap := fun a o e => by
    cases q : cellV X.env.cells X.env.scope X.N σ a with
    | some v =>
      rw [exC_some q] at e
      cases e
      obtain ⟨u, r, d⟩ := okc q
      exact cellO_ok r (hobs a (inC q)) d
    | none =>
      rw [exC_none q] at e
      exact (I.hok a o e).stay (fun _ _ _ q => q) (fun b q => C.same _ _ q) fun b xs q => C.same _ _ q
  have e1 : Env0 X.prog X.w X.K X.mg X.base X.A X.stack s (exC X.env.cells X.env.scope X.N σ obs H) := by
    have e0 := I.env0
    refine ⟨e0.frames, e0.mod, fun b o e => ⟨(e0.bs b o e).1, ?_⟩, e0.bsz, e0.funs, fun b hb => ?_, hokX, e0.bare⟩
    · rw [exC_out (fun z => ?_)]
      · exact (e0.bs b o e).2
      · rw [(hout b z).1] at e; cases e
    · rw [exC_out (fun z => nfr b z hb)]
      exact e0.frf b hb
  refine codeAny_mono (h obs e1) fun r s' hq => ?_
  /- behind it -/
  have cellK : ∀ {H' : Hp} {h' : Heap}, HOk X.prog X.w H' h' → (∀ b o u, exC X.env.cells X.env.scope X.N σ obs H b = some (.frz o u) → H' b = some (.frz o u)) → ∀ a v, cellV X.env.cells X.env.scope X.N σ a = some v → h'.get? a = some (obs a) := fun {H' h'} hok fz a v q => by
    have := fz a _ _ (exC_some q)
    exact (cellO_at (hok a _ (show H' a = some (CellO a v (obs a)) from this))).1
  have hokD : ∀ {H' : Hp} {h' : Heap}, HOk X.prog X.w H' h' → (∀ b o u, exC X.env.cells X.env.scope X.N σ obs H b = some (.frz o u) → H' b = some (.frz o u)) → (∀ b o, s.heap.get? b = some o → exC X.env.cells X.env.scope X.N σ obs H b = none → H' b = none) → HOk X.prog X.w (delC X.env.cells H') h' := fun {H' h'} hok fz fr0 a o e => by
    have na : ¬ InC X.env.cells a := fun z => by rw [delC_in z] at e; cases e
    rw [delC_out na] at e
    have st : ∀ b o, H' b = some o → (∀ ob u, o ≠ .frz ob u) → delC X.env.cells H' b = some o := fun b o q nf => by
      rw [delC_out (fun z => ?_)]
      · exact q
      · cases qq : cellV X.env.cells X.env.scope X.N σ b with
        | some v =>
          have := fz b _ _ (exC_some qq)
          rw [q] at this
          exact nf _ _ (Option.some.inj this)
        | none =>
          have := fr0 b _ (hobs b z) (by rw [exC_none qq]; exact C.free b z)
          rw [q] at this; cases this
    exact (hok a o e).stay (fun _ _ _ q => q) (fun b q => st b _ q (fun _ _ z => by cases z)) fun b xs q => st b _ q (fun _ _ z => by cases z)
  cases r with
  | ok fl =>
    cases fl with
    | ret u =>
      obtain ⟨v, H', os, bare, un, hok, rv, q⟩ := (show CE X.stack X.prog X.w (exC X.env.cells X.env.scope X.N σ obs H) s _ u s' from hq)
      have un2 : Un (frs X.stack) [] H (delC X.env.cells H') s.heap s'.heap := by
        refine ⟨fun b o e n hb hx => ?_, fun b o e n hb hx => ?_, fun b o e n hx => ?_, un.there, fun b xs e => ?_, fun b o x e => ?_, fun b ps e => ?_⟩
        · cases qq : cellV X.env.cells X.env.scope X.N σ b with
          | some w =>
            have h1 := cellK hok un.frzs b w qq
            rw [hobs b (inC qq)] at e
            cases e; exact h1
          | none => exact un.keep b o e (by rw [exC_none qq]; exact n) hb hx
        · exact un.slot b o e (by rw [exC_out (fun z => nfr b z hb)]; exact n) hb hx
        · by_cases z : InC X.env.cells b
          · exact delC_in z
          · rw [delC_out z]; exact un.free b o e (by rw [exC_out z]; exact n) hx
        · rw [delC_out (C.out e)]; exact un.tups b xs (C.same _ _ e)
        · rw [delC_out (C.out e)]; exact un.frzs b o x (C.same _ _ e)
        · rw [delC_out (C.out e)]; exact un.tbls b ps (C.same _ _ e)
      exact I.after ⟨v, delC X.env.cells H', os, bare, un2, hokD hok un.frzs (fun b o e n => un.free b o e n (by simp)), rv, q fun b z n => un.free b _ (hobs b z) n (by simp)⟩
    | next => exact False.elim hq
    | brk => exact False.elim hq
    | cont => exact False.elim hq
  | error e =>
    obtain ⟨a, B, H', cls, d, ea, fl, hok, ub, na, os, bare, q⟩ := (show L2.CX X.prog X.w X.stack (exC X.env.cells X.env.scope X.N σ obs H) s _ e s' from hq)
    have ub2 : UB (frs X.stack) H (delC X.env.cells H') s.heap B s'.heap := by
      refine ⟨fun b o e n hb => ?_, ub.slot, fun b o e n => ?_, ub.there, fun b xs e => ?_, fun b o x e => ?_, fun b ps e => ?_⟩
      · cases qq : cellV X.env.cells X.env.scope X.N σ b with
        | some w =>
          have h1 := cellK hok ub.frzs b w qq
          rw [hobs b (inC qq)] at e
          cases e; exact h1
        | none => exact ub.keep b o e (by rw [exC_none qq]; exact n) hb
      · by_cases z : InC X.env.cells b
        · exact delC_in z
        · rw [delC_out z]; exact ub.free b o e (by rw [exC_out z]; exact n)
      · rw [delC_out (C.out e)]; exact ub.tups b xs (C.same _ _ e)
      · rw [delC_out (C.out e)]; exact ub.frzs b o x (C.same _ _ e)
      · rw [delC_out (C.out e)]; exact ub.tbls b ps (C.same _ _ e)
    refine hx pins σ H s e s' I ⟨a, B, delC X.env.cells H', cls, d, ea, fl, hokD hok ub.frzs (fun b o e n => ub.free b o e n), ub2, ?_, os, bare, q fun b z n => ub.free b _ (hobs b z) n⟩
    by_cases z : InC X.env.cells a
    · exact delC_in z
    · rw [delC_out z]; exact na
theorem run_expU {Q : VK} {E : XK} {c : Code} (I : Inv X pins σ H s) (nd : X.N.Nodup) (hfn : ∀ y c, X.env.cells.lookup y = some c → X.fn y = true) (hx : Passes (L2.CX X.prog X.w) X E)
    (h : ∀ obs, Env0 X.prog X.w X.K X.mg X.base X.A X.stack s (exC X.env.cells X.env.scope X.N σ obs H) → codeAny (model X.prog X.w) X.A c (CR (L2.CX X.prog X.w) X.stack X.prog X.w (exC X.env.cells X.env.scope X.N σ obs H) s (fun v H' => (∀ b, InC X.env.cells b → exC X.env.cells X.env.scope X.N σ obs H b = none → H' b = none) → Q v (delC X.env.cells H')) (fun cls d H' => (∀ b, InC X.env.cells b → exC X.env.cells X.env.scope X.N σ obs H b = none → H' b = none) → E cls d (delC X.env.cells H'))) s) :
    codeAny (model X.prog X.w) X.A c (fun r s' => match r with
      | .ok (.ret u) => EP X pins σ Q u s'
      | .ok _ => False
      | .error e => X.xe e s') s := run_expUO I nd (out_own I hfn) hx h
end
def tCallXU (cm : List (Str × Addr)) (sc : Scope) (N : List Str) (sp : Sp) (dvs : List V) (E : XK) (t : TA) : TE := fun σ H Q => t σ H fun vs H1 => CEnv cm sc N H1 → ∀ obs, sp (vs ++ dvs) (exC cm sc N σ obs H1) (fun v H' => (∀ b, InC cm b → exC cm sc N σ obs H1 b = none → H' b = none) → Q v (delC cm H')) (fun cls d H' => (∀ b, InC cm b → exC cm sc N σ obs H1 b = none → H' b = none) → E cls d (delC cm H'))
section
variable {X : Cx} {k : Nat} {x : Str} {ps : List Str} {dvs : List V} {sp : Sp} {E : XK} {p pos : Pos} {e : Expr} {es : List Expr} {t : TA}
theorem pe_callXU (G : Glob X.prog X.w X.K X.mg X.base (L2.CX X.prog X.w) k x ps dvs sp) (hr : Room k X.A) (hg : Gl X x) (hx : Passes (L2.CX X.prog X.w) X E) (nd : X.N.Nodup) (hfn : ∀ y c, X.env.cells.lookup y = some c → X.fn y = true) (ha : PA X (e :: es) t)
    (hdb : (x == ("__debug__" : Str)) = false := by decide) (he : starEach (e :: es) X.env = (false, eval e X.env) :: starEach es X.env := by rfl) (hpl : (backTo pos (starEach es X.env)).any (·.1) = false := by rfl) :
    PE X (.Call (.Name x p) (e :: es) [] pos) (tCallXU X.env.cells X.env.scope X.N sp dvs E t) := by
  refine ⟨fun pins s σ H Q I h => ?_⟩
  obtain ⟨f, fd, ds, F, hm, kp, vd, hb⟩ := G.ex
  refine wpAny_Call_Name_kw (ld_glob I hg hm ?_ hdb)
  refine PySem.W.callWith_K (h₀ := X.base) I.ok.mod.kin kp (thn (ha.run pos pins s σ H _ I h) fun us s1 ⟨vs, H1, I1, r, q⟩ => ⟨I1.kIn, ?_⟩) he hpl
  refine wpAny_call (codeAny_mono (run_expU (Q := Q) (E := E) I1 nd hfn hx fun obs e0 => ?_) fun r s' hq => ?_)
  · have r2 : Vals (vs ++ dvs) (us ++ ds) := r.append vd
    have q2 := q (cenv_of I1 nd) obs
    have hl : (us ++ ds).length = ps.length := by rw [← r2.length]; exact F.len _ _ _ _ q2
    exact F.run X.A X.stack s1 _ ⟨us, []⟩ (us ++ ds) (vs ++ dvs) _ _ hr e0 (hb s1 us I1.kIn hl) r2 q2
  · cases r with
    | error e => exact hq
    | ok fl =>
      cases fl with
      | ret u => exact hq
      | next => exact False.elim hq
      | brk => exact False.elim hq
      | cont => exact False.elim hq
end
theorem lookup_filter {p : Str × Addr → Bool} {y : Str} {b : Addr} : ∀ {l : List (Str × Addr)}, l.lookup y = some b → p (y, b) = true → (l.filter p).lookup y = some b
  | (x, a) :: r, h, hp => by
    by_cases e : y = x
    · subst e
      rw [List.lookup_cons_self] at h
      cases h
      rw [List.filter_cons_of_pos hp, List.lookup_cons_self]
    · have e' : (y == x) = false := beq_eq_false_iff_ne.mpr e
      rw [List.lookup_cons, e'] at h
      have ih := lookup_filter h hp
      by_cases hq : p (x, a) = true
      · rw [List.filter_cons_of_pos hq, List.lookup_cons, e']; exact ih
      · rw [List.filter_cons_of_neg hq]; exact ih
/-! ### a lambda called while the frame that made it runs: its body over the heap without cells -/
/-- Hl: the heap behind the call, H' behind the body -/
def OutC (cm : List (Str × Addr)) (X1 Hl H' : Hp) : Prop := ∀ b o, H' b = some o → Hl b = some o ∧ (InC cm b → X1 b = none)
theorem OutC.same {cm : List (Str × Addr)} {X1 Hl H' H2 : Hp} (h : OutC cm X1 Hl H') (s : Same Hl H2) (u : ∀ b, InC cm b → X1 b = none → H2 b = none) : Same H' (delC cm H2) := fun b o e => by
  obtain ⟨h1, h2⟩ := h b o e
  have := s _ _ h1
  rw [delC_out (fun z => by rw [u b z (h2 z)] at this; cases this)]
  exact this
theorem lam_all {P : Program} {w : World} {K : PySem.W.Frag} {mg : Str → Option Value} {base : Heap} {n : Nat} {cm : List (Str × Addr)} {sc : Scope} {N : List Str} {σ : L2.St} {obs : Addr → Obj} {H : Hp} {f : Addr} {L : LF} {fr : List Str} {dvs vs : List V} {spN : List (Option V) → Sp} {ws : List V} {N' ps' : List Str} {R : VK} {RE : XK} (C : CEnv cm sc N H) (hf : H f = some (LamO f L)) (hc : H L.c = some (CodeO L.c L.qual))
    (ac : Act P w K mg base n f (spLam f L fr dvs spN)) (js : List Nat) (hL : L.cl = cloFrom cm L.scope.names []) (hb : ndefB sc L.scope fr = true) (S : NScope N' ps' fr L.scope) (hjs : js.map (fun j => N[j]?) = fr.map some) (hws : js.map (fun j => σ[j]?) = ws.map (fun v => some (some v))) (hdt : DtOk H L.dT dvs)
    (body : ∀ (Q : VK) (E : XK), (∀ v H', R v H' → Q v H') → (∀ c d H', RE c d H' → E c d H') → spN (ws.map some) (vs ++ dvs) H Q E) :
    ∃ sp, Act P w K mg base n f sp ∧ ∀ (Q : VK) (E : XK), (∀ v Hl H', R v H' → OutC cm (exC cm sc N σ obs H) Hl H' → Q v Hl) → (∀ c d Hl H', RE c d H' → OutC cm (exC cm sc N σ obs H) Hl H' → E c d Hl) → sp vs (exC cm sc N σ obs H) Q E := by
  refine ⟨_, ac.framed, fun Q E hq he => ?_⟩
  have caps : CapsAt L.cl fr ws (exC cm sc N σ obs H) := by rw [hL]; exact C.caps hb S.free hjs hws (fun a o h _ => h)
  have hcm : ∀ b, InC L.cl b → InC cm b := fun b ⟨y, e⟩ => ⟨y, by rw [hL] at e; exact clo_sub C hb y b e⟩
  generalize hX : exC cm sc N σ obs H = X1 at caps hq he
  open Classical in
  obtain ⟨cl2, h2⟩ : ∃ cl2 : List (Str × Addr), ∀ b, InC cl2 b ↔ (InC cm b ∧ (∃ v, IsC X1 b v) ∧ ¬ InC L.cl b) := by
    refine ⟨cm.filter fun x => decide (InC cm x.2 ∧ (∃ v, IsC X1 x.2 v) ∧ ¬ InC L.cl x.2), fun b => ⟨fun ⟨y, e⟩ => ?_, fun h => ?_⟩⟩
    · obtain ⟨m1, m2⟩ := List.mem_filter.mp (PySem.mem_of_lookup e)
      exact of_decide_eq_true m2
    · obtain ⟨y, e⟩ := h.1
      exact ⟨y, lookup_filter e (decide_eq_true h)⟩
  have nz2 : ∀ b, InC L.cl b → ¬ InC cl2 b := fun b z y => ((h2 b).mp y).2.2 z
  have nH : ∀ {b o}, H b = some o → ¬ InC cm b := fun {b o} h => C.out h
  have eH : delC L.cl (delC cl2 X1) = H := funext fun b => by
    by_cases z : InC L.cl b
    · rw [delC_in z, C.free b (hcm b z)]
    · rw [delC_out z]
      by_cases z2 : InC cl2 b
      · rw [delC_in z2, C.free b ((h2 b).mp z2).1]
      · rw [delC_out z2, ← hX]
        by_cases z3 : InC cm b
        · cases e : cellV cm sc N σ b with
          | none => rw [exC_none e]
          | some v => exact absurd ((h2 b).mpr ⟨z3, ⟨v, obs b, by rw [← hX, exC_some e]⟩, z⟩) z2
        · rw [exC_out z3]
  have sX : Same H X1 := hX ▸ C.same
  have atX : ∀ {b o}, H b = some o → delC cl2 X1 b = some o := fun {b o} h => by rw [delC_out (fun z => nH h ((h2 b).mp z).1)]; exact sX _ _ h
  refine ⟨cl2, ⟨fun a z => ((h2 a).mp z).2.1⟩, ws, atX hf, atX hc, caps.mono fun b z v ⟨ob, e⟩ => ⟨ob, by rw [delC_out (nz2 b z)]; exact e⟩, ?_, ?_⟩
  · unfold DtOk at hdt ⊢
    cases e : L.dT with
    | none => rw [e] at hdt; exact hdt
    | some T => rw [e] at hdt; exact atX hdt
  · rw [eH]
    have fin : ∀ H', (∀ a, InC L.cl a → H' a = none) → (∀ a, InC cl2 a → putC L.cl (delC cl2 X1) H' a = none) → OutC cm X1 (putC cl2 X1 (putC L.cl (delC cl2 X1) H')) H' := fun H' a1 a2 b o e => by
      have z1 : ¬ InC L.cl b := fun z => by rw [a1 b z] at e; cases e
      have z2 : ¬ InC cl2 b := fun z => by have := a2 b z; rw [putC_out z1, e] at this; cases this
      refine ⟨by rw [putC_out z2, putC_out z1]; exact e, fun z => ?_⟩
      cases q : cellV cm sc N σ b with
      | none => rw [← hX, exC_none q]; exact C.free b z
      | some v => exact absurd ((h2 b).mpr ⟨z, ⟨v, obs b, by rw [← hX, exC_some q]⟩, z1⟩) z2
    exact body _ _ (fun v H' r a1 a2 => hq v _ H' r (fin H' a1 a2)) (fun c d H' r a1 a2 => he c d _ H' r (fin H' a1 a2))
end Hk

set_option Elab.async false
set_option linter.all false
set_option maxRecDepth 100000
set_option maxHeartbeats 4000000
/-! list(zip(xs, ys)) of two lists. -/
namespace PySem.F
theorem zip_no_len : typeLookup (.type "zip") "__len__" = pure none := by rw [typeLookup_type, builtinLookup_eq_fast]; kernel_rfl
theorem zip_no_hint : typeLookup (.type "zip") "__length_hint__" = pure none := by rw [typeLookup_type, builtinLookup_eq_fast]; kernel_rfl
end PySem.F
namespace Hk
open PySem PySem.Spec PyProof.Rows L2 PySem.W PySem.Calls
def pr2 (q : V × V) : List V := [q.1, q.2]
section
variable {X : Cx} {pins : List (Addr × Obj)} {σ : L2.St} {z TI TO i1 i2 a b q : Addr} {xs ys : List V} {H1 : Hp} {A1 : Around}
/-- what is known of the zip, between the draws -/
structure ZS (X : Cx) (pins : List (Addr × Obj)) (H : Hp) (h : Heap) (z TI TO i1 i2 a b : Addr) (i : Nat) : Prop where
  zz : (IsZip h z TI TO .none ∧ ∃ x y, IsPair h TO x y) ∨ ∃ T f u, IsZipHeld h z TI TO T f ∧ H T = some (.tup u)
  ti : IsPair h TI (.ref i1) (.ref i2)
  h1 : h.IsListIter i1 a i
  h2 : h.IsListIter i2 b i
  fp : ∀ c ∈ [z, TI, TO, i1, i2], FpOk X pins H c
  lt : ∀ c ∈ [z, TI, TO, i1, i2], c < h.objs.size
theorem fp_up {H : Hp} {c T : Addr} {o : HO} (f : FpOk X pins H c) (n : c ≠ T) : FpOk X pins (upd H T o) c := ⟨by rw [upd_ne n]; exact f.1, f.2⟩
theorem zl_loop {Rs : Result → Shared → Prop} (D : ZipApart z TI TO i1 i2 a b) (hd : A1.in1.handled = none) (hxs : SqL X.K H1 a xs) (hys : SqL X.K H1 b ys) (hle : (xs.zip ys).length < sizeLine)
    (hdone : ∀ ts H s, Inv X pins σ H s → Same H1 H → H q = some (.lst (ts.map V.ref)) → TupsAt H ts ((xs.zip ys).map pr2) → Rs (.ok (.ret .none)) s) :
    ∀ (m i : Nat) (ts : List Addr) (H : Hp) (s : Shared), i + m = (xs.zip ys).length → Inv X pins σ H s → ZS X pins H s.heap z TI TO i1 i2 a b i → Same H1 H → H1 q = none → H q = some (.lst (ts.map V.ref)) → TupsAt H ts (((xs.zip ys).take i).map pr2) →
      codeAny (model X.prog X.w) A1 (.builtin "list.extend.loop" ⟨[.ref q, .ref z, .none], []⟩) Rs s := by
  intro m
  induction m with
  | zero =>
    intro i ts H s hi I Z sH hq0 hq hts
    refine codeAny_builtin PySem.F.entry_extend_loop ?_
    rw [Around.under_plainId PySem.F.plain_extend_loop _]
    show wpAny _ A1.in1 (pyNext (.ref z) >>= _) _ _ s
    obtain ⟨its, rv, p, _⟩ := I.list (sH.seq hxs)
    obtain ⟨its2, rv2, p2, _⟩ := I.list (sH.seq hys)
    have l1 := rv.length
    have l2 := rv2.length
    have hz : (xs.zip ys).length = min xs.length ys.length := List.length_zip
    have he : its.toArray[i]? = none ∨ its2.toArray[i]? = none := by
      by_cases hc : xs.length ≤ ys.length
      · exact .inl (by simp; omega)
      · exact .inr (by simp; omega)
    have hts' : TupsAt H ts ((xs.zip ys).map pr2) := by
      rw [List.take_of_length_le (by omega)] at hts; exact hts
    refine wpAny_bind ?_
    rcases Z.zz with ⟨hz, x0, y0, hTO⟩ | ⟨T, f, u, hz, hT⟩
    · exact wpAny_pyNext_zip_end hd D hz Z.ti hTO Z.h1 Z.h2 p.isList p2.isList he fun h' hk => wpAny_pure (hdone ts H _ (I.turnedL (t' := s.toks) (ch := [z, TI, TO, i1, i2]) (fun c o hb e =>
        hk c o (fun q' => hb (by simp [q'])) (fun q' => hb (by simp [q'])) (fun q' => hb (by simp [q'])) (fun q' => hb (by simp [q'])) e) Z.fp) sH hq hts')
    · obtain ⟨_, _, _, oT, hoT, _⟩ := I.hok T _ hT
      exact wpAny_pyNext_zip_end_held hd D hz hoT Z.ti Z.h1 Z.h2 p.isList p2.isList he fun h' hk => wpAny_pure (hdone ts H _ (I.turnedL (t' := s.toks) (ch := [z, TI, TO, i1, i2]) (fun c o hb e =>
        hk c o (fun q' => hb (by simp [q'])) (fun q' => hb (by simp [q'])) (fun q' => hb (by simp [q'])) e) Z.fp) sH hq hts')
  | succ m ih =>
    intro i ts H s hi I Z sH hq0 hq hts
    refine codeAny_builtin PySem.F.entry_extend_loop ?_
    rw [Around.under_plainId PySem.F.plain_extend_loop _]
    show wpAny _ A1.in1 (pyNext (.ref z) >>= _) _ _ s
    have hsx := sH.seq hxs
    have hsy := sH.seq hys
    obtain ⟨its, rv, p, _⟩ := I.list hsx
    obtain ⟨its2, rv2, p2, _⟩ := I.list hsy
    have hlt : i < (xs.zip ys).length := by omega
    have hpq : (xs.zip ys)[i]? = some (xs.zip ys)[i] := List.getElem?_eq_getElem hlt
    obtain ⟨hx, hy⟩ := List.getElem?_zip_eq_some.mp hpq
    obtain ⟨u, hu, ru⟩ := rv.get hx
    obtain ⟨u2, hu2, ru2⟩ := rv2.get hy
    have nT : H s.heap.objs.size = none := I.hok.fresh (Nat.le_refl _)
    have nqT : q ≠ s.heap.objs.size := ne_of_none hq nT
    have tl : ts.length = i := by
      have := hts.len
      rw [List.length_map, List.length_take] at this
      omega
    /- behind the draw -/
    have fin : ∀ (h' : Heap), IsPair h' s.heap.objs.size u u2 → (∀ c o, c ∉ [z, TI, TO, i1, i2] → s.heap.get? c = some o → h'.get? c = some o) → (∃ T f w, IsZipHeld h' z TI TO T f ∧ (T = s.heap.objs.size ∨ H T = some (.tup w))) → IsPair h' TI (.ref i1) (.ref i2) → h'.IsListIter i1 a (i + 1) → h'.IsListIter i2 b (i + 1) → h'.objs.size = s.heap.objs.size + 1 →
        wpAny (model X.prog X.w) A1.in1 (updateSeq q (·.push (Value.ref s.heap.objs.size)) >>= fun _ => again (.builtin "list.extend.loop" ⟨[.ref q, .ref z, .none], []⟩))
          (fun fin s' => match fin with | .done f => Rs (.ok f) s' | .again c' => c'.quiet = true ∧ codeAny (model X.prog X.w) A1 c' Rs s') (fun e s' => Rs (.error e) s') { s with heap := h' } := by
      intro h' hp' hk hzz hti hh1 hh2 hsz
      have new : ObjOk X.prog X.w (upd H s.heap.objs.size (.tup (pr2 (xs.zip ys)[i]))) h' s.heap.objs.size (.tup (pr2 (xs.zip ys)[i])) :=
        ⟨by show 2 ≤ sizeLine; decide, [u, u2], .cons ru (.cons ru2 .nil), ⟨_, hp', rfl, _, rfl⟩⟩
      have I1 : Inv X pins σ (upd H s.heap.objs.size (.tup (pr2 (xs.zip ys)[i]))) { s with heap := h' } := I.turnedNew (t' := s.toks) (ch := [z, TI, TO, i1, i2]) hk Z.fp (Nat.le_refl _) new
      have hq1 : upd H s.heap.objs.size (.tup (pr2 (xs.zip ys)[i])) q = some (.lst (ts.map V.ref)) := by rw [upd_ne nqT]; exact hq
      obtain ⟨zz, its3, k3, r3, hl3, e3⟩ := I1.lstM hq1
      have hl4 : its3.length = i := by rw [← hl3, List.length_map, tl]
      refine wpAny_bind (wpAny_updateSeq e3 rfl (wpAny_pure ⟨plainId_quiet PySem.F.plain_extend_loop _, ?_⟩) (by rw [List.size_toArray]; omega) (by show (its3.toArray.push _).size ≤ sizeLine + 1; rw [Array.size_push, List.size_toArray]; omega))
      have I2 := I1.lset (f := (·.push (Value.ref s.heap.objs.size))) (its' := its3 ++ [Value.ref s.heap.objs.size]) (ys := ts.map V.ref ++ [V.ref s.heap.objs.size]) (t' := s.toks) hq1 e3 (by simp) (r3.append (.cons rfl .nil)) (by rw [List.length_append, List.length_map, List.length_singleton]; omega)
      have ztl : ∀ c ∈ [z, TI, TO, i1, i2], c ≠ s.heap.objs.size ∧ c ≠ q := fun c hc => ⟨Nat.ne_of_lt (Z.lt c hc), fun e => by rw [← e, (Z.fp c hc).1] at hq; cases hq⟩
      have kq : ∀ c o, c ≠ q → h'.get? c = some o → (h'.update q (Obj.mapSeq (·.push (Value.ref s.heap.objs.size)))).get? c = some o := fun c o hc e => (Heap.get?_update_other h' _ (Ne.symm hc)).trans e
      have eqT : ts.map V.ref ++ [V.ref s.heap.objs.size] = (ts ++ [s.heap.objs.size]).map V.ref := by rw [List.map_append]; rfl
      rw [eqT] at I2
      have sH2 : Same H1 (upd (upd H s.heap.objs.size (.tup (pr2 (xs.zip ys)[i]))) q (.lst ((ts ++ [s.heap.objs.size]).map V.ref))) := same_put (same_put sH (sH.free nT)) hq0
      refine ih (i + 1) (ts ++ [s.heap.objs.size]) _ _ (by omega) I2 ?_ sH2 hq0 upd_same ?_
      · refine ⟨.inr ?_, ?_, hh1.at fun o e => kq _ o (ztl _ (by simp)).2 e, hh2.at fun o e => kq _ o (ztl _ (by simp)).2 e, fun c hc => fp_up (fp_up (Z.fp c hc) (ztl c hc).1) (ztl c hc).2, fun c hc => ?_⟩
        · obtain ⟨T, f, w, e1, e2⟩ := hzz
          rcases e2 with e2 | e2
          · refine ⟨T, f, pr2 (xs.zip ys)[i], kq _ _ (ztl z (by simp)).2 e1, ?_⟩
            rw [e2, upd_ne nqT.symm]; exact upd_same
          · refine ⟨T, f, w, kq _ _ (ztl z (by simp)).2 e1, ?_⟩
            have n1 : T ≠ s.heap.objs.size := ne_of_none e2 nT
            have n2 : T ≠ q := ne_of e2 hq (fun z => by cases z)
            rw [upd_ne n2, upd_ne n1]; exact e2
        · exact kq _ _ (ztl TI (by simp)).2 hti
        · show c < (h'.update q _).objs.size
          rw [Heap.size_update, hsz]
          exact Nat.lt_succ_of_lt (Z.lt c hc)
      · have et : ((xs.zip ys).take (i + 1)).map pr2 = ((xs.zip ys).take i).map pr2 ++ [pr2 (xs.zip ys)[i]] := by rw [List.take_add_one, hpq, List.map_append]; rfl
        have hn : upd (upd H s.heap.objs.size (.tup (pr2 (xs.zip ys)[i]))) q (.lst ((ts ++ [s.heap.objs.size]).map V.ref)) s.heap.objs.size = some (.tup (pr2 (xs.zip ys)[i])) := by rw [upd_ne nqT.symm]; exact upd_same
        rw [et]
        refine TupsAt.snoc hn (hts.mono fun t x e => ?_)
        have n1 : t ≠ s.heap.objs.size := ne_of_none e nT
        have n2 : t ≠ q := ne_of e hq (fun z => by cases z)
        rw [upd_ne n2, upd_ne n1]; exact e
    refine wpAny_bind ?_
    rcases Z.zz with ⟨hz, x0, y0, hTO⟩ | ⟨T, f, w, hz, hT⟩
    · refine wpAny_pyNext_zip_item D hz Z.ti hTO Z.h1 Z.h2 p.isList p2.isList (x := u) (y := u2) (by simpa using hu) (by simpa using hu2) fun h' z' TO' h1' h2' hT' hsz hk => ?_
      exact fin h' hT' (fun c o hb e => hk c o (fun q' => hb (by simp [q'])) (fun q' => hb (by simp [q'])) (fun q' => hb (by simp [q'])) (fun q' => hb (by simp [q'])) e) ⟨s.heap.objs.size, false, [], z', .inl rfl⟩ (hk _ _ D.TIz D.TITO D.TIi1 D.TIi2 Z.ti) h1' h2' hsz
    · obtain ⟨_, _, _, oT, hoT, _⟩ := I.hok T _ hT
      refine wpAny_pyNext_zip_item_held D hz hoT Z.ti Z.h1 Z.h2 p.isList p2.isList (x := u) (y := u2) (by simpa using hu) (by simpa using hu2) fun h' z' h1' h2' hT' hsz hk => ?_
      exact fin h' hT' (fun c o hb e => hk c o (fun q' => hb (by simp [q'])) (fun q' => hb (by simp [q'])) (fun q' => hb (by simp [q'])) e) ⟨T, true, w, z', .inr hT⟩ (hk _ _ D.TIz D.TIi1 D.TIi2 Z.ti) h1' h2' hsz
/-- list(z), z a zip just made -/
theorem zl_list {Q : VK} {H : Hp} {s : Shared} (hc : X.calm = true) (D : ZipApart z TI TO i1 i2 a b) (I : Inv X pins σ H s) (Z : ZS X pins H s.heap z TI TO i1 i2 a b 0) (hz0 : IsZip s.heap z TI TO .none) (hxs : SqL X.K H a xs) (hys : SqL X.K H b ys) (hle : (xs.zip ys).length < sizeLine)
    (h : ∀ q ts H', H q = none → Same H H' → H' q = some (.lst (ts.map V.ref)) → TupsAt H' ts ((xs.zip ys).map pr2) → Q (.ref q) H') :
    wpAny (model X.prog X.w) X.A (call (.type "list") [.ref z]) (EP X pins σ Q) X.xe s := by
  have hd0 : X.A.handled = none := I.ok.hd hc
  refine callType_codes (Q₁ := fun obj s₁ => obj = .ref s.heap.objs.size ∧ s₁ = { s with heap := s.heap.push { cls := .type "list", data := .seq #[] } }) PySem.F.called_list (PySem.F.typeCall_list_1 _) PySem.F.entry_list_init
    (code_list_new _ ⟨rfl, rfl⟩) fun obj s₁ h₁ => ?_
  obtain ⟨rfl, rfl⟩ := h₁
  have hS : (s.heap.push { cls := .type "list", data := .seq #[] }).get? s.heap.objs.size = some { cls := .type "list", data := .seq #[] } := Heap.get?_push_size _ rfl
  refine ⟨⟨_, hS, rfl⟩, PySem.F.args_list_init_2 _ _, ?_⟩
  have fr : H s.heap.objs.size = none := I.hok.fresh (Nat.le_refl _)
  have I1 : Inv X pins σ (upd H s.heap.objs.size (.lst [])) { s with heap := s.heap.push { cls := .type "list", data := .seq #[] } } := I.lnew (its := []) (t' := s.toks) .nil (Nat.zero_le _)
  show wpAny _ _ (do let old ← Builtin.List.listItems (.ref s.heap.objs.size); Builtin.List.listUpdate (.ref s.heap.objs.size) (fun _ => #[]); letGo old.toList.reverse; Builtin.List.listExtendWith (.ref s.heap.objs.size) (.ref z) .none) _ _ _
  refine wpAny_bind ?_
  unfold Builtin.List.listItems
  refine wpAny_bind (wpAny_seqItems hS rfl (wpAny_pure ?_))
  show wpAny _ _ (updateSeq s.heap.objs.size (fun _ => #[]) >>= fun _ => letGo (#[] : Array Value).toList.reverse >>= fun _ => Builtin.List.listExtendWith (.ref s.heap.objs.size) (.ref z) .none) _ _ _
  refine wpAny_bind (wpAny_updateSeq hS rfl ?_)
  have I2 := I1.lset (f := fun _ => #[]) (its := []) (its' := []) (ys := []) (t' := s.toks) upd_same hS rfl .nil (Nat.zero_le _)
  rw [upd_upd] at I2
  refine wpAny_bind (wpAny_letGo ?_)
  have nzS : s.heap.objs.size ≠ z := Nat.ne_of_gt (Z.lt z (by simp))
  have nS : ∀ c ∈ [z, TI, TO, i1, i2], c ≠ s.heap.objs.size := fun c hc => Nat.ne_of_lt (Z.lt c hc)
  have sH : Same H (upd H s.heap.objs.size (.lst [])) := same_put (Same.refl _) fr
  generalize hs2 : ({ s with heap := (s.heap.push { cls := .type "list", data := .seq #[] }).update s.heap.objs.size (Obj.mapSeq fun _ => (#[] : Array Value)) } : Shared) = s2
  have kz : ∀ c o, c ≠ s.heap.objs.size → s.heap.get? c = some o → s2.heap.get? c = some o := fun c o hc e => by
    rw [← hs2]
    exact (Heap.get?_update_other _ _ (Ne.symm hc)).trans (Heap.get?_push_of_some _ e)
  have I2' : Inv X pins σ (upd H s.heap.objs.size (.lst [])) s2 := by rw [← hs2]; exact I2
  have sz2 : s2.heap.objs.size = s.heap.objs.size + 1 := by rw [← hs2]; show (Heap.update _ _ _).objs.size = _; rw [Heap.size_update, Heap.size_push]
  have hz2 : IsZip s2.heap z TI TO .none := kz _ _ (nS z (by simp)) hz0
  have hTy : s2.TypeIs (.ref z) "zip" := ⟨_, hz2, rfl⟩
  clear hs2 I2 I1
  unfold Builtin.List.listExtendWith
  refine wpAny_bind (wpAny_typeOf hTy ?_)
  have h1 : Builtin.List.listSameRef (.ref s.heap.objs.size) (.ref z) = false := by simp [Builtin.List.listSameRef, nzS]
  have h2 : (Value.type "zip" == Value.type "list") = false := by decide
  have h3 : (Value.type "zip" == Value.type "tuple") = false := by decide
  simp only [h1, h2, h3, Bool.or_false, Bool.false_eq_true, if_false]
  refine wpAny_bind (wpAny_pyIter_zip hz2 ?_)
  refine wpAny_bind (wpAny_holding ?_)
  unfold Builtin.List.listLengthHint
  refine wpAny_bind (wpAny_specialOf hTy PySem.F.zip_no_len ?_)
  show wpAny _ _ (specialOf (Value.ref z) (Str.ofString "__length_hint__") >>= _) _ _ _
  refine wpAny_bind (wpAny_specialOf hTy PySem.F.zip_no_hint ?_)
  refine wpAny_pure ?_
  show wpAny _ _ (rule "list.extend.makes-room" >>= fun _ => Builtin.List.listTouch (.ref s.heap.objs.size) >>= fun _ =>
    again (.builtin "list.extend.loop" ⟨[.ref s.heap.objs.size, .ref z, .none], []⟩)) _ _ _
  refine wpAny_bind (wpAny_rule ?_)
  refine wpAny_bind ?_
  show wpAny _ _ (updateSeq s.heap.objs.size (·.push .none) >>= fun _ => updateSeq s.heap.objs.size (·.pop)) _ _ _
  obtain ⟨z3, its3, k3, r3, hl3, e3⟩ := I2'.lstM upd_same
  cases r3
  refine wpAny_bind (wpAny_updateSeq e3 rfl ?_)
  have I3 := I2'.lset (f := (·.push Value.none)) (its' := [Value.none]) (ys := [.non]) (t' := s2.toks) upd_same e3 (by simp) (.cons rfl .nil) (by rw [List.length_singleton, sizeLine_eq]; decide)
  rw [upd_upd] at I3
  obtain ⟨z4, its4, k4, r4, hl4, e4⟩ := I3.lstM upd_same
  obtain ⟨u4, rfl, ru4⟩ := r4.one
  refine wpAny_updateSeq e4 rfl ?_ (by show 1 ≤ sizeLine; rw [sizeLine_eq]; decide) (by show 0 ≤ sizeLine + 1; exact Nat.zero_le _)
  have I4 := I3.lset (f := (·.pop)) (its := [u4]) (its' := []) (ys := []) (t' := s2.toks) upd_same e4 (by rfl) .nil (Nat.zero_le _)
  rw [upd_upd] at I4
  have kz2 : ∀ c o, c ≠ s.heap.objs.size → s.heap.get? c = some o → ((s2.heap.update s.heap.objs.size (Obj.mapSeq (·.push Value.none))).update s.heap.objs.size (Obj.mapSeq (·.pop))).get? c = some o := fun c o hc e =>
    (Heap.get?_update_other _ _ (Ne.symm hc)).trans ((Heap.get?_update_other _ _ (Ne.symm hc)).trans (kz c o hc e))
  have hTO : ∃ x y, IsPair s.heap TO x y := by
    rcases Z.zz with ⟨_, h⟩ | ⟨T, f, u, h1, _⟩
    · exact h
    · have e := (show s.heap.get? z = _ from hz0).symm.trans (show s.heap.get? z = _ from h1)
      simp [rawInt] at e
  obtain ⟨x0, y0, hTO⟩ := hTO
  refine wpAny_pure ⟨plainId_quiet PySem.F.plain_extend_loop _, ?_⟩
  refine zl_loop (A1 := X.A.in1) (q := s.heap.objs.size) (H1 := H) (xs := xs) (ys := ys) D hd0 hxs hys hle (fun ts H' s' I' sH' hq' ht' => ⟨rfl, .ref s.heap.objs.size, H', I', rfl, h _ ts H' fr sH' hq' ht'⟩) (xs.zip ys).length 0 [] _ _ (Nat.zero_add _) I4 ?_ sH fr upd_same trivial
  refine ⟨.inl ⟨kz2 _ _ (nS z (by simp)) hz0, x0, y0, kz2 _ _ (nS TO (by simp)) hTO⟩, kz2 _ _ (nS TI (by simp)) Z.ti, Z.h1.at fun o e => kz2 _ o (nS i1 (by simp)) e, Z.h2.at fun o e => kz2 _ o (nS i2 (by simp)) e, fun c hc => fp_up (Z.fp c hc) (nS c hc), fun c hc => ?_⟩
  show c < (Heap.update _ _ _).objs.size
  rw [Heap.size_update, Heap.size_update, sz2]
  exact Nat.lt_succ_of_lt (Z.lt c hc)
end
/-- list(zip(e, e2)) -/
def tListZip (K : PySem.W.Frag) (ta : TA) : TE := fun σ H Q => ta σ H fun vs H1 => ∃ a b xs ys, vs = [.ref a, .ref b] ∧ SqL K H1 a xs ∧ SqL K H1 b ys ∧ (xs.zip ys).length < sizeLine ∧
  ∀ q ts H', H1 q = none → Same H1 H' → H' q = some (.lst (ts.map V.ref)) → TupsAt H' ts ((xs.zip ys).map pr2) → Q (.ref q) H'
theorem pe_listZip {X : Cx} {K : PySem.W.Frag} {e e2 : Expr} {ta : TA} {p pos p' pos' : Pos} (hK : X.K = K) (hc : X.calm = true) (hgl : Gl X "list") (hml : X.mg "list" = none) (hg : Gl X "zip") (hm : X.mg "zip" = none) (ha : PA X [e, e2] ta)
    (hs : starEach [e, e2] X.env = (false, eval e X.env) :: starEach [e2] X.env := by rfl) (hpl : (backTo pos (starEach [e2] X.env)).any (·.1) = false := by rfl)
    (hs2 : starEach [.Call (.Name "zip" p) [e, e2] [] pos] X.env = [(false, eval (.Call (.Name "zip" p) [e, e2] [] pos) X.env)] := by rfl) :
    PE X (.Call (.Name "list" p') [.Call (.Name "zip" p) [e, e2] [] pos] [] pos') (tListZip K ta) := by
  subst hK
  refine ⟨fun pins s σ H Q I h => ?_⟩
  have hbl : bootBuiltins (Str.ofString "list") = some (.type "list") := by decide +kernel
  refine wpAny_Call_Name_kw (ld_blt I hgl hml hbl (PyProof.Rows.callWith_type1 (rest := []) ?_ hs2 rfl))
  rw [hs2]
  show wpAny _ _ (spliced [(false, eval (.Call (.Name "zip" p) [e, e2] [] pos) X.env)]) _ _ _
  refine spliced_cons ?_
  refine Call_ (ld_blt I hg hm PyProof.Rows.boot_zip (PyProof.Rows.callWith_type1 (thn (ha.run pos pins s σ H _ I h) fun us s1 ⟨vs, H1, I1, r1, q1⟩ => ?_) hs hpl))
  obtain ⟨a, b, xs, ys, ex, hqx, hqy, hle, q⟩ := q1
  subst ex
  cases r1 with
  | cons r rr =>
    cases rr with
    | cons r' rr =>
      cases rr
      cases r
      cases r'
      obtain ⟨its, rv, p1, _⟩ := I1.list hqx
      obtain ⟨its2, rv2, p2, _⟩ := I1.list hqy
      have la : a < s1.heap.objs.size := p1.lt
      have lb : b < s1.heap.objs.size := p2.lt
      refine call_zip_2 p1.isList p2.isList fun h' hz hTI hTO h1 h2 hsz hk => ?_
      have I2 : Inv X pins σ H1 { s1 with heap := h' } := I1.kept (t' := s1.toks) hk
      refine spliced_nil ?_
      refine zl_list (z := s1.heap.objs.size + 4) (TI := s1.heap.objs.size + 2) (TO := s1.heap.objs.size + 3) (i1 := s1.heap.objs.size) (i2 := s1.heap.objs.size + 1) hc (PySem.W.ktu_apart s1.heap.objs.size a b la lb) I2 ⟨.inl ⟨hz, _, _, hTO⟩, hTI, h1, h2, fun c hcm => ?_, fun c hcm => ?_⟩ hz hqx hqy hle q
      · have e' : c = s1.heap.objs.size + 4 ∨ c = s1.heap.objs.size + 2 ∨ c = s1.heap.objs.size + 3 ∨ c = s1.heap.objs.size ∨ c = s1.heap.objs.size + 1 := by simpa using hcm
        have hle : s1.heap.objs.size ≤ c := by
          rcases e' with z | z | z | z | z <;> rw [z] <;> first | exact Nat.le_add_right _ _ | exact Nat.le_refl _
        exact I1.fpOk hle (I1.hok.fresh hle)
      · have e' : c = s1.heap.objs.size + 4 ∨ c = s1.heap.objs.size + 2 ∨ c = s1.heap.objs.size + 3 ∨ c = s1.heap.objs.size ∨ c = s1.heap.objs.size + 1 := by simpa using hcm
        show c < h'.objs.size
        rw [hsz]
        rcases e' with z | z | z | z | z <;> rw [z] <;> exact Nat.lt_of_lt_of_le (Nat.lt_succ_self _) (by omega)
end Hk

set_option Elab.async false
set_option linter.all false
set_option maxRecDepth 100000
set_option maxHeartbeats 4000000
/-! sorted(xs, key=f), f a function value; its keys ints or pairs of ints.
The proofs of the end are those of KE.SortKeyed, turned from its frame to Inv. -/
namespace Hk
open PySem PySem.Spec PySem.W PyProof.Rows L2
/-- the key y reads as d -/
def KeyV (H : Hp) (y : V) (d : PyData) : Prop := (∃ n, y = .int n ∧ d = .int n) ∨ ∃ t i j, y = .ref t ∧ H t = some (.tup [.int i, .int j]) ∧ d = .tuple [.int i, .int j]
inductive EachV (H : Hp) : List V → List PyData → Prop
  | nil : EachV H [] []
  | cons {y : V} {d : PyData} {ys : List V} {ds : List PyData} : KeyV H y d → EachV H ys ds → EachV H (y :: ys) (d :: ds)
theorem KeyV.mono {H H' : Hp} {y : V} {d : PyData} (h : ∀ t xs, H t = some (.tup xs) → H' t = some (.tup xs)) (k : KeyV H y d) : KeyV H' y d := by
  rcases k with k | ⟨t, i, j, e, ht, ed⟩
  · exact .inl k
  · exact .inr ⟨t, i, j, e, h _ _ ht, ed⟩
theorem EachV.mono {H H' : Hp} (h : ∀ t xs, H t = some (.tup xs) → H' t = some (.tup xs)) : ∀ {ys : List V} {ds : List PyData}, EachV H ys ds → EachV H' ys ds
  | _, _, .nil => .nil
  | _, _, .cons k r => .cons (k.mono h) (r.mono h)
theorem EachV.snoc {H : Hp} {y : V} {d : PyData} (k : KeyV H y d) : ∀ {ys : List V} {ds : List PyData}, EachV H ys ds → EachV H (ys ++ [y]) (ds ++ [d])
  | _, _, .nil => .cons k .nil
  | _, _, .cons k' r => .cons k' (r.snoc k)
theorem EachV.length {H : Hp} : ∀ {ys : List V} {ds : List PyData}, EachV H ys ds → ys.length = ds.length
  | _, _, .nil => rfl
  | _, _, .cons _ r => by rw [List.length_cons, List.length_cons, r.length]
theorem each_vals : ∀ {us : List Value} {xs : List V}, EachIs (fun u x => RelV x u) us xs → Vals xs us
  | _, _, .nil => .nil
  | _, _, .cons r t => .cons r (each_vals t)
theorem vals_each : ∀ {us : List Value} {xs : List V}, Vals xs us → EachIs (fun u x => RelV x u) us xs
  | _, _, .nil => .nil
  | _, _, .cons r t => .cons r (vals_each t)
section
variable {X : Cx} {pins : List (Addr × Obj)} {σ : L2.St} {H : Hp} {s : Shared} {A : Around} {E : Value → Shared → Prop} {a kS : Addr} {b : Bool} {vs : List Value} {e1 : Nat} {P : PySem.Fin → Shared → Prop} {kvs : List V}
theorem keyV_reads (I : Inv X pins σ H s) {y : V} {d : PyData} {u : Value} (k : KeyV H y d) (r : RelV y u) : ∃ as, Reads s.heap u d as := by
  rcases k with ⟨n, rfl, rfl⟩ | ⟨t, i, j, rfl, ht, rfl⟩
  · exact Dp.reads I (.int n) (.int n) u (.int _) r
  · exact Dp.reads I _ _ u (.tup (.of ht) (.cons (.int _) (.cons (.int _) .nil))) r
theorem eachV_reads (I : Inv X pins σ H s) : ∀ {ys : List V} {ds : List PyData} {us : List Value}, EachV H ys ds → Vals ys us → EachIs (fun v d => ∃ as, Reads s.heap v d as) us ds
  | _, _, _, .nil, .nil => .nil
  | _, _, _, .cons k r, .cons q t => .cons (keyV_reads I k q) (eachV_reads I r t)
theorem key_tailI {st : SortSt} {out : List Value} {outV : List V} (I : Inv X pins σ H s) (hk : H kS = some (.lst kvs)) (ha : H a = some (.frz (seqObj "list" #[] e1) (.lst []))) (hn : ∀ o' u', X.H_0 a ≠ some (.frz o' u'))
    (hv : Vals outV out) (hz : out.length ≤ sizeLine) (hfl : failedOf st = none) (ho : (if b = true then ((arrOf st).map (·.2)).reverse else (arrOf st).map (·.2)) = out.toArray)
    (h : ∀ s', Inv X pins σ (upd (upd H kS (.lst [])) a (.lst outV)) s' → P (.done (.ret .none)) s') :
    wpAny (model X.prog X.w) A (ksk_tail a b e1 (.ref kS) st) P E s := by
  have hka : a ≠ kS := fun z => by rw [z, hk] at ha; cases ha
  obtain ⟨zk, kits, nk, rk, lk, ek⟩ := I.lstM hk
  have I1 : Inv X pins σ (upd H kS (.lst [])) { s with heap := s.heap.update kS (Obj.mapSeq fun _ => #[]), toks := s.toks } := I.lset (its' := []) (f := fun _ => #[]) hk ek rfl .nil (Nat.zero_le _)
  have ha1 : upd H kS (.lst []) a = some (.frz (seqObj "list" #[] e1) (.lst [])) := by rw [upd_ne hka]; exact ha
  have ea := (I1.hok a _ ha1).1
  have I2 := I1.unlock ha1 hn
  have I3 := I2.lset (its := []) (its' := out) (f := fun _ => out.toArray) (t' := s.toks) upd_same ea rfl hv (by rw [hv.length]; exact hz)
  rw [upd_upd] at I3
  have hz2 : out.toArray.size ≤ sizeLine + 1 := by
    rw [List.size_toArray]
    exact Nat.le_succ_of_le hz
  unfold ksk_tail
  try dsimp only
  rw [ho]
  refine wpAny_bind (listUpdate_at ek rfl ?_ (by rw [List.size_toArray, ← lk]; exact zk) (Nat.zero_le _))
  refine wpAny_bind (wpAny_letGo ?_)
  refine wpAny_bind (seqEpoch_at ea rfl ?_)
  refine wpAny_bind (listUpdate_at ea rfl ?_ (Nat.zero_le _) hz2)
  rw [hfl]
  simp only [bne_self_eq_false, Bool.false_eq_true, if_false]
  exact wpAny_pure (h _ I3)
theorem key_endI {κ : PyProof.Rows.KeyKind} {keys : Array Value} {outV : List V} (I : Inv X pins σ H s) (hk : H kS = some (.lst kvs)) (ha : H a = some (.frz (seqObj "list" #[] e1) (.lst []))) (hn : ∀ o' u', X.H_0 a ≠ some (.frz o' u'))
    (S : SortsAt X.prog X.w A s κ keys.toList) (hsz : keys.size = vs.length) (hZ : vs.length ≤ sizeLine) (hv : Vals outV (sortVals κ b keys.toList vs))
    (h : ∀ s', Inv X pins σ (upd (upd H kS (.lst [])) a (.lst outV)) s' → P (.done (.ret .none)) s') :
    wpAny (model X.prog X.w) A (ksk_end a b vs.toArray e1 (.ref kS) keys) P E s := by
  obtain ⟨kd, h1, h2⟩ := S.kind
  have hkl : keys.toList.length = vs.length := by
    rw [Array.length_toList]
    exact hsz
  have hK : PyProof.Rows.KeysOf κ (keys.zip vs.toArray) := keysOf_zip S.keys
  have hol : (sortVals κ b keys.toList vs).length = vs.length := sortVals_length b hkl
  have hstart : (if b = true then (keys.zip vs.toArray).reverse else keys.zip vs.toArray).Perm (keys.zip vs.toArray) := by
    cases b with
    | false => exact Array.Perm.refl _
    | true => exact Array.perm_iff_toList_perm.mpr (by rw [if_pos rfl, Array.toList_reverse]; exact List.reverse_perm _)
  have hss : (if b = true then (keys.zip vs.toArray).reverse else keys.zip vs.toArray).size = vs.length := by rw [hstart.size_eq, Array.size_zip, hsz, List.size_toArray, Nat.min_self]
  have fin : ∀ st' : SortSt, (arrOf st').Perm (if b = true then (keys.zip vs.toArray).reverse else keys.zip vs.toArray) → SortedToK κ (arrOf st') (if b = true then (keys.zip vs.toArray).reverse else keys.zip vs.toArray).size →
      Stable κ (arrOf st') (if b = true then (keys.zip vs.toArray).reverse else keys.zip vs.toArray) → (if b = true then ((arrOf st').map (·.2)).reverse else (arrOf st').map (·.2)) = (sortVals κ b keys.toList vs).toArray := by
    intro st' hp hs ht
    have e := sort_out (rev := b) (keys := keys) (items := vs.toArray) (xs := arrOf st') (κ := κ) hK hp hs ht
    have e' := congrArg List.toArray e
    rw [Array.toArray_toList] at e'
    exact e'
  have step : ∀ t : Sem PySem.Fin, wpAny (model X.prog X.w) A t P E s → wpAny (model X.prog X.w) A (if b = true then (do let _ ← rule "list.sort.reverse"; t) else t) P E s := by
    intro t ht
    split
    · exact wpAny_bind (wpAny_rule ht)
    · exact ht
  unfold ksk_end
  try dsimp only
  refine step _ ?_
  by_cases hl2 : vs.toArray.size < 2
  · rw [if_pos hl2, if_pos hl2]
    refine wpAny_bind (wpAny_pure ?_)
    rw [StateT.run_pure]
    refine wpAny_bind (wpAny_pure ?_)
    try dsimp only
    refine key_tailI (st := SortSt.mk' general' (if b = true then (keys.zip vs.toArray).reverse else keys.zip vs.toArray) #[] 7 none) I hk ha hn hv (by rw [hol]; exact hZ) rfl (fin _ (Array.Perm.refl _) ?_ (Stable.refl _)) h
    intro i j hij hj
    rw [hss] at hj
    rw [List.size_toArray] at hl2
    have : i = j := by omega
    subst this
    exact KeyOrd.kle_refl _
  · rw [if_neg hl2, if_neg hl2]
    rw [List.size_toArray] at hl2
    refine wpAny_bind (h2 (by omega) _ ?_)
    refine wpAny_bind (wpAny_mono (PyProof.Rows.H.wpS_sortRunsSt (κ := κ) (kd := kd) (a₀ := if b = true then (keys.zip vs.toArray).reverse else keys.zip vs.toArray)
      (st := SortSt.mk' kd (if b = true then (keys.zip vs.toArray).reverse else keys.zip vs.toArray) #[] 7 none)
      (Q := fun _ st' => failedOf st' = none ∧ (if b = true then ((arrOf st').map (·.2)).reverse else (arrOf st').map (·.2)) = (sortVals κ b keys.toList vs).toArray)
      h1 (hK.perm hstart) ⟨Array.Perm.refl _, rfl, rfl⟩ rfl (Stable.refl _) (by rw [hss]; omega) fun st' a1 a2 a3 a4 => ⟨a2, fin st' a1 a3 a4⟩) ?_ fun _ _ e => e)
    rintro ⟨⟨⟩, st'⟩ s' ⟨rfl, hf, ho⟩
    try dsimp only at ho ⊢
    exact key_tailI I hk ha hn hv (by rw [hol]; exact hZ) hf ho h
theorem key_restI {f : Value} {xs : List V} {key : V → PyData} (I : Inv X pins σ H s) (hk : H kS = some (.lst [])) (ha : H a = some (.frz (seqObj "list" #[] e1) (.lst []))) (hn : ∀ o' u', X.H_0 a ≠ some (.frz o' u'))
    (rv : Vals xs vs) (hZ : vs.length < sizeLine) (hal : AllAlike (xs.map key)) (hsk : Sortable (xs.map key)) (hu : ∀ d, d ∈ xs.map key → A.units + d.depth < cLine)
    (turn : ∀ x ∈ xs, ∀ (v : Value) (H' : Hp) (s' : Shared), RelV x v → Inv X pins σ H' s' → (∀ b o, b ≠ kS → H b = some o → H' b = some o) →
      wpAny (model X.prog X.w) A (call f [v]) (EP X pins σ fun y H'' => (∀ b o, H' b = some o → H'' b = some o) ∧ KeyV H'' y (key x)) (fun _ _ => False) s')
    (h : ∀ s' H', Inv X pins σ H' s' → (∀ c o, c ≠ kS → c ≠ a → H c = some o → H' c = some o) → H' a = some (.lst (xs.mergeSort (dataLe b key))) → P (.done (.ret .none)) s') :
    wpAny (model X.prog X.w) A (ksk_rest a f b vs.toArray e1 (.ref kS)) P E s := by
  have hxl : xs.length = vs.length := rv.length
  have hka : a ≠ kS := fun z => by rw [z, hk] at ha; cases ha
  unfold ksk_rest
  refine wpAny_bind (wpAny_rule ?_)
  first
    | rw [List.forIn_toArray]
    | (rw [← Array.forIn_toList]; simp only [List.toList_toArray])
    | rw [← Array.forIn_toList]
  refine wpAny_bind (ksk_fold (fun i s' => ∃ (H' : Hp) (kvs : List V), Inv X pins σ H' s' ∧ (∀ b o, b ≠ kS → H b = some o → H' b = some o) ∧ H' kS = some (.lst kvs) ∧ EachV H' kvs ((xs.map key).take i)) vs 0 s
    ⟨H, [], I, fun _ _ _ e => e, hk, by rw [List.take_zero]; exact .nil⟩ ?step ?done)
  case step =>
    rintro j v s' hx ⟨H', kvs, I', kp, hk', hE⟩
    simp only [Nat.zero_add] at hE ⊢
    have hj : j < vs.length := (List.getElem?_eq_some_iff.mp hx).1
    obtain ⟨x, hxj⟩ : ∃ x, xs[j]? = some x := ⟨_, List.getElem?_eq_getElem (by omega)⟩
    obtain ⟨v', hv', rx⟩ := rv.get hxj
    rw [hx] at hv'; cases hv'
    have hkl := hE.length
    rw [List.length_take, List.length_map] at hkl
    refine wpAny_bind (wpAny_attempt (wpAny_mono (turn x (List.mem_of_getElem? hxj) v H' s' rx I' kp) (fun u s'' he => ?_) fun _ _ hF => hF.elim))
    obtain ⟨y, H'', I'', ry, kp2, hy⟩ := he
    try dsimp only
    have hk2 := kp2 _ _ hk'
    obtain ⟨zk, kits, nk, rk, lk, ek⟩ := I''.lstM hk2
    have I3 := I''.lset (its' := kits ++ [u]) (f := (·.push u)) (t' := s''.toks) hk2 ek (by simp) (rk.append (.cons ry .nil)) (by rw [List.length_append, List.length_singleton]; omega)
    refine wpAny_bind (listUpdate_at ek rfl ?_ (by rw [List.size_toArray, ← lk]; exact zk) (by rw [Array.size_push, List.size_toArray, ← lk]; omega))
    have ek2 : (xs.map key).take (j + 1) = (xs.map key).take j ++ [key x] := by rw [List.take_add_one, List.getElem?_map, hxj]; rfl
    have tk : ∀ t zs, H'' t = some (.tup zs) → upd H'' kS (.lst (kvs ++ [y])) t = some (.tup zs) := fun t zs e => by
      rw [upd_ne (fun z => by rw [z, hk2] at e; cases e)]; exact e
    refine wpAny_pure ⟨rfl, _, kvs ++ [y], I3, fun b o nb e => by rw [upd_ne nb]; exact kp2 _ _ (kp _ _ nb e), upd_same, ?_⟩
    rw [ek2]
    exact ((hE.mono fun t zs e => kp2 _ _ e).mono tk).snoc (hy.mono tk)
  case done =>
    rintro s' ⟨H', kvs, I', kp, hk', hE⟩
    have e3 : (xs.map key).take (0 + vs.length) = xs.map key := List.take_of_length_le (by rw [List.length_map]; omega)
    rw [e3] at hE
    obtain ⟨zk, kits, nk, rk, lk, ek⟩ := I'.lstM hk'
    have hkl := hE.length
    rw [List.length_map] at hkl
    have hR := eachV_reads I' hE rk
    try dsimp only
    refine wpAny_bind (listItems_at ek rfl ?_)
    have ha' := kp _ _ hka ha
    have hKO : KeyedOut b (xs.map key) vs (sortVals (dataKind s'.heap (xs.map key)) b kits vs) := ⟨s'.heap, kits, hal, rfl, hR⟩
    have hv : Vals (xs.mergeSort (dataLe b key)) (sortVals (dataKind s'.heap (xs.map key)) b kits vs) := each_vals (keyedOut_each key hKO (vals_each rv))
    refine key_endI (κ := dataKind s'.heap (xs.map key)) (keys := kits.toArray) I' hk' ha' hn (SortsAt.data hR hal hsk hu) (by rw [List.size_toArray]; omega) (Nat.le_of_lt hZ) hv fun s2 I2 => h s2 _ I2 (fun c o n1 n2 e => ?_) upd_same
    rw [upd_ne n2, upd_ne n1]
    exact kp _ _ n1 e
theorem key_treeI {f : Value} {xs : List V} {key : V → PyData} {n : Nat} (I : Inv X pins σ H s) (ha : H a = some (.lst xs)) (ho : s.heap.get? a = some (seqObj "list" vs.toArray n))
    (rv : Vals xs vs) (hZ : vs.length < sizeLine) (hal : AllAlike (xs.map key)) (hsk : Sortable (xs.map key)) (hu : ∀ d, d ∈ xs.map key → A.units + d.depth < cLine)
    (turn : ∀ x ∈ xs, ∀ (v : Value) (H' : Hp) (s' : Shared), RelV x v → Inv X pins σ H' s' → (∀ b o, b ≠ a → H b = some o → H' b = some o) →
      wpAny (model X.prog X.w) A (call f [v]) (EP X pins σ fun y H'' => (∀ b o, H' b = some o → H'' b = some o) ∧ KeyV H'' y (key x)) (fun _ _ => False) s')
    (h : ∀ s' H', Inv X pins σ H' s' → (∀ c o, c ≠ a → H c = some o → H' c = some o) → H' a = some (.lst (xs.mergeSort (dataLe b key))) → P (.done (.ret .none)) s') :
    wpAny (model X.prog X.w) A (ksk_tree a f b) P E s := by
  have I1 : Inv X pins σ (upd H a (.lst [])) { s with heap := s.heap.update a (Obj.mapSeq fun _ => #[]), toks := s.toks } := I.lset (its' := []) (f := fun _ => #[]) ha ho rfl .nil (Nat.zero_le _)
  obtain ⟨e1, ho1⟩ : ∃ e1, (s.heap.update a (Obj.mapSeq fun _ => (#[] : Array Value))).get? a = some (seqObj "list" #[] e1) := ⟨_, get?_update_seq ho fun _ => #[]⟩
  unfold ksk_tree
  refine wpAny_bind (listItems_at ho rfl ?_)
  refine wpAny_bind (listUpdate_at ho rfl ?_ (by rw [List.size_toArray]; exact Nat.le_of_lt hZ) (Nat.zero_le _))
  refine wpAny_bind (seqEpoch_at ho1 rfl ?_)
  refine wpAny_bind (wpAny_newTuple ?_ (by show vs.length ≤ _; exact Nat.le_of_lt hZ))
  refine wpAny_bind (wpAny_newList ?_ (Nat.zero_le _))
  refine wpAny_holding ?_
  have hn1 := I1.nofrz (d := a) (u := .lst []) upd_same trivial
  obtain ⟨od, I2⟩ := I1.lock (d := a) (u := .lst []) upd_same trivial
  rw [upd_upd] at I2
  have eod : od = seqObj "list" #[] e1 := by
    have q := (I2.hok a _ upd_same).1
    have q : (s.heap.update a (Obj.mapSeq fun _ => (#[] : Array Value))).get? a = some od := q
    rw [ho1] at q
    exact (Option.some.inj q).symm
  rw [eod] at I2
  have I3 := I2.kept (t' := s.toks) (h' := (s.heap.update a (Obj.mapSeq fun _ => (#[] : Array Value))).push { cls := .type "tuple", data := .seq vs.toArray }) fun b u e => Heap.get?_push_of_some _ e
  have I4 := I3.laid (t' := s.toks) (a := ((s.heap.update a (Obj.mapSeq fun _ => (#[] : Array Value))).push { cls := .type "tuple", data := .seq vs.toArray }).objs.size) (o := .lst []) (h' := ((s.heap.update a (Obj.mapSeq fun _ => (#[] : Array Value))).push { cls := .type "tuple", data := .seq vs.toArray }).push (seqObj "list" #[] 0)) (fun b u e => Heap.get?_push_of_some _ e) (Nat.le_refl _) ⟨Nat.zero_le _, [], 0, .nil, Heap.get?_push_size _ rfl⟩
  have hfr := I3.hok.fresh (a := ((s.heap.update a (Obj.mapSeq fun _ => (#[] : Array Value))).push { cls := .type "tuple", data := .seq vs.toArray }).objs.size) (Nat.le_refl _)
  generalize ((s.heap.update a (Obj.mapSeq fun _ => (#[] : Array Value))).push { cls := .type "tuple", data := .seq vs.toArray }).objs.size = kS at I4 hfr
  have hka : a ≠ kS := fun z => by rw [← z, upd_same] at hfr; cases hfr
  have nH : ∀ b o, b ≠ a → H b = some o → b ≠ kS := fun b o nb e z => by
    rw [← z, upd_ne nb, e] at hfr; cases hfr
  refine key_restI (kS := kS) (key := key) I4 upd_same (by rw [upd_ne hka, upd_same]) hn1 rv hZ hal hsk hu (fun x hx v H' s' rx I' kp => turn x hx v H' s' rx I' fun b o nb e => kp b o (nH b o nb e) (by rw [upd_ne (nH b o nb e), upd_ne nb]; exact e)) fun s' H' I' kp e => h s' H' I' (fun c o nc e' => kp c o (nH c o nc e') nc (by rw [upd_ne (nH c o nc e'), upd_ne nc]; exact e')) e
end
/-- sorted(xs, key=f) -/
def rSortKey (P : Program) (w : World) (K : PySem.W.Frag) (mg : Str → Option Value) (base : Heap) (k : Nat) : List V → List V → Hp → VK → Prop := fun vs zs H Q => ∃ (l f : Addr) (xs : List V) (sp : Sp) (key : V → PyData), vs = [.ref l] ∧ zs = [.ref f] ∧ SqL K H l xs ∧ xs.length ≤ 100000 ∧ Act P w K mg base k f sp ∧
  ((∀ x ∈ xs, ∃ n, key x = .int n) ∨ ∀ x ∈ xs, ∃ i j, key x = .tuple [.int i, .int j]) ∧
  (∀ x ∈ xs, ∀ (H' : Hp) (Q' : VK), Same H H' → (∀ y H'', Same H' H'' → KeyV H'' y (key x) → Q' y H'') → sp [x] H' Q' fun _ _ _ => False) ∧
  ∀ p H', Same H H' → H p = none → H' p = some (.lst (xs.mergeSort (dataLe false key))) → Q (.ref p) H'
theorem cr_sortKey {X : Cx} {P : Program} {w : World} {K : PySem.W.Frag} {mg : Str → Option Value} {base : Heap} {k : Nat} (hP : X.prog = P) (hw : X.w = w) (hK : X.K = K) (hmg : X.mg = mg) (hb : X.base = base) (hr : Room (k + 2) X.A) (hu : X.A.units + 64 < cLine) :
    CallRK X (.builtin "sorted") [Str.ofString "key"] (rSortKey P w K mg base k) := by
  subst hP hw hK hmg hb
  intro pins s σ H vs zs us ws Q I rv rz h
  obtain ⟨l, f, xs, sp, key, rfl, rfl, hs, hz, ac, hkey, hsp, q⟩ := h
  rw [Vals.ref1 rv, Vals.ref1 rz]
  obtain ⟨its, rx, hl, _⟩ := I.list hs
  have hlen := rx.length
  have hZ : its.length < sizeLine := by rw [← hlen]; exact Nat.lt_of_le_of_lt hz (by decide)
  have hal : AllAlike (xs.map key) := by
    intro d hd d' hd'
    obtain ⟨x, hx, rfl⟩ := List.mem_map.mp hd
    obtain ⟨x', hx', rfl⟩ := List.mem_map.mp hd'
    rcases hkey with hkey | hkey
    · obtain ⟨n, e⟩ := hkey x hx
      obtain ⟨n', e'⟩ := hkey x' hx'
      rw [e, e']; rfl
    · obtain ⟨i, j, e⟩ := hkey x hx
      obtain ⟨i', j', e'⟩ := hkey x' hx'
      rw [e, e']; rfl
  have hsk : PySem.W.Sortable (xs.map key) := by
    rcases hkey with hkey | hkey
    · refine .inr fun d hd => ?_
      obtain ⟨x, hx, rfl⟩ := List.mem_map.mp hd
      obtain ⟨n, e⟩ := hkey x hx
      rw [e]
      exact ⟨(fun z => by cases z), fun xs z => by cases z⟩
    · refine .inl fun d hd => ?_
      obtain ⟨x, hx, rfl⟩ := List.mem_map.mp hd
      obtain ⟨i, j, e⟩ := hkey x hx
      exact ⟨_, _, e⟩
  have hdp : ∀ d, d ∈ xs.map key → X.A.in1.in1.units + d.depth < cLine := fun d hd => by
    obtain ⟨x, hx, rfl⟩ := List.mem_map.mp hd
    show X.A.units + 1 + 1 + _ < _
    rcases hkey with hkey | hkey
    · obtain ⟨n, e⟩ := hkey x hx
      rw [e]; simp only [PyData.depth]; omega
    · obtain ⟨i, j, e⟩ := hkey x hx
      rw [e]; simp only [PyData.depth, PyData.depthAll]; omega
  refine sorted_of_sort hl.isList (Nat.le_of_lt hZ) (ksk_s1 _ _) (fun x => ksk_l1 _ _) fun E' => ?_
  show wpAny _ _ (Builtin.«list.sort» ⟨[.ref (s.heap.objs.size + 1)], [(Str.ofString "key", .ref f)]⟩) _ _ _
  rw [ksk_t1]
  have hfr : H (s.heap.objs.size + 1) = none := I.hok.fresh (Nat.le_succ _)
  have I1 : Inv X pins σ (upd H (s.heap.objs.size + 1) (.lst xs)) { s with heap := copyHeap s.heap its, toks := s.toks } := I.laid (fun _ _ => copyHeap_old) (Nat.le_succ _) ⟨by rw [hlen]; exact Nat.le_of_lt hZ, its, 0, rx, copyHeap_at s.heap its⟩
  refine key_treeI (key := key) I1 upd_same (copyHeap_at s.heap its) rx hZ hal hsk hdp (fun x hx v H' s' rxv I' kp => ?_) fun s' H' I' kp e => ⟨rfl, .ref _, H', I', rfl, q _ H' (fun b o e' => kp b o (ne_of_none e' hfr) (by rw [upd_ne (ne_of_none e' hfr)]; exact e')) hfr e⟩
  have sm : Same H H' := fun b o e' => kp b o (ne_of_none e' hfr) (by rw [upd_ne (ne_of_none e' hfr)]; exact e')
  obtain ⟨_, c⟩ := ac X.A.in1.in1 X.stack s' H' [v] [x] (fun y H'' => (∀ b o, H' b = some o → H'' b = some o) ∧ KeyV H'' y (key x)) (fun _ _ _ => False) hr.in1.in1 I'.env0.in1.in1 (.cons rxv .nil) (hsp x hx H' _ sm fun y H'' s'' hy => ⟨s'', hy⟩)
  refine wpAny_call (codeAny_mono c fun r s2 hq => ?_)
  cases r with
  | error e =>
    obtain ⟨_, _, _, _, _, _, _, _, _, _, _, _, hE⟩ := hq
    exact hE.elim
  | ok fl =>
    cases fl with
    | ret u => exact I'.after hq
    | next => exact False.elim hq
    | brk => exact False.elim hq
    | cont => exact False.elim hq
end Hk

set_option Elab.async false
set_option linter.all false
set_option maxRecDepth 100000
/-! sorted(d), sorted(list of texts), dict(pairs), with K told -/
namespace Hk
open PySem PySem.Spec PyProof.Rows L2
def rSortedD : List V → Hp → VK → Prop := fun xs H Q => ∃ (a : Addr) (kvs : List (Key × V)) (ks : List Str), xs = [.ref a] ∧ Rd H a (.dK kvs) ∧ kvs.map (·.1) = ks.map Sum.inr ∧ ks.length < 64 ∧
    ∀ ys p, ys.Perm ks → sortedS ys = true → H p = none → Q (.ref p) (upd H p (.lst (ys.map V.str)))
theorem cr_sortedD {X : Cx} (hc : X.calm = true) : CallR X (.builtin "sorted") rSortedD := call_sortedD hc
theorem cr_sortedSK {X : Cx} {K : PySem.W.Frag} (hK : X.K = K) : CallR X (.builtin "sorted") (rSortedS K) := by
  subst hK
  exact cr_sortedS
theorem cr_dictP {X : Cx} {K : PySem.W.Frag} (hK : X.K = K) (hc : X.calm = true) : CallR X (.type "dict") (fun xs H Q => ∃ (a : Addr) (ps : List Addr) (kvs : List (Key × V)), xs = [.ref a] ∧ SqL K H a (ps.map V.ref) ∧ Paired (fun p kv => SqT K H p [kV kv.1, kv.2]) ps kvs ∧
  ∀ p, H p = none → Q (.ref p) (upd H p (.dK (mergeK [] kvs)))) := by
  subst hK
  exact call_dictP hc
end Hk

set_option Elab.async false
set_option linter.all false
set_option maxRecDepth 100000
set_option maxHeartbeats 4000000
/-! Methods: calls that are told of the live frame's cells; code that is not reached. -/
namespace Hk
open PySem PySem.Spec PyProof.Rows L2
/-- code that is not reached -/
theorem ps_false {X : Cx} {st : Stmt} : PS X st (fun _ _ _ => False) := ⟨fun pins s σ H D I h => h.elim⟩
theorem pe_false {X : Cx} {e : Expr} : PE X e (fun _ _ _ => False) := ⟨fun pins s σ H Q I h => h.elim⟩
/-- o.m(..), told of the live frame's cells -/
def tMethX (C : Addr) (m : Str) (cm : List (Str × Addr)) (sc : Scope) (N : List Str) (sp : Sp) (dvs : List V) (E : XK) (ta : TE) (t : TA) : TE := fun σ H Q => ta σ H fun x H1 => ∃ a dx fs, x = .ref a ∧ H1 a = some (.ins C dx fs) ∧ fs.lookup m = none ∧
  t σ H1 fun vs H2 => CEnv cm sc N H2 → ∀ obs, sp (.ref a :: vs ++ dvs) (exC cm sc N σ obs H2) (fun v H' => Q v (delC cm H')) (fun cls d H' => E cls d (delC cm H'))
section
variable {X : Cx} {k : Nat} {C f : Addr} {m : Str} {fd : FuncData} {ps : List Str} {ds : List Value} {dvs : List V} {sp : Sp} {E : XK} {apos pos : Pos} {o e : Expr} {es : List Expr} {ta : TE} {t : TA}
theorem pe_methX {pl : Sem Bool} (he : PE X o ta) (c : Cls X.K C) (hm : Meth X.K C m f) (F : FnOk X.prog X.w X.K X.mg X.base (L2.CX X.prog X.w) k f fd ps sp) (hr : Room k X.A) (hb : Binds X.K fd ps ds) (hd : Vals dvs ds) (hx : Passes (L2.CX X.prog X.w) X E) (nd : X.N.Nodup) (hfn : ∀ y c, X.env.cells.lookup y = some c → X.fn y = true) (ha : PA X (e :: es) t)
    (hst : starEach (e :: es) X.env = (false, eval e X.env) :: starEach es X.env := by rfl) (hpl : (backTo pos (starEach es X.env)).any (·.1) = false := by rfl)
    (ht : eval (.Call (.Attribute o m apos) (e :: es) [] pos) X.env = (do
      let ov ← eval o X.env
      standAt apos.atName
      let (f, first) ← holding [ov] (getMethod ov m pl)
      callWith pos f first (backTo pos (starEach (e :: es) X.env)) (backToKw pos (keywordEach [] X.env))) := by rfl) :
    PE X (.Call (.Attribute o m apos) (e :: es) [] pos) (tMethX C m X.env.cells X.env.scope X.N sp dvs E ta t) := by
  refine ⟨fun pins s σ H Q I h => ?_⟩
  refine PySem.W.methodCall_KW (pl := pl) (thn (he.run pins s σ H _ I h) fun u s1 ⟨x, H1, I1, rx, a, dx, fs, ex, ea, l, q⟩ => ?_) ht
  subst ex
  obtain rfl : u = Value.ref a := rx
  refine getmeth_ok I1 ea c hm l ?_
  refine PySem.W.callWith_K (first := [.ref a]) (h₀ := X.base) I.ok.mod.kin hm.kp (thn (ha.run pos pins s1 σ H1 _ I1 q) fun us s2 ⟨vs, H2, I2, r, q2⟩ => ⟨I2.kIn, ?_⟩) hst hpl
  refine wpAny_call (codeAny_mono (run_exp (Q := Q) (E := E) I2 nd hfn hx fun obs e0 => ?_) fun r s' hq => ?_)
  · have r2 : Vals (.ref a :: vs ++ dvs) (.ref a :: us ++ ds) := (L2.Vals.append (.cons rfl r) hd)
    have q3 := q2 (cenv_of I2 nd) obs
    have hl : (Value.ref a :: us ++ ds).length = ps.length := by rw [← r2.length]; exact F.len _ _ _ _ q3
    exact F.run X.A X.stack s2 _ ⟨.ref a :: us, []⟩ (.ref a :: us ++ ds) (.ref a :: vs ++ dvs) _ _ hr e0 (hb s2 (.ref a :: us) I2.kIn hl) r2 q3
  · cases r with
    | error e => exact hq
    | ok fl =>
      cases fl with
      | ret u => exact hq
      | next => exact False.elim hq
      | brk => exact False.elim hq
      | cont => exact False.elim hq
end
/-! ### methods and makers by their promises -/
structure MethG (P : Program) (w : World) (K : PySem.W.Frag) (mg : Str → Option Value) (base : Heap) (CX : CXT) (k : Nat) (C : Addr) (m : Str) (ps : List Str) (dvs : List V) (sp : Sp) : Prop where
  ex : ∃ f fd ds, Cls K C ∧ Meth K C m f ∧ FnOk P w K mg base CX k f fd ps sp ∧ Vals dvs ds ∧ Binds K fd ps ds
structure MakeG (P : Program) (w : World) (K : PySem.W.Frag) (mg : Str → Option Value) (base : Heap) (CX : CXT) (k : Nat) (C : Addr) (ps : List Str) (dvs : List V) (sp : Sp) : Prop where
  ex : ∃ f fd ds, Mk K C f ∧ FnOk P w K mg base CX k f fd ps sp ∧ Vals dvs ds ∧ Binds K fd ps ds
section
variable {X : Cx} {CX : CXT} {k : Nat} {C : Addr} {m x : Str} {ps : List Str} {dvs : List V} {sp : Sp} {E : XK} {apos pos p : Pos} {o e : Expr} {es : List Expr} {ta : TE} {t : TA}
theorem pe_methG {pl : Sem Bool} (he : PE X o ta) (G : MethG X.prog X.w X.K X.mg X.base CX k C m ps dvs sp) (hr : Room k X.A) (hx : Passes CX X E) (ha : PA X (e :: es) t)
    (hst : starEach (e :: es) X.env = (false, eval e X.env) :: starEach es X.env := by rfl) (hpl : (backTo pos (starEach es X.env)).any (·.1) = false := by rfl)
    (ht : eval (.Call (.Attribute o m apos) (e :: es) [] pos) X.env = (do
      let ov ← eval o X.env
      standAt apos.atName
      let (f, first) ← holding [ov] (getMethod ov m pl)
      callWith pos f first (backTo pos (starEach (e :: es) X.env)) (backToKw pos (keywordEach [] X.env))) := by rfl) :
    PE X (.Call (.Attribute o m apos) (e :: es) [] pos) (tMeth C m sp dvs E ta t) := by
  refine ⟨fun pins s σ H Q I h => ?_⟩
  obtain ⟨f, fd, ds, c, hm, F, vd, hb⟩ := G.ex
  exact (pe_meth he c hm F hr hb vd hx ha hst hpl ht).run pins s σ H Q I h
theorem pe_methG0 {pl : Sem Bool} (he : PE X o ta) (G : MethG X.prog X.w X.K X.mg X.base CX k C m ps dvs sp) (hr : Room k X.A) (hx : Passes CX X E)
    (ht : eval (.Call (.Attribute o m apos) [] [] pos) X.env = (do
      let ov ← eval o X.env
      standAt apos.atName
      let (f, first) ← holding [ov] (getMethod ov m pl)
      callWith pos f first (backTo pos (starEach [] X.env)) (backToKw pos (keywordEach [] X.env))) := by rfl) :
    PE X (.Call (.Attribute o m apos) [] [] pos) (tMeth C m sp dvs E ta tNil) := by
  refine ⟨fun pins s σ H Q I h => ?_⟩
  obtain ⟨f, fd, ds, c, hm, F, vd, hb⟩ := G.ex
  exact (pe_meth0 he c hm F hr hb vd hx ht).run pins s σ H Q I h
theorem pe_methXG {pl : Sem Bool} (he : PE X o ta) (G : MethG X.prog X.w X.K X.mg X.base (L2.CX X.prog X.w) k C m ps dvs sp) (hr : Room k X.A) (hx : Passes (L2.CX X.prog X.w) X E) (nd : X.N.Nodup) (hfn : ∀ y c, X.env.cells.lookup y = some c → X.fn y = true) (ha : PA X (e :: es) t)
    (hst : starEach (e :: es) X.env = (false, eval e X.env) :: starEach es X.env := by rfl) (hpl : (backTo pos (starEach es X.env)).any (·.1) = false := by rfl)
    (ht : eval (.Call (.Attribute o m apos) (e :: es) [] pos) X.env = (do
      let ov ← eval o X.env
      standAt apos.atName
      let (f, first) ← holding [ov] (getMethod ov m pl)
      callWith pos f first (backTo pos (starEach (e :: es) X.env)) (backToKw pos (keywordEach [] X.env))) := by rfl) :
    PE X (.Call (.Attribute o m apos) (e :: es) [] pos) (tMethX C m X.env.cells X.env.scope X.N sp dvs E ta t) := by
  refine ⟨fun pins s σ H Q I h => ?_⟩
  obtain ⟨f, fd, ds, c, hm, F, vd, hb⟩ := G.ex
  exact (pe_methX he c hm F hr hb vd hx nd hfn ha hst hpl ht).run pins s σ H Q I h
theorem pe_makeG (G : MakeG X.prog X.w X.K X.mg X.base CX k C ps dvs sp) (hr : Room (k + 1) X.A) (hg : Gl X x) (hm : X.mg x = some (.ref C)) (hx : Passes CX X E) (ha : PA X (e :: es) t) (hdb : (x == ("__debug__" : Str)) = false := by decide)
    (he : starEach (e :: es) X.env = (false, eval e X.env) :: starEach es X.env := by rfl) (hpl : (backTo pos (starEach es X.env)).any (·.1) = false := by rfl) : PE X (.Call (.Name x p) (e :: es) [] pos) (tMake C sp dvs E t) := by
  refine ⟨fun pins s σ H Q I h => ?_⟩
  obtain ⟨f, fd, ds, M, F, vd, hb⟩ := G.ex
  exact (pe_make M F hr hg hm hb vd hx ha hdb he hpl).run pins s σ H Q I h
theorem pe_makeG0 (G : MakeG X.prog X.w X.K X.mg X.base CX k C ps dvs sp) (hr : Room (k + 1) X.A) (hg : Gl X x) (hm : X.mg x = some (.ref C)) (hx : Passes CX X E) (hdb : (x == ("__debug__" : Str)) = false := by decide) :
    PE X (.Call (.Name x p) [] [] pos) (tMake C sp dvs E tNil) := by
  refine ⟨fun pins s σ H Q I h => ?_⟩
  obtain ⟨f, fd, ds, M, F, vd, hb⟩ := G.ex
  exact (pe_make0 M F hr hg hm hb vd hx hdb).run pins s σ H Q I h
end
/-! ### fields of an instance of a class that is known -/
def tFldC (C : Addr) (ta : TE) (f : Str) : TE := fun σ H Q => ta σ H fun x H1 => ∃ a dx fs v, x = .ref a ∧ H1 a = some (.ins C dx fs) ∧ fs.lookup f = some v ∧ Q v H1
def sFldC (C : Addr) (ta tv : TE) (f : Str) : TS := fun D σ H => tv σ H fun y H1 => ta σ H1 fun x H2 => ∃ a dx fs, x = .ref a ∧ H2 a = some (.ins C dx fs) ∧ fs.length < 1000 ∧ D.nx σ (upd H2 a (.ins C dx (putF f y fs)))
def sFldAugC (C : Addr) (ta tv : TE) (rd : V → V → Hp → VK → Prop) (f : Str) : TS := fun D σ H => ta σ H fun x H1 => ∃ a dx fs v, x = .ref a ∧ H1 a = some (.ins C dx fs) ∧ fs.lookup f = some v ∧
  tv σ H1 fun y H2 => rd v y H2 fun z H3 => ∃ dx' fs', H3 a = some (.ins C dx' fs') ∧ fs'.length < 1000 ∧ D.nx σ (upd H3 a (.ins C dx' (putF f z fs')))
section
variable {X : Cx} {K : PySem.W.Frag} {C : Addr} {o e value : Expr} {f : Str} {pos pos' tpos : Pos} {ta tv : TE}
theorem pe_fldC (hK : X.K = K) (he : PE X e ta) (c : Cls K C) (n : NoAttr K C f) (hb : attributeBase e f X.env (eval e X.env) = eval e X.env := by rfl) : PE X (.Attribute e f pos) (tFldC C ta f) := by
  subst hK
  refine ⟨fun pins s σ H Q I h => ?_⟩
  refine attr_of hb (thn (he.run pins s σ H _ I h) fun u s1 ⟨x, H1, I1, rx, a, dx, fs, v, ex, ea, l, q⟩ => ?_)
  subst ex
  obtain rfl : u = Value.ref a := rx
  exact getattr_ok I1 ea c n l fun u' s2 I2 ru => ⟨v, H1, I2, ru, q⟩
theorem ps_fldC (hK : X.K = K) (ha : PE X o ta) (hv : PE X value tv) (c : Cls K C) (n : NoAttr K C f) (hs : swapsWith value (some (.Attribute o f pos')) pos.line X.env = pure false := by rfl) : PS X (.Assign [.Attribute o f pos'] value pos) (sFldC C ta tv f) := by
  subst hK
  refine ⟨fun pins s σ H D I h => ?_⟩
  refine plainObj_wpAny_Assign_Attribute (thn (hv.run pins s σ H _ I h) fun u s1 ⟨y, H1, I1, ry, q⟩ => thn (ha.run pins s1 σ H1 _ I1 q) fun ov s2 ⟨x, H2, I2, rx, a, dx, fs, ex, ea, l, q2⟩ => ?_) hs
  subst ex
  obtain rfl : ov = Value.ref a := rx
  exact setattr_ok I2 ea c n l ry fun s3 I3 => ⟨σ, _, I3, q2⟩
theorem ps_fldaugC {op : Operator} {rd : V → V → Hp → VK → Prop} (hK : X.K = K) (ha : PE X o ta) (hv : PE X value tv) (c : Cls K C) (n : NoAttr K C f) (hop : InOp X op rd) : PS X (.AugAssign (.Attribute o f tpos) op value pos) (sFldAugC C ta tv rd f) := by
  subst hK
  refine ⟨fun pins s σ H D I h => ?_⟩
  refine wpAny_AugAssign_AttributeAny (thn (ha.run pins s σ H _ I h) fun ov s1 ⟨x, H1, I1, rx, a, dx, fs, v, ex, ea, l, q⟩ => ?_)
  subst ex
  obtain rfl : ov = Value.ref a := rx
  refine getattr_ok I1 ea c n l fun u s2 I2 ru => thn (hv.run pins s2 σ H1 _ I2 q) fun w3 s3 ⟨y, H2, I3, ry, q3⟩ => thn (hop pins s3 σ H2 v y u w3 _ I3 ru ry q3) fun w4 s4 ⟨z, H3, I4, rz, dx', fs', ea', l', q4⟩ => ?_
  exact setattr_ok I4 ea' c n l' rz fun s5 I5 => ⟨σ, _, I5, q4⟩
end
/-- o.f = .., among the targets of an assignment -/
def gFldC (C : Addr) (ta : TE) (f : Str) : TG := fun v σ H Q => ta σ H fun x H2 => ∃ a dx fs, x = .ref a ∧ H2 a = some (.ins C dx fs) ∧ fs.length < 1000 ∧ Q σ (upd H2 a (.ins C dx (putF f v fs)))
theorem pg_fldC {X : Cx} {K : PySem.W.Frag} {C : Addr} {o : Expr} {f : Str} {pos : Pos} {ta : TE} (hK : X.K = K) (ho : PE X o ta) (c : Cls K C) (n : NoAttr K C f) : PG X (.Attribute o f pos) (gFldC C ta f) := by
  subst hK
  refine ⟨fun pins s σ H v u Q I r h => ?_⟩
  rw [PySem.assign_Attribute]
  refine wpAny_bind (wpAny_holding (thn (ho.run pins s σ H _ I h) fun ov s1 ⟨x, H1, I1, rx, a, dx, fs, ex, ea, l, q⟩ => ?_))
  subst ex
  obtain rfl : ov = Value.ref a := rx
  refine wpAny_bind (wpAny_standAt (wpAny_bind (wpAny_holding (setattr_ok I1 ea c n l r fun s3 I3 => ?_))))
  exact wpAny_release ⟨σ, _, I3, q⟩
/-! ### a tuple of texts among the globals -/
def strsB : List Value → List Str → Bool
  | [], [] => true
  | .str z _ :: r, y :: q => decide (z = y) && strsB r q
  | _, _ => false
def tupB (K : PySem.W.Frag) (x : Str) (zs : List Str) : Bool := match K.lookup (He.ga K x) with
  | some o => decide (o.cls = .type "tuple") && (match o.data with | .seq its n => decide (its.size ≤ 100) && strsB its.toList zs | _ => false)
  | none => false
theorem strsB_ok : ∀ {us : List Value} {zs : List Str}, strsB us zs = true → Vals (zs.map V.str) us
  | [], [], _ => .nil
  | .str z t :: r, y :: q, h => by
    unfold strsB at h
    obtain ⟨h1, h2⟩ := Bool.and_eq_true_iff.mp h
    rw [of_decide_eq_true h1]
    exact .cons ⟨t, rfl⟩ (strsB_ok h2)
theorem tupB_ok {K : PySem.W.Frag} {x : Str} {zs : List Str} (h : tupB K x zs = true) (H : Hp) : SqT K H (He.ga K x) (zs.map V.str) := by
  unfold tupB at h
  cases e : K.lookup (He.ga K x) with
  | none => rw [e] at h; cases h
  | some o =>
    rw [e] at h
    obtain ⟨h1, h2⟩ := Bool.and_eq_true_iff.mp h
    cases e2 : o.data with
    | seq its n =>
      rw [e2] at h2
      obtain ⟨h3, h4⟩ := Bool.and_eq_true_iff.mp h2
      exact .inr ⟨o, its, n, e, of_decide_eq_true h1, e2, small (Nat.le_trans (of_decide_eq_true h3) (by decide)), strsB_ok h4⟩
    | _ => rw [e2] at h2; cases h2
end Hk

set_option Elab.async false
set_option linter.all false
set_option maxRecDepth 100000
set_option maxHeartbeats 4000000
/-! A nested def whose body calls what may call it again: its captured cells are shown to the callee. -/
namespace Hk
open PySem PySem.Spec PySem.Calls PyProof.Rows L2 LamX NdefX
/-- the cells stand outside of the module's heap and of the frames -/
def CellsOut (base : Heap) (outer : List Env) (cl : List (Str × Addr)) : Prop := ∀ a, InC cl a → base.get? a = none ∧ a ∉ frs outer
structure NOkE (P : Program) (w : World) (K : PySem.W.Frag) (mg : Str → Option Value) (base : Heap) (k : Nat) (f : Addr) (F : NF) (ps fr : List Str) (sp : List (Option V) → Sp) : Prop where
  len : ∀ ws vs H Q E, sp ws vs H Q E → vs.length = ps.length
  run : ∀ (A : Around) (outer : List Env) (s : Shared) (H : Hp) (us : List Value) (vs : List V) (ws : List (Option V)) (Q : VK) (E : XK), Room k A → Env0 P w K mg base A outer s H → H f = some (FnO f F) → H F.c = some (CodeO F.c F.qual) → CellsOut base outer F.cl →
    CellsAt F.cl fr ws s.heap H → Vals vs us → sp ws vs H Q E → codeAny (model P w) A (.call (.ref f) ⟨us, []⟩) (CR (L2.CX P w) outer P w H s Q E) s
section
variable {P : Program} {w : World} {K : PySem.W.Frag} {mg : Str → Option Value} {base : Heap} {N ps fr : List Str} {F : NF} {f : Addr} {k j : Nat} {sp : List (Option V) → Sp}
/-- by its body -/
theorem nok_ofE (S : NScope N ps fr F.scope) (hb : ∀ (doc pm ctv : Value) (us : List Value), us.length = ps.length → bindArgs (F.fd doc pm ctv) ⟨us, []⟩ = pure (ps.zip us)) (len : ∀ ws vs H Q E, sp ws vs H Q E → vs.length = ps.length)
    (body : ∀ (A : Around) (outer : List Env) (s : Shared) (H : Hp) (vs : List V) (ws : List (Option V)) (Q : VK) (E : XK), Room k (A.deeper (envF F f s.heap.objs.size)) → H f = some (FnO f F) → H F.c = some (CodeO F.c F.qual) → CellsOut base outer F.cl → (∀ a, InC F.cl a → H a = none) → ws.length = fr.length → sp ws vs H Q E →
      ∃ t, PSs (ncx (L2.CX P w) P w K mg base N F f A outer s H E) F.body t ∧ t { nx := fun _ H2 => Q .non H2, rt := Q } (startF N vs ws) H) :
    NOkE P w K mg base (k + 1) f F ps fr sp := by
  refine ⟨len, fun A outer s H us vs ws Q E hr e0 hf hc ho C rv h => ?_⟩
  have el := len _ _ _ _ _ h
  have nolim : s.heap.NoLimit := e0.mod.nolimit.keeps fun b o z => (e0.bs b o z).1
  obtain ⟨od, sl, doc, pm, ctv, at_⟩ := fnO_at e0.hok hf
  refine codeAny_call_function hr.depth at_ rfl S.co S.gen rfl (codeO_at e0.hok hc) ?_
  rw [hb doc pm ctv us (rv.length ▸ el)]
  refine wpAny_pure (wpAny_newFunctionEnv S.nocell (fun ⟨y, _⟩ hy => S.par y (List.of_mem_zip hy).1) (fun g hns hsb => ⟨nolim.fresh _ hsb, ?_⟩) S.kind)
  show codeAny _ _ (.func F.body (envF F f s.heap.objs.size)) _ _
  have kp : ∀ b o, s.heap.get? b = some o → g.get? b = some o := fun b o z => hsb.extBut b o (Nat.ne_of_lt (Heap.lt_size z)) (Heap.get?_push_of_some _ z)
  obtain ⟨t, ht, hq⟩ := body A outer s H vs ws Q E (hr.deeper _) hf hc ho (fun a ⟨y, z⟩ => (C.all y a z).1) C.len h
  have I : Inv (ncx (L2.CX P w) P w K mg base N F f A outer s H E) [] (startF N vs ws) H { s with heap := g, toks := s.toks + (ps.zip us).length } := inv_startN S hr.hd e0 el rv C hns kp
  refine codeAny_func (wpAny_mono (ht.run [] _ (startF N vs ws) H _ I hq) (fun fl s2 hs => ?_) fun e s2 hs => hs)
  cases fl with
  | ret u =>
    obtain ⟨v, σ2, H2, J, r2, q⟩ := hs
    exact ⟨v, H2, J.os, J.bare, J.base, J.hok, r2, q⟩
  | next =>
    obtain ⟨σ2, H2, J, q⟩ := hs
    exact ⟨V.non, H2, J.os, J.bare, J.base, J.hok, rfl, q⟩
  | brk => exact hs.elim fun _ z => z.elim fun _ y => y.2.elim
  | cont => exact hs.elim fun _ z => z.elim fun _ y => y.2.elim
theorem act_cloE (O : NOkE P w K mg base k f F ps fr sp) : Act P w K mg base k f (spClo f F fr sp) := fun A outer s H us vs Q E hr e0 r h => by
  obtain ⟨ws, hf, hc, C, q⟩ := h
  obtain ⟨od, sl, doc, pm, ctv, ho⟩ := fnO_at e0.hok hf
  have out : CellsOut base outer F.cl := fun a z => by
    obtain ⟨v, ob, e⟩ := C.tr z
    refine ⟨?_, fun hb => by rw [e0.frf a hb] at e; cases e⟩
    cases y : base.get? a with
    | none => rfl
    | some o => rw [(e0.bs a o y).2] at e; cases e
  refine ⟨⟨_, od, _, sl, ho⟩, capsRun C e0 fun e1 C1 => ?_⟩
  exact O.run A outer s (delC F.cl H) us vs (ws.map some) _ _ hr e1 (C.del hf fnO_nf) (C.del hc codeO_nf) out C1 r q
end
section
variable {X : Cx} {k : Nat} {C : Addr} {m : Str} {ps : List Str} {dvs : List V} {sp : Sp} {E : XK} {apos pos : Pos} {o e : Expr} {es : List Expr} {ta : TE} {t : TA}
/-- o.m(..), the callee told of the frame's cells, captured or its own -/
theorem pe_methXO {pl : Sem Bool} (he : PE X o ta) (G : MethG X.prog X.w X.K X.mg X.base (L2.CX X.prog X.w) k C m ps dvs sp) (hr : Room k X.A) (hx : Passes (L2.CX X.prog X.w) X E) (nd : X.N.Nodup) (hout : ∀ a, InC X.env.cells a → X.base.get? a = none ∧ a ∉ X.fs) (ha : PA X (e :: es) t)
    (hst : starEach (e :: es) X.env = (false, eval e X.env) :: starEach es X.env := by rfl) (hpl : (backTo pos (starEach es X.env)).any (·.1) = false := by rfl)
    (ht : eval (.Call (.Attribute o m apos) (e :: es) [] pos) X.env = (do
      let ov ← eval o X.env
      standAt apos.atName
      let (f, first) ← holding [ov] (getMethod ov m pl)
      callWith pos f first (backTo pos (starEach (e :: es) X.env)) (backToKw pos (keywordEach [] X.env))) := by rfl) :
    PE X (.Call (.Attribute o m apos) (e :: es) [] pos) (tMethX C m X.env.cells X.env.scope X.N sp dvs E ta t) := by
  refine ⟨fun pins s σ H Q I h => ?_⟩
  obtain ⟨f, fd, ds, c, hm, F, vd, hb⟩ := G.ex
  refine PySem.W.methodCall_KW (pl := pl) (thn (he.run pins s σ H _ I h) fun u s1 ⟨x, H1, I1, rx, a, dx, fs, ex, ea, l, q⟩ => ?_) ht
  subst ex
  obtain rfl : u = Value.ref a := rx
  refine getmeth_ok I1 ea c hm l ?_
  refine PySem.W.callWith_K (first := [.ref a]) (h₀ := X.base) I.ok.mod.kin hm.kp (thn (ha.run pos pins s1 σ H1 _ I1 q) fun us s2 ⟨vs, H2, I2, r, q2⟩ => ⟨I2.kIn, ?_⟩) hst hpl
  refine wpAny_call (codeAny_mono (run_expO (Q := Q) (E := E) I2 nd hout hx fun obs e0 => ?_) fun r s' hq => ?_)
  · have r2 : Vals (.ref a :: vs ++ dvs) (.ref a :: us ++ ds) := (L2.Vals.append (.cons rfl r) vd)
    have q3 := q2 (cenv_of I2 nd) obs
    have hl : (Value.ref a :: us ++ ds).length = ps.length := by rw [← r2.length]; exact F.len _ _ _ _ q3
    exact F.run X.A X.stack s2 _ ⟨.ref a :: us, []⟩ (.ref a :: us ++ ds) (.ref a :: vs ++ dvs) _ _ hr e0 (hb s2 (.ref a :: us) I2.kIn hl) r2 q3
  · cases r with
    | error e => exact hq
    | ok fl =>
      cases fl with
      | ret u => exact hq
      | next => exact False.elim hq
      | brk => exact False.elim hq
      | cont => exact False.elim hq
end
section
variable {X : Cx} {k : Nat} {x : Str} {ps : List Str} {dvs : List V} {sp : Sp} {E : XK} {p pos : Pos} {e : Expr} {es : List Expr} {t : TA}
/-- f(..) of a def of the top, told of the frame's cells, captured or its own -/
theorem pe_callXO (G : Glob X.prog X.w X.K X.mg X.base (L2.CX X.prog X.w) k x ps dvs sp) (hr : Room k X.A) (hg : Gl X x) (hx : Passes (L2.CX X.prog X.w) X E) (nd : X.N.Nodup) (hout : ∀ a, InC X.env.cells a → X.base.get? a = none ∧ a ∉ X.fs) (ha : PA X (e :: es) t)
    (hdb : (x == ("__debug__" : Str)) = false := by decide) (he : starEach (e :: es) X.env = (false, eval e X.env) :: starEach es X.env := by rfl) (hpl : (backTo pos (starEach es X.env)).any (·.1) = false := by rfl) :
    PE X (.Call (.Name x p) (e :: es) [] pos) (tCallX X.env.cells X.env.scope X.N sp dvs E t) := by
  refine ⟨fun pins s σ H Q I h => ?_⟩
  obtain ⟨f, fd, ds, F, hm, kp, vd, hb⟩ := G.ex
  refine wpAny_Call_Name_kw (ld_glob I hg hm ?_ hdb)
  refine PySem.W.callWith_K (h₀ := X.base) I.ok.mod.kin kp (thn (ha.run pos pins s σ H _ I h) fun us s1 ⟨vs, H1, I1, r, q⟩ => ⟨I1.kIn, ?_⟩) he hpl
  refine wpAny_call (codeAny_mono (run_expO (Q := Q) (E := E) I1 nd hout hx fun obs e0 => ?_) fun r s' hq => ?_)
  · have r2 : Vals (vs ++ dvs) (us ++ ds) := r.append vd
    have q2 := q (cenv_of I1 nd) obs
    have hl : (us ++ ds).length = ps.length := by rw [← r2.length]; exact F.len _ _ _ _ q2
    exact F.run X.A X.stack s1 _ ⟨us, []⟩ (us ++ ds) (vs ++ dvs) _ _ hr e0 (hb s1 us I1.kIn hl) r2 q2
  · cases r with
    | error e => exact hq
    | ok fl =>
      cases fl with
      | ret u => exact hq
      | next => exact False.elim hq
      | brk => exact False.elim hq
      | cont => exact False.elim hq
end
/-! ### the captured cells, shown again -/
section
variable {cl : List (Str × Addr)} {sc : Scope} {N ps fr : List Str} {σ : L2.St} {obs : Addr → Obj} {H H' : Hp} {ws : List V}
/-- where the frame's names hold the captured things, the cells shown hold them, too -/
theorem caps_ex (S : NScope N ps fr sc) (hlen : ws.length = fr.length) (inj : ∀ x y c, cl.lookup x = some c → cl.lookup y = some c → x = y) (only : ∀ y c, cl.lookup y = some c → y ∈ fr) (has : ∀ y ∈ fr, ∃ c, cl.lookup y = some c)
    (hσ : ∀ (i : Nat) v, ws[i]? = some v → σ[ps.length + i]? = some (some v)) : CapsAt cl fr ws (exC cl sc N σ obs H) := by
  refine ⟨hlen, inj, only, fun i y hi => ?_⟩
  obtain ⟨c, hc⟩ := has y (List.mem_of_getElem? hi)
  have hil : i < fr.length := (List.getElem?_eq_some_iff.mp hi).1
  obtain ⟨v, hv⟩ : ∃ v, ws[i]? = some v := ⟨_, List.getElem?_eq_getElem (by omega)⟩
  refine ⟨c, v, hc, hv, obs c, exC_some (cellV_at S.nd inj ⟨ps.length + i, y, ?_, hc, hσ i v hv, .inr (S.frk y (List.mem_of_getElem? hi))⟩)⟩
  have e : (N.take (ps.length + fr.length))[ps.length + i]? = (ps ++ fr)[ps.length + i]? := congrArg (fun l => l[ps.length + i]?) S.pre
  rw [List.getElem?_append_right (by omega), Nat.add_sub_cancel_left, hi, List.getElem?_take_of_lt (by omega)] at e
  exact e
end
end Hk

set_option Elab.async false
set_option linter.all false
set_option maxRecDepth 100000
set_option maxHeartbeats 4000000
/-! try: .. except x: a suite that may raise again what it handles; else. -/
namespace Hk
open PySem PySem.Spec PyProof.Rows L2 L2H
section
variable {X : Cx} {x : Str} {c : Value} {body suite orelse : List Stmt} {b₀ : Stmt} {np pos pos' : Pos} {tb : WX → TS} {ts : Addr → Value → Option Addr → TS} {u : TS} {Wout : WX}
/-- the bare raise in the suite: what is handled flies on -/
theorem bare_raise {a T : Addr} {oe oT : Obj} {vs tv : Array Value} {cls : Value} {d : Option Addr} {pins : List (Addr × Obj)} {rp : Pos} (hs : X.stack = X.env :: X.outer) (hf : X.env.frame = some X.env.locals) (ok : X.Ok) (tk : Takes X Wout)
    (hz : Zc cls d oe) (hd : oe.data = .fields vs) (hv1 : vs[1]? = some (.ref T)) (hTe : T ≠ a) (hdT : oT.data = .fields tv) (ht3 : tv[3]? = some .none) (far0 : ∀ b o, X.s_0.heap.get? b = some o → b ≠ a ∧ b ≠ T) (farP : ∀ p ∈ X.pn ++ pins, p.1 ≠ a ∧ p.1 ≠ T) :
    PS (suiteX X a ((a, oe) :: (T, oT) :: (X.pn ++ pins))) (.Raise none none rp) (fun _ σ H => Wout cls d σ H) := by
  refine ⟨fun pn2 s6 σ6 H6 D S6 q6 => ?_⟩
  have J6 : Inv X pins σ6 H6 s6 := ⟨ok, S6.os, S6.bare, S6.base, S6.loc, S6.cell, S6.free, S6.freeC, fun p hp => S6.pin p (List.mem_append_left _ (List.mem_cons_of_mem _ (List.mem_cons_of_mem _ hp))), S6.hok, S6.len⟩
  have pa := S6.pin (a, oe) (List.mem_append_left _ List.mem_cons_self)
  have pT := S6.pin (T, oT) (List.mem_append_left _ (List.mem_cons_of_mem _ List.mem_cons_self))
  have ga : s6.heap.get? a = some oe := pa.1
  have gT : s6.heap.get? T = some oT := pT.1
  have na6 : H6 a = none := pa.2.1
  have nT6 : H6 T = none := pT.2.1
  obtain ⟨G, g1, g2⟩ := restrict s6.heap fun b => !(decide (b = a) || decide (b = T))
  have gIn : ∀ b o, G.get? b = some o → s6.heap.get? b = some o ∧ b ≠ a ∧ b ≠ T := fun b o e => by
    cases q : (!(decide (b = a) || decide (b = T))) with
    | false =>
      rw [g2 b q] at e
      cases e
    | true =>
      rw [g1 b q] at e
      simp only [Bool.not_eq_true', Bool.or_eq_false_iff, decide_eq_false_iff_not] at q
      exact ⟨e, q.1, q.2⟩
  have gOf : ∀ b o, b ≠ a → b ≠ T → s6.heap.get? b = some o → G.get? b = some o := fun b o h1 h2 e => by
    rw [g1 b (by simp [h1, h2])]
    exact e
  have I6 : Inv X pins σ6 H6 { s6 with heap := G } := J6.less (fun b o e => (gIn b o e).1) gOf ⟨oe, vs, ga, hd⟩ ⟨oT, tv, gT, hdT⟩ na6 nT6 far0 farP
  have B6in : ∀ b o, (PySem.W.hideAll G (frs X.stack)).get? b = some o → s6.heap.get? b = some o := fun b o e => (gIn b o (PySem.W.of_hideAll _ e)).1
  have Bno : ∀ b, (b = a ∨ b = T) → (PySem.W.hideAll G (frs X.stack)).get? b = none := fun b hb => by
    cases q : (PySem.W.hideAll G (frs X.stack)).get? b with
    | none => rfl
    | some o =>
      obtain ⟨_, n1, n2⟩ := gIn b o (PySem.W.of_hideAll _ q)
      rcases hb with z | z
      · exact absurd z n1
      · exact absurd z n2
  have fl6 : HandSPX.FlyingZ (PySem.W.hideAll G (frs X.stack)) (X.env :: X.outer) a (Zc cls d) s6.heap := by
    refine ⟨B6in, Bno a (.inl rfl), ?_, oe, vs, T, oT, tv, ga, hz, hd, hv1, Bno T (.inr rfl), hTe, gT, hdT, ht3⟩
    have ff := funFrames_none (B := PySem.W.hideAll G (frs X.stack)) J6.stack fun b hb => PySem.W.hideAll_none _ hb
    rw [← hs]
    exact ff
  refine wpAny_Raise_bare ?_
  unfold raiseBare raiseStmt
  dsimp only
  refine wpAny_bind (wpAny_handled ?_)
  have hh : (X.A.mark (some (Value.ref a))).handled = some (Value.ref a) := rfl
  rw [hh]
  dsimp only
  refine wpAny_bind (wpAny_rule ?_)
  refine wpAny_bind (wpAny_field ga hd hv1 ?_)
  rw [if_neg (show ¬ ((Value.ref T == Value.none) = true) from by simp)]
  have goOn : wpAny (model X.prog X.w) (X.A.mark (some (.ref a))) (setFlight (.ref a) X.env.frame) (fun _ s7 => wpAny (model X.prog X.w) (X.A.mark (some (.ref a))) (throw (.ref a) : Sem Flow) (SP (suiteX X a ((a, oe) :: (T, oT) :: (X.pn ++ pins))) pn2 D) X.xe s7) X.xe s6 := by
    rw [hf]
    refine HandSPX.setFlight_upZ fl6 fun h7 hh7 up7 => wpAny_throw (tk _ _ ?_)
    refine ⟨a, PySem.W.hideAll G (frs X.stack), { s6 with heap := G }, pins, σ6, H6, cls, d, rfl, I6, fun b o e hb => PySem.W.hideAll_get _ e hb, ?_, .inr (.inr (by rw [← hs] at hh7; exact hh7)), na6, rfl, J6.bare, q6⟩
    exact Heap.UpToSlots.trans (Heap.UpToSlots.of_keeps fun b o e => (gIn b o e).1) up7
  first
    | exact wpAny_bind goOn
    | exact wpAny_bind (wpAny_pure (wpAny_bind goOn))
theorem ps_try_bare (ho : PSs X orelse u) (hs : X.stack = X.env :: X.outer) (hf : X.env.frame = some X.env.locals) (hex : X.ex = []) (hc : Names X x c) (hpa : ∀ hd : Option Value, PassesOwnAt (model X.prog X.w) (X.A.mark hd) X.A X.env X.xe) (tk : L2.Takes X Wout)
    (hb : ∀ (W : WX) (pn : List (Addr × Obj)) (xe : Value → Shared → Prop), L2.Takes (X.tr pn xe) W → PassesOwn (model X.prog X.w) X.A X.env xe → PSs (X.tr pn xe) body (tb W))
    (hsu : ∀ (a : Addr) (cls : Value) (d : Option Addr) (pn : List (Addr × Obj)), (∀ rp, PS (suiteX X a pn) (.Raise none none rp) (fun _ σ H => Wout cls d σ H)) → PSs (suiteX X a pn) (b₀ :: suite) (ts a cls d)) :
    PS X (.Try body [.ExceptHandler (some (.Name x np)) none (b₀ :: suite) pos'] orelse [] pos) (fun D σ H => tb (wOnly X.K c ts Wout D) { D with nx := u D } σ H) := by
  refine ⟨fun pins s σ H D I h => ?_⟩
  have ok := I.ok
  have hfr : X.A.frames = some (X.env :: X.outer) := by rw [ok.frames, hs]
  refine wpAny_Try_except ?_
  refine wpAny_mono ((hb (wOnly X.K c ts Wout D) (X.pn ++ pins) (fun e s₁ => wpAny (model X.prog X.w) X.A (noteFrame e X.env) (fun _ s₂ => wpAny (model X.prog X.w) X.A (setFlight e none) (fun _ s₃ =>
    wpAny (model X.prog X.w) X.A (handleBy e X.env [.ExceptHandler (some (.Name x np)) none (b₀ :: suite) pos']) (SP X pins D) X.xe s₃) X.xe s₂) X.xe s₁) (fun u s' xx => ?_) PassesOwn.looking).run [] s σ H { D with nx := u D } (I.toTry _) h) (fun f s1 hsp => ?_) (fun e s1 he => he)
  · obtain ⟨a, B, sI, pins', σ', H', cls, d, rfl, J', nb, up, sky, na, os, ag, b, hb1, hyes, hno⟩ := xx
    have J : Inv X pins σ' H' sI := J'.ofTry ok
    have sky' : Sky B (X.env :: X.outer) a (Zc cls d) X.env.locals s'.heap := by rw [← hs]; exact sky
    show wpAny (model X.prog X.w) X.A (noteFrame (.ref a) X.env) _ _ _
    refine L2.Sky.land Zc.steady hfr hf sky' fun h3 fl3 up3 => ?_
    have J3 : Inv X pins σ' H' { s' with heap := h3 } := J.landed nb fl3.1 (up.trans up3) os ag
    obtain ⟨oe3, vs3, he3, hz3, hd3⟩ := fl3.there
    have notFr : ∀ {h : Heap} {b : Addr} {o : Obj} {vs : Array Value}, h.FunFrames B (X.env :: X.outer) → h.get? b = some o → o.data = .fields vs → b ∉ frs (X.env :: X.outer) := fun {h b o vs} ff e dd hm => by
      obtain ⟨_, o', e', hnf⟩ := ff.mem hm
      rw [e] at e'; cases e'
      exact hnf _ dd
    have locF : X.env.locals ∈ frs (X.env :: X.outer) := List.mem_filterMap.mpr ⟨X.env, List.mem_cons_self, hf⟩
    have fsF : ∀ b, b ∈ X.fs → b ∈ frs (X.env :: X.outer) := fun b hm => by
      obtain ⟨e, he, q⟩ := List.mem_filterMap.mp hm
      exact List.mem_filterMap.mpr ⟨e, List.mem_cons_of_mem _ he, q⟩
    have nfr := notFr fl3.2.2.1 he3 hd3
    have nL : a ≠ X.env.locals := fun z => nfr (by rw [z]; exact locF)
    have nF : a ∉ X.fs := fun hm => nfr (fsF _ hm)
    have S3 := J3.suite he3 hd3 na nL nF
    refine wpAny_handleBy_cons (codeAny_handlers_test ?_) (by intro q; cases q)
    have LT : PySem.W.Looks (model X.prog X.w) h3 (typeOf (.ref a)) cls := fun A Q E s k q => wpAny_typeOf_ref (k _ _ he3) (by rw [hz3.1]; exact q)
    have LM := PySem.W.exm_one (M := model X.prog X.w) (J3.kIn) LT hb1
    have test : ∀ {Q : Value → Shared → Prop} {E : Value → Shared → Prop}, Q c { s' with heap := h3 } → wpAny (model X.prog X.w) (X.A.mark (some (.ref a))) (eval (.Name x np) X.env) Q E { s' with heap := h3 } := fun {Q E} q => by
      obtain ⟨hg, hdbg, hm | ⟨hm, hv, hnn⟩⟩ := hc
      · exact ld_glob (X := X.suite a ((a, oe3) :: (X.pn ++ pins))) S3 hg hm q hdbg
      · exact ld_blt (X := X.suite a ((a, oe3) :: (X.pn ++ pins))) S3 hg hm hv q hnn hdbg
    refine test (LM.here ?_)
    cases b with
    | true =>
      refine codeAny_handlers_suite ?_
      refine HandSPX.lands_againZ fl3 fun h4 fl4 up4 => ?_
      have J4 : Inv X pins σ' H' { s' with heap := h4 } := J.landed nb fl4.1 ((up.trans up3).trans up4) os ag
      obtain ⟨k1, k2, k3, oe, vs, T, oT, tv, he4, hz, hd, hv1, hnT, hTe, hT, hdT, ht3⟩ := id fl4
      have nT : H' T = none := (J.inGround nb).gone hnT
      have fa := notFr k3 he4 hd
      have fT := notFr k3 hT hdT
      have S4 : Inv (suiteX X a ((a, oe) :: (T, oT) :: (X.pn ++ pins))) [] σ' H' { s' with heap := h4 } :=
        suiteX_of ⟨J4.ok.suite _ _, J4.os, J4.bare, J4.base, J4.loc, J4.cell, J4.free, J4.freeC, fun p hp => by
          rw [List.append_nil] at hp
          rcases List.mem_cons.mp hp with z | hp
          · rw [z]
            exact ⟨he4, na, fun z2 => fa (by rw [show a = X.env.locals from z2]; exact locF), fun z2 => fa (fsF _ z2), fun v z2 => by
              have z3 : oe.data = .cell v := z2
              rw [hd] at z3
              cases z3⟩
          · rcases List.mem_cons.mp hp with z | hp
            · rw [z]
              exact ⟨hT, nT, fun z2 => fT (by rw [show T = X.env.locals from z2]; exact locF), fun z2 => fT (fsF _ z2), fun v z2 => by
                have z3 : oT.data = .cell v := z2
                rw [hdT] at z3
                cases z3⟩
            · exact J4.pin p hp, J4.hok, J4.len⟩
      have far : ∀ b o, sI.heap.get? b = some o → b ≠ a ∧ b ≠ T := fun b o e => by
        by_cases hb : b ∈ frs X.stack
        · rw [hs] at hb
          exact ⟨fun z => fa (by rw [← z]; exact hb), fun z => fT (by rw [← z]; exact hb)⟩
        · have q := nb b o e hb
          exact ⟨fun z => by
            rw [z, k2] at q
            exact (nomatch q), fun z => by
            rw [z, hnT] at q
            cases q⟩
      have far0 : ∀ b o, X.s_0.heap.get? b = some o → b ≠ a ∧ b ≠ T := fun b o e => by
        obtain ⟨o', q⟩ := J.base.there b o e (by rw [hex]; simp)
        exact far b o' q
      have farP : ∀ p ∈ X.pn ++ pins, p.1 ≠ a ∧ p.1 ≠ T := fun p hp => far p.1 p.2 (J.pin p hp).1
      have un : ∀ {σ6 : L2.St} {H6 : Hp} {s6 : Shared}, Inv (suiteX X a ((a, oe) :: (T, oT) :: (X.pn ++ pins))) [] σ6 H6 s6 → Inv X pins σ6 H6 s6 := fun {σ6 H6 s6} S6 =>
        ⟨ok, S6.os, S6.bare, S6.base, S6.loc, S6.cell, S6.free, S6.freeC, fun p hp => S6.pin p (List.mem_append_left _ (List.mem_cons_of_mem _ (List.mem_cons_of_mem _ hp))), S6.hok, S6.len⟩
      refine wpAny_mono ((hsu a cls d ((a, oe) :: (T, oT) :: (X.pn ++ pins)) (fun rp => bare_raise hs hf ok tk hz hd hv1 hTe hdT ht3 far0 farP)).run [] _ _ H' _ S4 (hyes rfl a na)) (fun f s6 hsp => ?_) (fun e6 s6 z => hpa (some (.ref a)) e6 s6 z)
      cases f with
      | next =>
        obtain ⟨σ6, H6, S6, q6⟩ := hsp
        exact ⟨_, _, un S6, q6⟩
      | brk =>
        obtain ⟨σ6, H6, S6, q6⟩ := hsp
        exact ⟨_, _, un S6, q6⟩
      | cont =>
        obtain ⟨σ6, H6, S6, q6⟩ := hsp
        exact ⟨_, _, un S6, q6⟩
      | ret u =>
        obtain ⟨v6, σ6, H6, S6, r6, q6⟩ := hsp
        exact ⟨_, _, _, un S6, r6, q6⟩
    | false =>
      show wpAny _ X.A (handleBy (.ref a) X.env []) _ _ _
      refine wpAny_handleBy_nil ?_
      obtain ⟨k1, k2, k3, oe, vs, T, oT, ts', he, hz, hd, h1, hr⟩ := id fl3
      unfold PySem.passOn
      refine wpAny_bind (wpAny_field he hd h1 ?_)
      rw [if_neg (show ¬ ((Value.ref T == Value.none) = true) from by simp)]
      have fin : wpAny (model X.prog X.w) X.A (setFlight (.ref a) X.env.frame) (fun _ s4 => wpAny (model X.prog X.w) X.A (throw (.ref a) : Sem Flow) (SP X pins D) X.xe s4) X.xe { s' with heap := h3 } := by
        rw [hf]
        refine HandSPX.setFlight_upZ fl3 fun h4 hh4 up4 => wpAny_throw (tk _ _ ?_)
        exact ⟨a, B, sI, pins, σ', H', cls, d, rfl, J, nb, (up.trans up3).trans up4, .inr (.inr (by rw [hs]; exact hh4)), na, os, ag, hno rfl⟩
      first
        | exact wpAny_bind (wpAny_pure (wpAny_bind fin))
        | exact wpAny_bind fin
  · cases f with
    | next =>
      obtain ⟨σ', H', J', q⟩ := hsp
      exact ho.run pins s1 σ' H' D (J'.ofTry ok) q
    | brk =>
      obtain ⟨σ', H', J', q⟩ := hsp
      exact ⟨σ', H', J'.ofTry ok, q⟩
    | cont =>
      obtain ⟨σ', H', J', q⟩ := hsp
      exact ⟨σ', H', J'.ofTry ok, q⟩
    | ret u =>
      obtain ⟨v, σ', H', J', r, q⟩ := hsp
      exact ⟨v, σ', H', J'.ofTry ok, r, q⟩
end
theorem MethG.framed {P : Program} {w : World} {K : PySem.W.Frag} {mg : Str → Option Value} {base : Heap} {k : Nat} {C : Addr} {m : Str} {ps : List Str} {dvs : List V} {sp : Sp} (G : MethG P w K mg base (L2.CX P w) k C m ps dvs sp) : MethG P w K mg base (L2.CX P w) k C m ps dvs (spF sp) := by
  obtain ⟨f, fd, ds, c, hm, F, r⟩ := G.ex
  exact ⟨f, fd, ds, c, hm, FnOk.framed F, r⟩
/-! ### methods and function values in a try's body -/
def tMethS (C : Addr) (m : Str) (sp : Sp) (dvs : List V) (E : L2.St → XK) (ta : TE) (t : TA) : TE := fun σ H Q => ta σ H fun x H1 => ∃ a dx fs, x = .ref a ∧ H1 a = some (.ins C dx fs) ∧ fs.lookup m = none ∧
  t σ H1 fun vs H2 => sp (.ref a :: vs ++ dvs) H2 Q (E σ)
section
variable {X : Cx} {CX : CXT} {k i : Nat} {C f : Addr} {m x : Str} {fd : FuncData} {ps : List Str} {ds : List Value} {dvs : List V} {sp : Sp} {E : L2.St → XK} {apos pos p : Pos} {o e : Expr} {es : List Expr} {ta : TE} {t : TA}
theorem pe_methGS {pl : Sem Bool} (he : PE X o ta) (G : MethG X.prog X.w X.K X.mg X.base CX k C m ps dvs sp) (hr : Room k X.A) (hx : ∀ σ, PassesAt CX X σ (E σ)) (ha : PA X (e :: es) t)
    (hst : starEach (e :: es) X.env = (false, eval e X.env) :: starEach es X.env := by rfl) (hpl : (backTo pos (starEach es X.env)).any (·.1) = false := by rfl)
    (ht : eval (.Call (.Attribute o m apos) (e :: es) [] pos) X.env = (do
      let ov ← eval o X.env
      standAt apos.atName
      let (f, first) ← holding [ov] (getMethod ov m pl)
      callWith pos f first (backTo pos (starEach (e :: es) X.env)) (backToKw pos (keywordEach [] X.env))) := by rfl) :
    PE X (.Call (.Attribute o m apos) (e :: es) [] pos) (tMethS C m sp dvs E ta t) := by
  refine ⟨fun pins s σ H Q I h => ?_⟩
  obtain ⟨f, fd, ds, c, hm, F, vd, hb⟩ := G.ex
  refine PySem.W.methodCall_KW (pl := pl) (thn (he.run pins s σ H _ I h) fun u s1 ⟨x, H1, I1, rx, a, dx, fs, ex, ea, l, q⟩ => ?_) ht
  subst ex
  obtain rfl : u = Value.ref a := rx
  refine getmeth_ok I1 ea c hm l ?_
  refine PySem.W.callWith_K (first := [.ref a]) (h₀ := X.base) I.ok.mod.kin hm.kp (thn (ha.run pos pins s1 σ H1 _ I1 q) fun us s2 ⟨vs, H2, I2, r, q2⟩ => ⟨I2.kIn, ?_⟩) hst hpl
  have r2 : Vals (.ref a :: vs ++ dvs) (.ref a :: us ++ ds) := (L2.Vals.append (.cons rfl r) vd)
  have hl : (Value.ref a :: us ++ ds).length = ps.length := by rw [← r2.length]; exact F.len _ _ _ _ q2
  refine wpAny_call (codeAny_mono (F.run X.A X.stack s2 H2 ⟨.ref a :: us, []⟩ (.ref a :: us ++ ds) (.ref a :: vs ++ dvs) Q (E σ) hr I2.env0 (hb s2 (.ref a :: us) I2.kIn hl) r2 q2) fun r s' hq => ?_)
  cases r with
  | error e => exact hx σ pins H2 s2 e s' I2 hq
  | ok fl =>
    cases fl with
    | ret u => exact I2.after hq
    | next => exact False.elim hq
    | brk => exact False.elim hq
    | cont => exact False.elim hq
theorem pe_callVS {P : Program} {w : World} {K : PySem.W.Frag} {mg : Str → Option Value} {base : Heap} (e1 : X.prog = P) (e2 : X.w = w) (e3 : X.K = K) (e4 : X.mg = mg) (e5 : X.base = base) (hr : Room k X.A) (hx : ∀ σ, PassesAt (L2.CX X.prog X.w) X σ (E σ)) (hN : X.N[i]? = some x) (hv : Vis X.env.scope x) (ha : PA X (e :: es) t)
    (hd : (x == ("__debug__" : Str)) = false := by decide) (hcd : (x == ("__classdict__" : Str)) = false := by decide)
    (he : starEach (e :: es) X.env = (false, eval e X.env) :: starEach es X.env := by rfl) (hpl : (backTo pos (starEach es X.env)).any (·.1) = false := by rfl) :
    PE X (.Call (.Name x p) (e :: es) [] pos) (tCallVS P w K mg base k i E t) := by
  subst e1 e2 e3 e4 e5
  refine ⟨fun pins s σ H Q I h => ?_⟩
  obtain ⟨f, sp, hs, ac, ht⟩ := h
  refine wpAny_Call_Name_kw (thn ((pe_var (pos := p) hN hv hd hcd).run pins s σ H (fun v H1 => v = .ref f ∧ H1 = H) I ⟨.ref f, hs, rfl, rfl⟩) fun u s1 ⟨v, H1, I1, r1, q1⟩ => ?_)
  obtain ⟨ev, eH⟩ := q1
  subst ev
  rw [eH] at I1
  obtain rfl : u = Value.ref f := r1
  have h := thn (ha.run pos pins s1 σ H _ I1 ht) fun us s2 ⟨vs, H2, I2, r, q⟩ => run_actS ac hr (hx σ) I2 r q
  show wpAny _ _ (callWith pos (.ref f) [] (backTo pos (starEach (e :: es) X.env)) []) _ _ _
  rw [he] at h ⊢
  exact PySem.W.callWith_of (by show ((false || (backTo pos (starEach es X.env)).any (·.1)) || false) = false; rw [hpl]; rfl) PySem.W.keeps_F (PySem.Calls.evalArgs_plain h)
end
end Hk

set_option Elab.async false
set_option linter.all false
set_option maxRecDepth 100000
set_option maxHeartbeats 4000000
/-! Exceptions whose own __init__ calls that of an own class above. -/
namespace Hk
open PySem PySem.Spec PyProof.Rows L2
/-- D.__init__(self, ..), D an own class that inherits it of ValueError -/
structure Inh (K : PySem.W.Frag) (D : Addr) : Prop where
  ga : PySem.W.specialIn K (.ref D) "__getattribute__" = some (some (.builtin "type.__getattribute__"))
  rd : PySem.W.readsIn K D (.type "type") = true
  fc : PySem.W.findCls K (.ref D) (.type "type") "__init__" = some (.val (.builtin "ValueError.__init__"))
def inhB (K : PySem.W.Frag) (x : Str) : Bool := He.eqO (PySem.W.specialIn K (.ref (He.ga K x)) "__getattribute__") (some (some (.builtin "type.__getattribute__"))) && (PySem.W.readsIn K (He.ga K x) (.type "type") && (match PySem.W.findCls K (.ref (He.ga K x)) (.type "type") "__init__" with
  | some (.val (.builtin n)) => n == "ValueError.__init__"
  | _ => false))
theorem inhB_ok {K : PySem.W.Frag} {x : Str} (h : inhB K x = true) : Inh K (He.ga K x) := by
  obtain ⟨h1, h⟩ := He.ba h
  obtain ⟨h2, h3⟩ := He.ba h
  refine ⟨He.eqO_ok h1, h2, ?_⟩
  split at h3
  · rename_i n e
    rw [e, beq_iff_eq.mp h3]
  · cases h3
section
variable {X : Cx} {K : PySem.W.Frag} {o e : Expr} {es : List Expr} {to te : TE} {ta : TA} {f x : Str} {D : Addr} {p p' p1 p2 pos : Pos}
theorem pe_heinit {pl : Sem Bool} (hK : X.K = K) (hg : Gl X x) (hm : X.mg x = some (.ref D)) (I0 : Inh K D) (ha : PA X (e :: es) ta) (hdb : (x == ("__debug__" : Str)) = false := by decide)
    (hc : eval (.Call (.Attribute (.Name x p1) "__init__" p2) (e :: es) [] pos) X.env = (do
      let ov ← eval (.Name x p1) X.env
      standAt p2.atName
      let (f, first) ← holding [ov] (getMethod ov "__init__" pl)
      callWith pos f first (backTo pos (starEach (e :: es) X.env)) (backToKw pos (keywordEach [] X.env))) := by rfl)
    (he : starEach (e :: es) X.env = (false, eval e X.env) :: starEach es X.env := by rfl) (hpl : (backTo pos (starEach es X.env)).any (·.1) = false := by rfl) :
    PE X (.Call (.Attribute (.Name x p1) "__init__" p2) (e :: es) [] pos) (tVeI K ta) := by
  subst hK
  refine ⟨fun pins s σ H Q I h => ?_⟩
  refine PySem.W.methodCall_KW (ld_glob I hg hm ?_ hdb) hc
  refine PySem.W.method_cls I.kIn I0.ga (PySem.W.cls_value I.kIn I0.rd I0.fc (by decide +kernel) ?_)
  show wpAny _ _ (callWith pos (Value.builtin "ValueError.__init__") [] (backTo pos (starEach (e :: es) X.env)) []) _ _ _
  refine PyProof.Rows.callWith_method1 (thn (ha.run pos pins _ σ H _ (I.tok _) h) fun us s1 ⟨vs, H1, I1, r1, a, C, ws, ev, hl, T, ea, q⟩ => ?_) he hpl
  subst ev
  cases r1 with
  | @cons _ u0 _ ur ra rw' =>
    obtain rfl : u0 = Value.ref a := ra
    have hlen : ur.length ≤ sizeLine := by
      rw [← Paired.length rw', sizeLine_eq]
      omega
    exact oinit_ok T I1 ea hlen fun s' J => ⟨.non, H1, J, rfl, q⟩
theorem ps_ostK (hK : X.K = K) (ho : PE X o to) (he : PE X e te) (hs : swapsWith e (some (.Attribute o f p')) pos.line X.env = pure false := by rfl) : PS X (.Assign [.Attribute o f p'] e pos) (tOst K f to te) := by
  subst hK; exact ps_ost ho he hs
end
/-! ### the class's facts by one Bool -/
def oexB (K : PySem.W.Frag) (x : Str) (f : Str) : Bool :=
  (match K.lookup (He.ga K x) with
  | some ⟨.type "type", _, .cls cd, sl⟩ => (match cd.mro, sl.toList with
    | .ref C' :: bm, [_, _, _, _, some (.builtin n), _] => C' == He.ga K x && n == "ValueError.__new__" && !cd.hasDel && PySem.HandSPX.refsVE bm && cd.hasDict
    | _, _ => false)
  | _ => false) && (He.eqO (PySem.W.findIn K (.ref (He.ga K x)) "__setattr__") (some (some (.builtin "object.__setattr__"))) && (decide (PySem.W.subIn K (.ref (He.ga K x)) (.type "BaseException") = some true) && (decide (PySem.W.typeIn K (.ref (He.ga K x)) = some (.type "type")) && (PySem.W.keepIn K (.ref (He.ga K x)) &&
  (He.eqO (PySem.W.findIn K (.ref (He.ga K x)) f) (some none) && (He.eqO (PySem.W.findIn K (.ref (He.ga K x)) "__init__") (some (some (.ref (He.fAd K (x, some "__init__"))))) && (decide (PySem.W.typeIn K (.ref (He.fAd K (x, some "__init__"))) = some (.type "function")) && xfB K (He.ga K x))))))))
structure OwnX (K : PySem.W.Frag) (x f : Str) : Prop where
  oex : OexC K (He.ga K x)
  no : PySem.W.findIn K (.ref (He.ga K x)) f = some none
  iC : PySem.W.findIn K (.ref (He.ga K x)) "__init__" = some (some (.ref (He.fAd K (x, some "__init__"))))
  tI : PySem.W.typeIn K (.ref (He.fAd K (x, some "__init__"))) = some (.type "function")
  xf : XfC K (He.ga K x)
theorem oexB_ok {K : PySem.W.Frag} {x f : Str} (h : oexB K x f = true) : OwnX K x f := by
  obtain ⟨h0, h⟩ := He.ba h
  obtain ⟨h1, h⟩ := He.ba h
  obtain ⟨h2, h⟩ := He.ba h
  obtain ⟨h3, h⟩ := He.ba h
  obtain ⟨h4, h⟩ := He.ba h
  obtain ⟨h5, h⟩ := He.ba h
  obtain ⟨h6, h⟩ := He.ba h
  obtain ⟨h7, h8⟩ := He.ba h
  refine ⟨⟨?_, He.eqO_ok h1, of_decide_eq_true h2, of_decide_eq_true h3, h4⟩, He.eqO_ok h5, He.eqO_ok h6, of_decide_eq_true h7, xfB_ok h8⟩
  split at h0
  · rename_i dd cd sl ho
    split at h0
    · rename_i C' bm k0 k1 k2 k3 n k5 hm hs
      simp only [Bool.and_eq_true, beq_iff_eq, Bool.not_eq_true'] at h0
      obtain ⟨⟨⟨⟨rfl, rfl⟩, hdel⟩, ht⟩, hdc⟩ := h0
      obtain ⟨nm, bs, mro, ns, qn, hd, sn, sub, ab, col, del⟩ := cd
      dsimp only at hm hdel hdc
      subst hm hdel hdc
      have hsl : sl = #[k0, k1, k2, k3, some (.builtin "ValueError.__new__"), k5] := by
        obtain ⟨l⟩ := sl
        simp only at hs
        rw [hs]
      subst hsl
      exact ⟨nm, qn, ns, bs, bm, sn, sub, ab, col, dd, k0, k1, k2, k3, k5, ho, ht⟩
    · cases h0
  · cases h0
/-! ### what __init__ promises; C(e) -/
def sp_oinit (K : PySem.W.Frag) (x f : Str) : Sp := fun vs H Q _ => ∃ (a : Addr) (v : V), vs = [.ref a, v] ∧ H a = some (exo a (He.ga K x) none) ∧ ∀ dx, H dx = none → dx ≠ a → Q .non (upd (upd H dx (exd dx [(f, v)])) a (exo a (He.ga K x) (some dx)))
/-- the promise of x's __init__ -/
structure InitG (P : Program) (w : World) (K : PySem.W.Frag) (mg : Str → Option Value) (base : Heap) (x f : Str) (ps : List Str) : Prop where
  own : OwnX K x f
  ex : ∃ fd, FnOk P w K mg base CX0 1 (He.fAd K (x, some "__init__")) fd ps (sp_oinit K x f) ∧ Binds K fd ps []
def tWhy (C : Addr) (f : Str) (ta : TA) : L2.St → Hp → XK → Prop := fun σ H Q => ta σ H fun vs H1 => ∃ v, vs = [v] ∧ ∀ d, H1 d = none → Q (.ref C) (some d) (upd H1 d (.xd [(f, v)]))
def taM (ta : TA) : TA := fun σ H Q => ∃ K1 : List V → Hp → Prop, ta σ H K1 ∧ ∀ vs H1, K1 vs H1 → Q vs H1
theorem pa_M {X : Cx} {es : List Expr} {ta : TA} (ha : PA X es ta) : PA X es (taM ta) := ⟨fun pos pins s σ H Q I ⟨K1, h, m⟩ => wpAny_mono (ha.run pos pins s σ H K1 I h) (fun us s' ⟨vs, H', I', r, q⟩ => ⟨vs, H', I', r, m _ _ q⟩) fun _ _ z => z⟩
theorem pmk_why {X : Cx} {x f : Str} {ps : List Str} {e : Expr} {ta : TA} {p pos : Pos} (G : InitG X.prog X.w X.K X.mg X.base x f ps) (hr : Room 2 X.A) (hg : Gl X x) (hm : X.mg x = some (.ref (He.ga X.K x))) (ha : PA X [e] ta)
    (hdb : (x == ("__debug__" : Str)) = false := by decide) (he : starEach [e] X.env = (false, eval e X.env) :: starEach [] X.env := by rfl) (hpl : (backTo pos (starEach [] X.env)).any (·.1) = false := by rfl) :
    PMk X (.Call (.Name x p) [e] [] pos) (tWhy (He.ga X.K x) f ta) := by
  intro pins s σ H Q I h
  obtain ⟨fd, F, hb⟩ := G.ex
  refine pmk_oex (CX := CX0) (dvs := []) (ds := []) G.own.oex G.own.iC G.own.tI F hr hb .nil pass0 hg hm (pa_M ha) hdb he hpl pins s σ H Q I ⟨_, h, fun vs H1 ⟨v, ev, q⟩ => ?_⟩
  subst ev
  refine ⟨by simp, fun a na => ⟨a, v, rfl, upd_same, fun dx nd ne => ⟨rfl, dx, [(f, v)], upd_same, ?_, ?_, ?_⟩⟩⟩
  · rw [upd_ne ne, upd_same]
  · rw [upd_ne ne] at nd; exact nd
  · rw [upd_ne ne] at nd
    have e : upd (del (upd (upd (upd H1 a (exo a (He.ga X.K x) none)) dx (exd dx [(f, v)])) a (exo a (He.ga X.K x) (some dx))) a) dx (.xd [(f, v)]) = upd H1 dx (.xd [(f, v)]) := funext fun b => by
      by_cases z : b = dx
      · rw [z, upd_same, upd_same]
      · rw [upd_ne z, upd_ne z]
        by_cases y : b = a
        · rw [y, del_same, na]
        · rw [del_ne y, upd_ne y, upd_ne z, upd_ne y]
    rw [e]
    exact q dx nd
theorem pmk_whyK {P : Program} {w : World} {K : PySem.W.Frag} {mg : Str → Option Value} {base : Heap} {X : Cx} {x f : Str} {ps : List Str} {e : Expr} {ta : TA} {p pos : Pos} (e1 : X.prog = P) (e2 : X.w = w) (e3 : X.K = K) (e4 : X.mg = mg) (e5 : X.base = base) (G : InitG P w K mg base x f ps) (hr : Room 2 X.A) (hg : Gl X x) (hm : mg x = some (.ref (He.ga K x))) (ha : PA X [e] ta)
    (hdb : (x == ("__debug__" : Str)) = false := by decide) (he : starEach [e] X.env = (false, eval e X.env) :: starEach [] X.env := by rfl) (hpl : (backTo pos (starEach [] X.env)).any (·.1) = false := by rfl) :
    PMk X (.Call (.Name x p) [e] [] pos) (tWhy (He.ga K x) f ta) := by
  subst e1 e2 e3 e4 e5
  exact pmk_why G hr hg hm ha hdb he hpl
theorem pe_xfK {X : Cx} {K : PySem.W.Frag} {a C : Addr} {oe : Obj} {cls : Value} {d : Option Addr} {pn : List (Addr × Obj)} {e : Expr} {te : TE} {pos : Pos} {n : Str} (hK : X.K = K) (T : XfC K C) (hno : PySem.W.findIn K (.ref C) n = some none)
    (hz : Zc cls d oe) (hf : ∃ vs, oe.data = .fields vs) (he : PE (X.suite a ((a, oe) :: pn)) e te) (hb : attributeBase e n X.env (eval e X.env) = eval e X.env := by rfl) :
    PE (X.suite a ((a, oe) :: pn)) (.Attribute e n pos) (tXf a cls d C n te) := by
  subst hK; exact pe_xf T hno hz hf he hb
end Hk

set_option Elab.async false
set_option linter.all false
set_option maxRecDepth 100000
set_option maxHeartbeats 4000000
/-! isinstance of a caught exception, with a dict of its own or none. -/
namespace Hk
open PySem PySem.Spec PyProof.Rows L2
def XdAt (H : Hp) (d : Option Addr) : Prop := ∀ dd, d = some dd → ∃ fs, H dd = some (.xd fs)
theorem XdAt.none {H : Hp} : XdAt H none := fun _ z => by cases z
theorem XdAt.same {H H' : Hp} {d : Option Addr} (h : XdAt H d) (s : Same H H') : XdAt H' d := fun dd e => (h dd e).elim fun fs q => ⟨fs, s _ _ q⟩
def rIsED (K : PySem.W.Frag) (D a : Addr) (d : Option Addr) : List V → Hp → VK → Prop := fun xs H Q => ∃ (c : V) (cv : Value) (b : Bool), xs = [.ref a, c] ∧ (∀ u, RelV c u → u = cv) ∧ PySem.W.kitOne K (.ref D) cv = some b ∧ XdAt H d ∧ Q (.bl b) H
theorem call_isED {X : Cx} {K : PySem.W.Frag} {a D : Addr} {oe : Obj} {pn : List (Addr × Obj)} {cls : Value} {d : Option Addr} (hK : X.K = K) (C : ExcC K D) (e1 : cls = .ref D) (hz : Zc cls d oe) (hf : ∃ vs, oe.data = .fields vs) : CallR (X.suite a ((a, oe) :: pn)) (.builtin "isinstance") (rIsED K D a d) := by
  subst hK; subst e1
  intro pins s σ H xs us Q I r h
  obtain ⟨c, cv, b, rfl, hcv, e, hd, q⟩ := h
  cases r with
  | cons rx rr =>
    cases rr with
    | cons rt rr =>
      cases rr
      cases rx
      have ec := hcv _ rt
      subst ec
      obtain ⟨hget, _⟩ := I.pin (a, oe) (List.mem_append.mpr (.inl List.mem_cons_self))
      obtain ⟨vs, hv⟩ := hf
      have hn : PySem.W.notCls oe = true := by unfold PySem.W.notCls; rw [hv] <;> rfl
      have J : ∃ od, PySem.W.InstAt s.heap a oe D od := by
        cases d with
        | none => exact ⟨none, hget, hz.1, hn, by rw [hz.2]; trivial⟩
        | some dd =>
          obtain ⟨fs, ea⟩ := hd dd rfl
          have hx : ObjOk X.prog X.w H s.heap dd (.xd fs) := I.hok dd _ ea
          obtain ⟨mA, hns, hr⟩ := hx
          obtain ⟨od, ho, hl⟩ := lookIn_ns hns
          exact ⟨some od, hget, hz.1, hn, by rw [hz.2]; exact ho⟩
      obtain ⟨od, J⟩ := J
      have hcl : (PySem.W.clsIn X.K D).isSome = true := by
        obtain ⟨cd, hc, _⟩ := PySem.W.any_some C.hd
        rw [hc]; rfl
      exact PySem.W.kia_one (PySem.W.kitx_exc hcl C.hg C.hk C.hs C.ha C.hn C.ht C.hm) I.kIn J e (fun z => nomatch z) fun tk => ⟨.bl b, H, I.kept (t' := tk) fun _ _ z => z, rfl, q⟩
def tClsD (K : PySem.W.Frag) (cls : Value) (t : Addr → TS) : TS := fun Dn σ H => ∃ D, cls = .ref D ∧ ExcC K D ∧ t D Dn σ H
theorem pss_clsD {X : Cx} {cls : Value} {ss : List Stmt} {t : Addr → TS} {K : PySem.W.Frag} (h : ∀ D, cls = .ref D → ExcC K D → PSs X ss (t D)) : PSs X ss (tClsD K cls t) :=
  ⟨fun pins s σ H Dn I ⟨D, e1, C, q⟩ => (h D e1 C).run pins s σ H Dn I q⟩
theorem rIsED_ref {K : PySem.W.Frag} {D a C : Addr} {d : Option Addr} {b : Bool} {H : Hp} {Q : VK} (h : PySem.W.kitOne K (.ref D) (.ref C) = some b) (hx : XdAt H d) (q : Q (.bl b) H) : rIsED K D a d [.ref a, .ref C] H Q := ⟨_, _, b, rfl, fun u hu => hu, h, hx, q⟩
theorem rIsED_ty {K : PySem.W.Frag} {D a : Addr} {n : String} {d : Option Addr} {b : Bool} {H : Hp} {Q : VK} (h : PySem.W.kitOne K (.ref D) (.type n) = some b) (hx : XdAt H d) (q : Q (.bl b) H) : rIsED K D a d [.ref a, .ty n] H Q := ⟨_, _, b, rfl, fun u hu => hu, h, hx, q⟩
end Hk

set_option Elab.async false
set_option linter.all false
set_option maxRecDepth 100000
set_option maxHeartbeats 4000000
/-! try .. except x as n: .., other clauses behind it, where the first one takes all that is raised. -/
namespace Hk
open PySem PySem.Spec PyProof.Rows L2
def wAs1 (K : PySem.W.Frag) (c : Value) (i : Nat) (ts : Addr → Value → Option Addr → TS) (D : Ends) : WX := fun cls d σ H =>
  PySem.W.exmOne K cls c = some true ∧ ∀ a, H a = none → ts a cls d ⟨fun σ2 H2 => D.nx (σ2.set i none) H2, D.rt, fun σ2 H2 => D.bk (σ2.set i none) H2, fun σ2 H2 => D.ct (σ2.set i none) H2⟩ (σ.set i (some (.ref a))) H
section
variable {X : Cx} {x n : Str} {c : Value} {i : Nat} {body suite : List Stmt} {b0 : Stmt} {np pos pos2 : Pos} {tb : WX → TS} {ts : Addr → Value → Option Addr → TS} {hds : List ExceptHandler}
theorem ps_try_as1 (h1 : X.stack = X.env :: X.outer) (h2 : X.env.frame = some X.env.locals) (hN : X.N.Nodup) (hi : X.N[i]? = some n) (hl : X.env.kindOf n = some .local) (hc : Names X x c)
    (hb : ∀ (W : WX) (pn : List (Addr × Obj)) (xe : Value → Shared → Prop), Takes (X.tr pn xe) W → PassesOwn (model X.prog X.w) X.A X.env xe → PSs (X.tr pn xe) body (tb W))
    (hsu : ∀ (a : Addr) (oe : Obj) (cls : Value) (d : Option Addr) (pn : List (Addr × Obj)), Zc cls d oe → (∃ vs, oe.data = .fields vs) → PSs (X.suite a ((a, oe) :: pn)) (b0 :: suite) (ts a cls d)) :
    PS X (.Try body (.ExceptHandler (some (.Name x np)) (some n) (b0 :: suite) pos2 :: hds) [] [] pos) (fun D σ H => tb (wAs1 X.K c i ts D) D σ H) := by
  refine ⟨fun pins s σ H D I h => ?_⟩
  have ok := I.ok
  have hfr : X.A.frames = some (X.env :: X.outer) := by rw [ok.frames, h1]
  refine wpAny_Try_except ?_
  refine wpAny_mono ((hb (wAs1 X.K c i ts D) (X.pn ++ pins) (fun e sa => wpAny (model X.prog X.w) X.A (noteFrame e X.env) (fun _ sb => wpAny (model X.prog X.w) X.A (setFlight e none) (fun _ sc =>
    wpAny (model X.prog X.w) X.A (handleBy e X.env (.ExceptHandler (some (.Name x np)) (some n) (b0 :: suite) pos2 :: hds)) (SP X pins D) X.xe sc) X.xe sb) X.xe sa) (fun u s1 xx => ?_) PassesOwn.looking).run [] s σ H D (I.toTry _) h) (fun f s1 r => ?_) (fun e s1 he => he)
  · obtain ⟨a, B, sI, pinz, σ1, H1, cls, d, rfl, J0, nb, up, sky, na, os, ag, hm1, hyes⟩ := xx
    have J : Inv X pins σ1 H1 sI := J0.ofTry ok
    have sky2 : Sky B (X.env :: X.outer) a (Zc cls d) X.env.locals s1.heap := by rw [← h1]; exact sky
    show wpAny (model X.prog X.w) X.A (noteFrame (.ref a) X.env) _ _ _
    refine Sky.land Zc.steady hfr h2 sky2 fun g3 fl3 up3 => ?_
    have J3 : Inv X pins σ1 H1 { s1 with heap := g3 } := J.landed nb fl3.1 (up.trans up3) os ag
    obtain ⟨o3, vs3, at3, hz3, hd3⟩ := fl3.there
    have nfr : a ∉ frs (X.env :: X.outer) := fun hm => by
      obtain ⟨_, o', e', hnf⟩ := fl3.2.2.1.mem hm
      rw [at3] at e'; cases e'
      exact hnf _ hd3
    have nL : a ≠ X.env.locals := fun z => nfr (List.mem_filterMap.mpr ⟨X.env, List.mem_cons_self, by rw [h2, z]⟩)
    have nF : a ∉ X.fs := fun hm => by
      obtain ⟨e, he, q⟩ := List.mem_filterMap.mp hm
      exact nfr (List.mem_filterMap.mpr ⟨e, List.mem_cons_of_mem _ he, q⟩)
    have S3 := J3.suite at3 hd3 na nL nF
    refine wpAny_handleBy_cons (codeAny_handlers_test ?_) (by intro q; cases q)
    have LT : PySem.W.Looks (model X.prog X.w) g3 (typeOf (.ref a)) cls := fun A Q E s k q => wpAny_typeOf_ref (k _ _ at3) (by rw [hz3.1]; exact q)
    have LM := PySem.W.exm_one (M := model X.prog X.w) (J3.kIn) LT hm1
    have look : ∀ {Q : Value → Shared → Prop} {E : Value → Shared → Prop}, Q c { s1 with heap := g3 } → wpAny (model X.prog X.w) (X.A.mark (some (.ref a))) (eval (.Name x np) X.env) Q E { s1 with heap := g3 } := fun {Q E} q => by
      obtain ⟨hg, hdbg, hm | ⟨hm, hv, hnn⟩⟩ := hc
      · exact ld_glob (X := X.suite a ((a, o3) :: (X.pn ++ pins))) S3 hg hm q hdbg
      · exact ld_blt (X := X.suite a ((a, o3) :: (X.pn ++ pins))) S3 hg hm hv q hnn hdbg
    refine look (LM.here (codeAny_handlers_suite_as (HandSPX.lands_againZ fl3 fun g4 fl4 up4 => ?_)))
    have J4 : Inv X pins σ1 H1 { s1 with heap := g4 } := J.landed nb fl4.1 ((up.trans up3).trans up4) os ag
    obtain ⟨o4, vs4, at4, hz4, hd4⟩ := fl4.there
    refine store_ok (X := X.suite a ((a, o4) :: (X.pn ++ pins))) (v := .ref a) (J4.suite at4 hd4 na nL nF) hN hi (.inl hl) rfl (fun s5 S5 => ?_) (.inr hl)
    refine wpAny_mono ((hsu a o4 cls d (X.pn ++ pins) hz4 ⟨_, hd4⟩).run [] s5 _ H1 _ S5 (hyes a na)) (fun f s6 r => ?_) (fun _ _ z => False.elim z)
    have fin : ∀ {σ6 : L2.St} {H6 : Hp} {Q : Shared → Prop}, Inv (X.suite a ((a, o4) :: (X.pn ++ pins))) [] σ6 H6 s6 → (∀ s7, Inv X pins (σ6.set i none) H6 s7 → Q s7) →
        wpAny (model X.prog X.w) X.A (do bindName X.env n .none; unbindBehindTheSuite X.env n pos2) (fun _ s7 => Q s7) X.xe s6 := fun S6 hq => gone_ok (S6.unsuite ok) hN hi hl hq
    cases f with
    | ret u =>
      obtain ⟨v6, σ6, H6, S6, r6, q6⟩ := r
      exact fin S6 fun s7 J7 => ⟨_, _, _, J7, r6, q6⟩
    | next => exact r.elim fun σ6 z => z.elim fun H6 y => fin y.1 fun s7 J7 => ⟨_, _, J7, y.2⟩
    | brk => exact r.elim fun σ6 z => z.elim fun H6 y => fin y.1 fun s7 J7 => ⟨_, _, J7, y.2⟩
    | cont => exact r.elim fun σ6 z => z.elim fun H6 y => fin y.1 fun s7 J7 => ⟨_, _, J7, y.2⟩
  · cases f with
    | next => exact r.elim fun σ6 z => z.elim fun H6 y => wpAny_execs_nil ⟨σ6, H6, y.1.ofTry ok, y.2⟩
    | brk => exact r.elim fun σ6 z => z.elim fun H6 y => ⟨σ6, H6, y.1.ofTry ok, y.2⟩
    | cont => exact r.elim fun σ6 z => z.elim fun H6 y => ⟨σ6, H6, y.1.ofTry ok, y.2⟩
    | ret u =>
      obtain ⟨v, σ6, H6, J6, rv, q⟩ := r
      exact ⟨v, σ6, H6, J6.ofTry ok, rv, q⟩
end
end Hk

set_option Elab.async false
set_option linter.all false
set_option maxRecDepth 100000
set_option maxHeartbeats 4000000
/-! A def of the top that may raise, called within try. -/
namespace Hk
open PySem PySem.Spec PyProof.Rows L2
section
variable {X : Cx} {CX : CXT} {k : Nat} {x : Str} {ps : List Str} {sp : Sp} {E : L2.St → XK} {pos p : Pos} {e : Expr} {es : List Expr} {t : TA}
theorem pe_callGS (G : Glob X.prog X.w X.K X.mg X.base CX k x ps [] sp) (hr : Room k X.A) (hg : Gl X x) (hx : ∀ σ, PassesAt CX X σ (E σ)) (ha : PA X (e :: es) t)
    (hdb : (x == ("__debug__" : Str)) = false := by decide) (he : starEach (e :: es) X.env = (false, eval e X.env) :: starEach es X.env := by rfl) (hpl : (backTo pos (starEach es X.env)).any (·.1) = false := by rfl) :
    PE X (.Call (.Name x p) (e :: es) [] pos) (tCallS sp E t) := by
  refine ⟨fun pins s σ H Q I h => ?_⟩
  obtain ⟨f, fd, ds, F, hm, kp, vd, hb⟩ := G.ex
  cases vd
  exact (pe_callS F hr hg hm kp hb hx ha hdb he hpl).run pins s σ H Q I h
end
end Hk

set_option Elab.async false
set_option linter.all false
set_option maxRecDepth 100000
set_option maxHeartbeats 4000000
/-! Frames: what a call may change. -/
namespace Hk
open PySem PySem.Spec PySem.W PyProof.Rows L2 LamX NdefX
/-- what never changes -/
def Imm : HO → Prop
  | .tup _ => True
  | .frz _ _ => True
  | .ext _ => True
  | _ => False
theorem imm_fn {f : Addr} {F : NF} : Imm (FnO f F) := by unfold FnO; trivial
theorem imm_lam {f : Addr} {F : LF} : Imm (LamO f F) := by unfold LamO; trivial
theorem imm_code {f : Addr} {q : Str} : Imm (CodeO f q) := by unfold CodeO; trivial
theorem imm_cell {c : Addr} {v : V} {ob : Obj} : Imm (CellO c v ob) := by unfold CellO; trivial
/-- changed at most where S is and at the tables; what never changes stands; the tables are as they should -/
structure Fw (Ts : List Addr) (nm : Nat → Nat → Str) (S : Addr → Prop) (H H' : Hp) : Prop where
  keep : ∀ b o, H b = some o → (Imm o ∨ (¬ S b ∧ b ∉ Ts)) → H' b = some o
  dom : ∀ b, H' b = none → H b = none
  tab : Tabs1 Ts nm H'
section
variable {Ts : List Addr} {nm : Nat → Nat → Str} {S S' : Addr → Prop} {H H1 H2 : Hp} {a b p : Addr} {o : HO} {xs : List V}
theorem Fw.refl (t : Tabs1 Ts nm H) : Fw Ts nm S H H := ⟨fun _ _ h _ => h, fun _ h => h, t⟩
theorem Fw.trans (x : Fw Ts nm S H H1) (y : Fw Ts nm S H1 H2) : Fw Ts nm S H H2 := ⟨fun b o h z => y.keep b o (x.keep b o h z) z, fun b h => x.dom b (y.dom b h), y.tab⟩
theorem Fw.mono (x : Fw Ts nm S H H1) (h : ∀ b, S b → S' b) : Fw Ts nm S' H H1 := ⟨fun b o e z => x.keep b o e (z.imp id fun n => ⟨fun q => n.1 (h b q), n.2⟩), x.dom, x.tab⟩
theorem Fw.of_same (s : Same H H1) (t : Tabs1 Ts nm H) : Fw Ts nm S H H1 := ⟨fun b o h _ => s b o h, fun b h => s.free h, t.ext s⟩
/-- tables alone -/
theorem Fw.of_off (t : Tabs1 Ts nm H) (e : ∀ b o, H b = some o → b ∉ Ts → H1 b = some o) (d : ∀ b, H1 b = none → H b = none) (t1 : Tabs1 Ts nm H1) : Fw Ts nm S H H1 :=
  ⟨fun b o h z => e b o h (z.elim (fun i hb => by
    obtain ⟨ps, e, _⟩ := t b hb
    rw [h] at e; cases e; exact i) fun n => n.2), d, t1⟩
theorem Tabs1.put {o' : HO} (t : Tabs1 Ts nm H) (h : H a = some o') (n1 : ∀ ps, o' ≠ .tbl ps) (n2 : ¬ Imm o') : Tabs1 Ts nm (upd H a o) := t.ext2
  (fun b ps e => by rw [upd_ne (fun z => by rw [z, h] at e; exact n1 ps (Option.some.inj e))]; exact e) (fun c q e => by rw [upd_ne (fun z => by rw [z, h] at e; exact n2 (Option.some.inj e ▸ imm_code))]; exact e)
theorem Tabs1.new (t : Tabs1 Ts nm H) (h : H a = none) : Tabs1 Ts nm (upd H a o) := t.ext fun b u e => by rw [upd_ne (ne_of_none e h)]; exact e
theorem upd_dom {e : upd H a o b = none} : H b = none := by
  unfold upd at e; split at e
  · cases e
  · exact e
/-- a store to what may change -/
theorem Fw.put {o' : HO} (x : Fw Ts nm S H H1) (h : H1 a = some o') (n1 : ∀ ps, o' ≠ .tbl ps) (n2 : ¬ Imm o') (hS : S a ∨ H a = none) : Fw Ts nm S H (upd H1 a o) := by
  refine ⟨fun b u e z => ?_, fun b e => x.dom b (upd_dom (e := e)), x.tab.put h n1 n2⟩
  have e1 := x.keep b u e z
  rw [upd_ne (fun q => ?_)]
  · exact e1
  · subst q
    rw [h] at e1; cases e1
    rcases hS with hS | hS
    · exact z.elim n2 fun n => n.1 hS
    · rw [hS] at e; cases e
theorem Fw.new (x : Fw Ts nm S H H1) (h : H1 p = none) : Fw Ts nm S H (upd H1 p o) :=
  x.trans ⟨fun b u e _ => by rw [upd_ne (ne_of_none e h)]; exact e, fun b e => upd_dom (e := e), x.tab.new h⟩
theorem Fw.same (x : Fw Ts nm S H H1) (s : Same H1 H2) : Fw Ts nm S H H2 := x.trans (.of_same s x.tab)
theorem Fw.free (x : Fw Ts nm S H H1) (h : H1 p = none) : H p = none := x.dom p h
theorem Fw.imm (x : Fw Ts nm S H H1) (h : H b = some o) (i : Imm o) : H1 b = some o := x.keep b o h (.inl i)
theorem Fw.at_ (x : Fw Ts nm S H H1) (t : Tabs1 Ts nm H) (h : H b = some o) (n1 : ∀ ps, o ≠ .tbl ps) (n : ¬ S b) : H1 b = some o := x.keep b o h (.inr ⟨n, t.nt h n1⟩)
theorem Fw.lst (x : Fw Ts nm S H H1) (t : Tabs1 Ts nm H) (h : H b = some (.lst xs)) (n : ¬ S b) : H1 b = some (.lst xs) := x.at_ t h (fun _ z => by cases z) n
theorem Fw.tup (x : Fw Ts nm S H H1) (h : H b = some (.tup xs)) : H1 b = some (.tup xs) := x.imm h trivial
end
theorem inC_nil {a : Addr} : ¬ InC [] a := fun ⟨y, e⟩ => by cases e
theorem delC_nil {H : Hp} : delC [] H = H := funext fun a => delC_out inC_nil
theorem putC_nil {G H : Hp} : putC [] G H = H := funext fun a => putC_out inC_nil
theorem capsNil {H : Hp} : CapsAt [] [] [] H := ⟨rfl, (fun x y c e => by cases e), (fun y c e => by cases e), (fun i y e => by simp at e)⟩
theorem TupsAt.app {H : Hp} : ∀ {ts us : List Addr} {xs ys : List (List V)}, TupsAt H ts xs → TupsAt H us ys → TupsAt H (ts ++ us) (xs ++ ys)
  | [], _, [], _, _, h => h
  | _ :: _, _, _ :: _, _, h, g => ⟨h.1, TupsAt.app h.2 g⟩
  | [], _, _ :: _, _, h, _ => h.elim
  | _ :: _, _, [], _, h, _ => h.elim
theorem TupsAt.put {H : Hp} {p : Addr} {o u : HO} {ts : List Addr} {xs : List (List V)} (h : TupsAt H ts xs) (e : H p = some u) (n : ∀ ys, u ≠ .tup ys) : TupsAt (upd H p o) ts xs := h.mono fun t x q => by
  rw [upd_ne (fun z => by rw [z, e] at q; exact n _ (Option.some.inj q))]; exact q
/-- the promise sp brings, from vs and H, to R, or raises to RE -/
def Runs (sp : Sp) (vs : List V) (H : Hp) (R : VK) (RE : XK) : Prop := ∀ (Q : VK) (E : XK), (∀ v H', R v H' → Q v H') → (∀ c d H', RE c d H' → E c d H') → sp vs H Q E
theorem Runs.mono {sp : Sp} {vs : List V} {H : Hp} {R R' : VK} {RE RE' : XK} (h : Runs sp vs H R RE) (a : ∀ v H', R v H' → R' v H') (b : ∀ c d H', RE c d H' → RE' c d H') : Runs sp vs H R' RE' := fun Q E q e => h Q E (fun v H' r => q v H' (a v H' r)) (fun c d H' r => e c d H' (b c d H' r))
theorem Runs.at0 {sp : Sp} {vs : List V} {H : Hp} {R : VK} {Q : VK} {E : XK} (h : Runs sp vs H R E0) (a : ∀ v H', R v H' → Q v H') : sp vs H Q E := h Q E a fun _ _ _ z => z.elim
/-! ### closures at the heap -/
/-- at f a function whose words are mk, its captured names fr holding ws -/
def CloAt (H : Hp) (f : Addr) (mk : List (Str × Addr) → Addr → NF) (fr : List Str) (ws : List V) : Prop := ∃ cl c, H f = some (FnO f (mk cl c)) ∧ (mk cl c).cl = cl ∧ (mk cl c).c = c ∧ H c = some (CodeO c (mk cl c).qual) ∧ CapsAt cl fr ws H
theorem CloAt.mono {H H' : Hp} {f : Addr} {mk : List (Str × Addr) → Addr → NF} {fr : List Str} {ws : List V} (h : CloAt H f mk fr ws) (e : ∀ b o, H b = some o → Imm o → H' b = some o) : CloAt H' f mk fr ws := by
  obtain ⟨cl, c, h1, h2, h3, h4, h5⟩ := h
  exact ⟨cl, c, e _ _ h1 imm_fn, h2, h3, e _ _ h4 imm_code, h5.mono fun a _ v ⟨ob, q⟩ => ⟨ob, e _ _ q imm_cell⟩⟩
theorem CloAt.fw {Ts : List Addr} {nm : Nat → Nat → Str} {S : Addr → Prop} {H H' : Hp} {f : Addr} {mk : List (Str × Addr) → Addr → NF} {fr : List Str} {ws : List V} (h : CloAt H f mk fr ws) (e : Fw Ts nm S H H') : CloAt H' f mk fr ws := h.mono fun b o q i => e.imm q i
theorem CloAt.same {H H' : Hp} {f : Addr} {mk : List (Str × Addr) → Addr → NF} {fr : List Str} {ws : List V} (h : CloAt H f mk fr ws) (e : Same H H') : CloAt H' f mk fr ws := h.mono fun b o q _ => e b o q
/-- behind its maker -/
theorem made_clo {cm : List (Str × Addr)} {sc : Scope} {N : List Str} {σ : L2.St} {obs : Addr → Obj} {H : Hp} {f c : Addr} {F : NF} {mk : List (Str × Addr) → Addr → NF} {fr N' ps' : List Str} {ws : List V} (C : CEnv cm sc N H) (hf : H f = some (FnO f F)) (hc : H c = some (CodeO c F.qual)) (hF : F = mk (cloFrom cm F.scope.names []) c) (hcl : F.cl = cloFrom cm F.scope.names []) (hcc : F.c = c)
    (js : List Nat) (hb : ndefB sc F.scope fr = true) (S : NScope N' ps' fr F.scope) (hjs : js.map (fun j => N[j]?) = fr.map some) (hws : js.map (fun j => σ[j]?) = ws.map (fun v => some (some v))) : CloAt (exC cm sc N σ obs H) f mk fr ws :=
  ⟨cloFrom cm F.scope.names [], c, hF ▸ C.same _ _ hf, hF ▸ hcl, hF ▸ hcc, hF ▸ C.same _ _ hc, C.caps hb S.free hjs hws (fun a o h _ => h)⟩
theorem putC_upd {cl : List (Str × Addr)} {G H : Hp} {p : Addr} {o : HO} (n : ¬ InC cl p) : putC cl G (upd H p o) = upd (putC cl G H) p o := funext fun b => by
  by_cases e : b = p
  · subst e; rw [putC_out n, upd_same, upd_same]
  · rw [upd_ne e]
    by_cases z : InC cl b
    · rw [putC_in z, putC_in z]
    · rw [putC_out z, putC_out z, upd_ne e]
theorem putC_del {cl : List (Str × Addr)} {H : Hp} : putC cl H (delC cl H) = H := funext fun b => by
  by_cases z : InC cl b
  · rw [putC_in z]
  · rw [putC_out z, delC_out z]
/-- a closure is called -/
theorem clo_runs {P : Program} {w : World} {K : PySem.W.Frag} {mg : Str → Option Value} {base : Heap} {k : Nat} {H : Hp} {f : Addr} {mk : List (Str × Addr) → Addr → NF} {ps fr : List Str} {ws vs : List V} {spN : List (Option V) → Sp} {R : VK} {RE : XK} (C : CloAt H f mk fr ws) (nok : ∀ f cl c, NOk P w K mg base (L2.CX P w) k f (mk cl c) ps fr spN)
    (body : ∀ cl, (∀ b, InC cl b → ∃ v ob, H b = some (CellO b v ob)) → Runs (spN (ws.map some)) vs (delC cl H) (fun v H' => (∀ b, InC cl b → H' b = none) → R v (putC cl H H')) (fun c d H' => (∀ b, InC cl b → H' b = none) → RE c d (putC cl H H'))) : ∃ sp, Act P w K mg base k f sp ∧ Runs sp vs H R RE := by
  obtain ⟨cl, c, h1, h2, h3, h4, h5⟩ := C
  refine ⟨_, act_clo (nok f cl c), fun Q E hq he => ⟨ws, h1, by rw [h3]; exact h4, by rw [h2]; exact h5, ?_⟩⟩
  rw [h2]
  exact body cl (fun b z => (h5.tr z).elim fun v ⟨ob, e⟩ => ⟨v, ob, e⟩) _ _ (fun v H' r z => hq _ _ (r z)) (fun c d H' r z => he _ _ _ (r z))
theorem if_wait3 {c1 c2 c3 W G : Prop} [Decidable c1] [Decidable c2] [Decidable c3] (h : c1 ∨ (c2 ∧ c3)) (x : W) : if c1 then W else if c2 then (if c3 then W else G) else G := by
  rcases h with h | ⟨h, g⟩
  · exact ifP h x
  · by_cases z : c1
    · exact ifP z x
    · exact ifN z (ifP h (ifP g x))
theorem if_go3 {c1 c2 c3 W G : Prop} [Decidable c1] [Decidable c2] [Decidable c3] (h : ¬ (c1 ∨ (c2 ∧ c3))) (x : G) : if c1 then W else if c2 then (if c3 then W else G) else G := by
  refine ifN (fun z => h (.inl z)) ?_
  by_cases z : c2
  · exact ifP z (ifN (fun y => h (.inr ⟨z, y⟩)) x)
  · exact ifN z x
theorem inV_strs {z : Str} : ∀ {zs : List Str}, inV (.str z) (zs.map V.str) = decide (z ∈ zs)
  | [] => rfl
  | y :: r => by
    have ih := inV_strs (z := z) (zs := r)
    unfold inV at ih ⊢
    rw [List.map_cons, List.any_cons, ih]
    unfold eqV
    simp only [List.mem_cons, beq_dec]
    by_cases h : z = y <;> simp [h]
theorem inV_ints {z : Int} : ∀ {zs : List Int}, inV (.int z) (zs.map V.int) = decide (z ∈ zs)
  | [] => rfl
  | y :: r => by
    have ih := inV_ints (z := z) (zs := r)
    unfold inV at ih ⊢
    rw [List.map_cons, List.any_cons, ih]
    unfold eqV
    by_cases h : z = y
    · subst h; simp
    · simp [h, Ne.symm h]
theorem del_ex {cm : List (Str × Addr)} {sc : Scope} {N : List Str} {σ : L2.St} {obs : Addr → Obj} {H : Hp} (C : CEnv cm sc N H) : delC cm (exC cm sc N σ obs H) = H := funext fun b => by
  by_cases z : InC cm b
  · rw [delC_in z, C.free b z]
  · rw [delC_out z, exC_out z]
/-! ### words for simp -/
def isL : Option HO → Bool
  | some (.lst _) => true
  | _ => false
theorem isL_lst {xs : List V} : isL (some (.lst xs)) = true := rfl
theorem tyV_lst {K : PySem.W.Frag} {p : Addr} {H : Hp} (h : isL (H p) = true) : tyV K "list" (.ref p) H = True := by
  cases e : H p with
  | none => rw [e] at h; cases h
  | some o =>
    rw [e] at h
    cases o with
    | lst xs => exact propext ⟨fun _ => trivial, fun _ => .inl ⟨rfl, _, .of e⟩⟩
    | _ => cases h
theorem rAppend_ref {l : Addr} {y : V} {H : Hp} {Q : VK} : rAppend (.ref l) [y] H Q = ∃ xs, H l = some (.lst xs) ∧ xs.length < sizeLine ∧ Q .non (upd H l (.lst (xs ++ [y]))) := by
  unfold rAppend; simp
theorem rExtend_ref {l b : Addr} {H : Hp} {Q : VK} : rExtend (.ref l) [.ref b] H Q = ∃ xs zs, H l = some (.lst xs) ∧ H b = some (.lst zs) ∧ xs.length + zs.length ≤ sizeLine ∧ Q .non (upd H l (.lst (xs ++ zs))) := by
  unfold rExtend; simp
theorem rClear_ref {l : Addr} {H : Hp} {Q : VK} : rClear (.ref l) [] H Q = ∃ xs, H l = some (.lst xs) ∧ Q .non (upd H l (.lst [])) := by
  unfold rClear; simp
theorem rAdd_int {i j : Int} {H : Hp} {Q : VK} : rAdd (.int i) (.int j) H Q = Q (.int (i + j)) H := by unfold rAdd; simp
theorem rSub_int {i j : Int} {H : Hp} {Q : VK} : rSub (.int i) (.int j) H Q = Q (.int (i - j)) H := by unfold rSub; simp
theorem shaped_nil : SeqAt.shaped (.list []) = true := shaped_list 0 (by decide) (fun d hd => nomatch hd)
theorem lt_line {n : Nat} (h : n ≤ 100000) : (n < sizeLine) = True := eq_true (Nat.lt_of_le_of_lt h (by decide))
/-- a comprehension of new tuples -/
theorem lc_tups {α : Type} (xs : List α) (f : α → List V) {J : It} {G : Hp → Prop} {Y : Nat → Hp → V → Hp → Prop} (w : Walk J xs.length G Y) {g : TG} {te : TE} {vs : List Nat} {σ : L2.St} {H1 : Hp} {Q : VK}
    (hn : xs.length ≤ 100000) (hG : ∀ H, Same H1 H → G H)
    (hs : ∀ i a x H H' (R : V → Hp → Prop), xs[i]? = some a → Same H1 H → Y i H x H' → (∀ t H2, H2 t = none → Same H H2 → R (.ref t) (upd H2 t (.tup (f a)))) → g x (wipe σ vs) H' fun σ2 H2 => wipe σ2 vs = wipe σ vs ∧ te σ2 H2 (fun y H4 => R y H4))
    (hd : ∀ D H ts, H1 D = none → Same H1 H → H D = some (.lst (ts.map V.ref)) → TupsAt H ts (xs.map f) → Q (.ref D) H) : LcG J g tYes te vs σ H1 Q := by
  refine lc_accH w No (fun i acc H => Same H1 H ∧ ∃ ts, acc = ts.map V.ref ∧ TupsAt H ts ((xs.take i).map f)) (Nat.lt_of_le_of_lt hn (by decide)) (fun _ _ z => z) ⟨Same.refl _, [], rfl, trivial⟩ (fun H D i acc nD e _ => hG H e.same)
    (fun D i x H H' acc R nD hD hi e hJ hy r0 r1 => ?_) (fun D acc H nD hl e hJ hD => ?_)
  · obtain ⟨s1, ts, rfl, ht⟩ := hJ
    have hx : xs[i]? = some xs[i] := List.getElem?_eq_getElem hi
    have key := hs i xs[i] x H H' (fun y H4 => R (some y) H4) hx e.same hy (fun t H2 nt s2 => ?_)
    · simp only [tYes, if_true]
      exact key
    refine r1 _ _ (.of_same (same_new s2 nt)) ⟨?_, ts ++ [t], by simp, ?_⟩
    · refine s1.trans ((offA_mono (same_new s2 nt)))
    · rw [List.take_add_one, hx, List.map_append]
      have ne : t ≠ D := fun z => by rw [z, s2 _ _ hD] at nt; cases nt
      refine TupsAt.snoc (by rw [offA_ne ne]; exact upd_same) (TupsAt.mono (fun t x h => offA_mono (same_new s2 nt) _ _ h) ht)
  · obtain ⟨s1, ts, rfl, ht⟩ := hJ
    rw [List.take_length] at ht
    exact hd D H ts nD e.same hD (TupsAt.mono (fun t x h => offA_same _ _ h) ht)
/-- sorted by a lambda that captures nothing -/
theorem sort_lam {P : Program} {w : World} {K : PySem.W.Frag} {mg : Str → Option Value} {base : Heap} {k : Nat} {H : Hp} {Q : VK} {l f : Addr} {L : LF} {xs : List V} {spN : List (Option V) → Sp} (hf : H f = some (LamO f L)) (hc : H L.c = some (CodeO L.c L.qual)) (hcl : L.cl = []) (hd : L.dT = none)
    (ac : Act P w K mg base k f (spLam f L [] [] spN)) (hs : SqL K H l xs) (hlen : xs.length ≤ 100000) (key : V → PyData) (hkey : (∀ x ∈ xs, ∃ n, key x = .int n) ∨ ∀ x ∈ xs, ∃ i j, key x = .tuple [.int i, .int j])
    (hsp : ∀ x ∈ xs, ∀ (H' : Hp) (Q' : VK) (E' : XK), Same H H' → (∀ y H'', Same H' H'' → KeyV H'' y (key x) → Q' y H'') → spN [] [x] H' Q' E')
    (q : ∀ p H', Same H H' → H p = none → H' p = some (.lst (xs.mergeSort (dataLe false key))) → Q (.ref p) H') : rSortKey P w K mg base k [.ref l] [.ref f] H Q := by
  refine ⟨l, f, xs, _, key, rfl, rfl, hs, hlen, ac, hkey, fun x hx H' Q' s r => ?_, q⟩
  refine ⟨[], s _ _ hf, s _ _ hc, by rw [hcl]; exact capsNil, by rw [hd]; rfl, ?_⟩
  rw [hcl, delC_nil]
  exact hsp x hx H' _ _ s fun y H'' s2 kv _ => by rw [putC_nil]; exact r y H'' s2 kv
end Hk

set_option Elab.async false
set_option linter.all false
set_option maxRecDepth 100000
set_option maxHeartbeats 4000000
/-! Lambdas that outlive the frame that made them. -/
namespace Hk
open PySem PySem.Spec PySem.W PyProof.Rows L2 LamX NdefX
section
variable {P : Program} {w : World} {K : PySem.W.Frag} {mg : Str → Option Value} {base : Heap} {k : Nat} {H H' : Hp} {f : Addr} {fr : List Str} {ws : List V} {spN : List (Option V) → Sp}
/-- at f a lambda; its captured names fr hold ws; called, it keeps the promise spN -/
def LamR (P : Program) (w : World) (K : PySem.W.Frag) (mg : Str → Option Value) (base : Heap) (k : Nat) (H : Hp) (f : Addr) (fr : List Str) (ws : List V) (spN : List (Option V) → Sp) : Prop :=
  ∃ L : LF, H f = some (LamO f L) ∧ H L.c = some (CodeO L.c L.qual) ∧ L.dT = none ∧ CapsAt L.cl fr ws H ∧ Act P w K mg base k f (spLam f L fr [] spN)
theorem LamR.mono (h : LamR P w K mg base k H f fr ws spN) (e : ∀ b o, H b = some o → Imm o → H' b = some o) : LamR P w K mg base k H' f fr ws spN := by
  obtain ⟨L, h1, h2, h3, h4, h5⟩ := h
  exact ⟨L, e _ _ h1 imm_lam, e _ _ h2 imm_code, h3, h4.mono fun a _ v ⟨ob, q⟩ => ⟨ob, e _ _ q imm_cell⟩, h5⟩
theorem LamR.fw {Ts : List Addr} {nm : Nat → Nat → Str} {S : Addr → Prop} (h : LamR P w K mg base k H f fr ws spN) (e : Fw Ts nm S H H') : LamR P w K mg base k H' f fr ws spN := h.mono fun b o q i => e.imm q i
theorem LamR.same (h : LamR P w K mg base k H f fr ws spN) (e : Same H H') : LamR P w K mg base k H' f fr ws spN := h.mono fun b o q _ => e b o q
theorem LamR.lift {j : Nat} (h : LamR P w K mg base j H f fr ws spN) (l : j ≤ k) : LamR P w K mg base k H f fr ws spN := by
  obtain ⟨L, h1, h2, h3, h4, h5⟩ := h
  exact ⟨L, h1, h2, h3, h4, h5.mono l⟩
/-- behind its maker, or within it, the maker's cells told -/
theorem made_lam {cm : List (Str × Addr)} {sc : Scope} {N : List Str} {σ : L2.St} {obs : Addr → Obj} {L : LF} {N' ps' : List Str} (C : CEnv cm sc N H) (hf : H f = some (LamO f L)) (hc : H L.c = some (CodeO L.c L.qual)) (hcl : L.cl = cloFrom cm L.scope.names []) (hd : L.dT = none)
    (js : List Nat) (hb : ndefB sc L.scope fr = true) (S : NScope N' ps' fr L.scope) (hjs : js.map (fun j => N[j]?) = fr.map some) (hws : js.map (fun j => σ[j]?) = ws.map (fun v => some (some v))) (ac : Act P w K mg base k f (spLam f L fr [] spN)) : LamR P w K mg base k (exC cm sc N σ obs H) f fr ws spN :=
  ⟨L, C.same _ _ hf, C.same _ _ hc, hd, hcl ▸ C.caps hb S.free hjs hws (fun a o h _ => h), ac⟩
theorem LamR.runs {vs : List V} {R : VK} {RE : XK} (C : LamR P w K mg base k H f fr ws spN)
    (body : ∀ cl, (∀ b, InC cl b → ∃ v ob, H b = some (CellO b v ob)) → Runs (spN (ws.map some)) vs (delC cl H) (fun v H' => (∀ b, InC cl b → H' b = none) → R v (putC cl H H')) (fun c d H' => (∀ b, InC cl b → H' b = none) → RE c d (putC cl H H'))) : ∃ sp, Act P w K mg base k f sp ∧ Runs sp vs H R RE := by
  obtain ⟨L, h1, h2, h3, h4, h5⟩ := C
  refine ⟨_, h5, fun Q E hq he => ⟨ws, h1, h2, h4, by unfold DtOk; rw [h3], ?_⟩⟩
  rw [List.append_nil]
  exact body L.cl (fun b z => (h4.tr z).elim fun v ⟨ob, e⟩ => ⟨v, ob, e⟩) _ _ (fun v H' r z => hq _ _ (r z)) (fun c d H' r z => he _ _ _ (r z))
end
end Hk

set_option Elab.async false
set_option linter.all false
set_option maxRecDepth 100000
set_option maxHeartbeats 4000000
/-! Defs without a return at the end whose functions outlive them: at the end their cells are told. -/
namespace Hk
open PySem PySem.Spec PyProof.Rows L2 LamX NdefX
def EndN (X : Cx) (Q : VK) (fl : Flow) (s' : Shared) : Prop := ∃ v H', ((fl = .next ∧ v = .non) ∨ ∃ u, fl = .ret u ∧ L2.RelV v u) ∧ s'.os = X.s_0.os ∧ AllBare s'.gens ∧ Un X.fs X.ex X.H_0 H' X.s_0.heap s'.heap ∧ HOk X.prog X.w H' s'.heap ∧ Q v H'
structure PMN (X : Cx) (ss : List Stmt) (t : TM) : Prop where
  run : ∀ (pins : List (Addr × Obj)) (s : Shared) (σ : L2.St) (H : Hp) (Q : VK), Inv X pins σ H s → t Q σ H → wpAny (model X.prog X.w) X.A (execs ss X.env) (EndN X Q) X.xe s
def tMnil (cm : List (Str × Addr)) (sc : Scope) (N : List Str) : TM := fun Q σ H => CEnv cm sc N H → ∀ obs, Q .non (exC cm sc N σ obs H)
section
variable {X : Cx}
theorem pmn_cons {st : Stmt} {ss : List Stmt} {t : TS} {u : TM} (h1 : PS X st t) (h2 : PMN X ss u) : PMN X (st :: ss) (tMseq t u) := by
  refine ⟨fun pins s σ H Q I h => ?_⟩
  refine wpAny_execs_cons (thn (h1.run pins s σ H _ I h) fun f s1 q => ?_)
  cases f with
  | next =>
    obtain ⟨σ', H', I', q⟩ := q
    exact h2.run pins s1 σ' H' Q I' q
  | ret u =>
    obtain ⟨v, σ', H', J, rv, q⟩ := q
    exact ⟨v, H', .inr ⟨u, rfl, rv⟩, J.os, J.bare, J.base, J.hok, q⟩
  | brk =>
    obtain ⟨_, _, _, q⟩ := q
    exact False.elim q
  | cont =>
    obtain ⟨_, _, _, q⟩ := q
    exact False.elim q
theorem pmn_nil (nd : X.N.Nodup) (hfn : ∀ y c, X.env.cells.lookup y = some c → X.fn y = true) : PMN X [] (tMnil X.env.cells X.env.scope X.N) := by
  refine ⟨fun pins s σ H Q I h => ?_⟩
  refine wpAny_execs_nil ?_
  obtain ⟨obs, hok⟩ := exp_facts I nd
  exact ⟨.non, _, .inl ⟨rfl, rfl⟩, I.os, I.bare, un_ex I nd hfn, hok, h (cenv_of I nd) obs⟩
end
section
variable {P : Program} {w : World} {K : PySem.W.Frag} {mg : Str → Option Value} {base : Heap} {k : Nat} {fd : FuncData} {ps : List Str} {sp : Sp} {x : Str} {dvs : List V}
theorem okMN {CX : CXT} {qual : Str} {params : Arguments} {body : List Stmt} {scope : Scope} {kws : List (Str × V)} {N : List Str} {p : Str × Option Str} (F : FunD K x qual params body scope dvs kws (He.fAd K p) fd) (S : FnScope N ps scope) (len : ∀ vs H Q E, sp vs H Q E → vs.length = ps.length)
    (hbody : ∀ (A : Around) (outer : List Env) (s : Shared) (H : Hp) (vs : List V) (Q : VK) (E : XK), Room k (A.deeper (envOfC qual scope s.heap.objs.size (He.fAd K p) (.ref (He.codeOf K p)))) → sp vs H Q E →
      ∃ t, PMN (cxOf CX P w K mg base N qual scope (He.fAd K p) (.ref (He.codeOf K p)) A outer s H E) body t ∧ t Q (start N vs) H) : FnOk P w K mg base CX (k + 1) (He.fAd K p) fd ps sp := by
  obtain ⟨oc, od, dV, kV, doc, pm, an, cdv, ct, osl, rfl, lk, hcd, _, _⟩ := F.ex
  obtain ⟨c, rfl⟩ := He.codeIn_ref hcd
  have ec := He.codeOf_eq lk rfl
  rw [ec] at hbody
  refine ⟨len, fun A outer s H args us vs Q E hr e0 hb r hsp => ?_⟩
  have hl := len _ _ _ _ hsp
  have KX : K.In s.heap := e0.mod.kin.keeps fun b o e => (e0.bs b o e).1
  have lim : s.heap.NoLimit := e0.mod.nolimit.keeps fun b o e => (e0.bs b o e).1
  have hkind : ∀ y ∈ ps.zip us, scope.names.lookup y.1 = some .local ∨ (scope.names.lookup y.1 = some .cell ∧ ((cellsFrom (s.heap.objs.size + 1) scope.names []).lookup y.1).isSome = true) := fun ⟨n, v⟩ hy => by
    rcases S.par n (List.of_mem_zip hy).1 with q | q
    · exact .inl q
    · exact .inr ⟨q, PySem.W.cellsFrom_some _ _ _ (.inl q)⟩
  refine codeAny_call_function hr.depth (KX _ _ lk) rfl S.co S.gen rfl (PySem.W.codeRec_of KX hcd) (hb _ _ _ _ ?_)
  refine wpAny_newFunctionEnv_cells S.kind hkind fun env he s1 x => ?_
  subst he
  refine ⟨lim.keeps x.toInCall.keep, codeAny_func ?_⟩
  obtain ⟨t, ht, hq⟩ := hbody A outer s H vs Q E (hr.deeper _) hsp
  have I : Inv (cxOf CX P w K mg base N qual scope (He.fAd K p) (.ref c) A outer s H E) [] (L2.start N vs) H s1 := inv_start S hr.hd e0 hl r x
  refine wpAny_mono (ht.run [] s1 (L2.start N vs) H Q I hq) (fun fl s' hs => ?_) fun e s' hs => hs
  obtain ⟨v, H', hfl, os, bare, un, hok, q⟩ := hs
  rcases hfl with ⟨rfl, rfl⟩ | ⟨u, rfl, rv⟩
  · exact ⟨.non, H', os, bare, un, hok, rfl, q⟩
  · exact ⟨v, H', os, bare, un, hok, rv, q⟩
end
end Hk

set_option Elab.async false
set_option linter.all false
set_option maxRecDepth 100000
set_option maxHeartbeats 4000000
/-! Calls with keywords: methods, defs, new instances; the callee told of the live frame's cells or not. -/
namespace Hk
open PySem PySem.Spec PyProof.Rows L2
structure MethKG (P : Program) (w : World) (K : PySem.W.Frag) (mg : Str → Option Value) (base : Heap) (CX : CXT) (k : Nat) (C : Addr) (m : Str) (ps : List Str) (n : Nat) (ks : List Str) (gV : List V → List V → List V) (sp : Sp) : Prop where
  ex : ∃ f fd g, Cls K C ∧ Meth K C m f ∧ FnOk P w K mg base CX k f fd ps sp ∧ KBn K fd ps (n + 1) ks g gV
structure GlobK (P : Program) (w : World) (K : PySem.W.Frag) (mg : Str → Option Value) (base : Heap) (CX : CXT) (k : Nat) (x : Str) (ps : List Str) (n : Nat) (ks : List Str) (gV : List V → List V → List V) (sp : Sp) : Prop where
  ex : ∃ f fd g, FnOk P w K mg base CX k f fd ps sp ∧ mg x = some (.ref f) ∧ PySem.W.keepIn K (.ref f) = true ∧ KBn K fd ps n ks g gV
structure MakeKG (P : Program) (w : World) (K : PySem.W.Frag) (mg : Str → Option Value) (base : Heap) (CX : CXT) (k : Nat) (C : Addr) (ps : List Str) (n : Nat) (ks : List Str) (gV : List V → List V → List V) (sp : Sp) : Prop where
  ex : ∃ f fd g, Mk K C f ∧ FnOk P w K mg base CX k f fd ps sp ∧ KBn K fd ps (n + 1) ks g gV
/-- no defaults: all the rest is named -/
theorem FunD.kbindsN {K : PySem.W.Frag} {x qual : Str} {params : Arguments} {body : List Stmt} {scope : Scope} {kws : List (Str × V)} {f : Addr} {fd : FuncData} {ps : List Str} (F : FunD K x qual params body scope [] kws f fd) (n : Nat) (ks : List Str) (g : {α : Type} → List α → List α → List α)
    (hrel : ∀ {vs zs : List V} {us ws : List Value}, Vals vs us → Vals zs ws → Vals (g vs zs) (g us ws))
    (h : ∀ (kV doc pm : Value) (an : Option Addr) (cdv ct : Value) (us ws : List Value), us.length = n → ws.length = ks.length →
      bindArgs (PySem.W.fnOf x qual params body scope .none kV doc pm an cdv ct) ⟨us, ks.zip ws⟩ = pure (ps.zip (g us ws))) : KBn K fd ps n ks (fun us ws => g us ws) (fun vs zs => g vs zs) := by
  obtain ⟨oc, od, dV, kV, doc, pm, an, cdv, ct, osl, rfl, lk, hcd, hD, hK⟩ := F.ex
  rcases hD with ⟨_, rfl⟩ | ⟨e, _⟩
  · exact ⟨fun s us ws X l1 l2 => .of_eq (h kV doc pm an cdv ct us ws l1 l2), fun r1 r2 => hrel r1 r2⟩
  · exact absurd rfl e
theorem Vals.take {vs : List V} {us : List Value} (h : Vals vs us) : ∀ n, Vals (vs.take n) (us.take n) := by
  induction h with
  | nil => intro n; simp only [List.take_nil]; exact .nil
  | cons r _ ih =>
    intro n
    cases n with
    | zero => exact .nil
    | succ n => exact .cons r (ih n)
theorem Vals.drp {vs : List V} {us : List Value} (h : Vals vs us) : ∀ n, Vals (vs.drop n) (us.drop n) := by
  induction h with
  | nil => intro n; simp only [List.drop_nil]; exact .nil
  | cons r t ih =>
    intro n
    cases n with
    | zero => exact .cons r t
    | succ n => exact ih n
/-- o.m(.., k = v) -/
def tMethK (C : Addr) (m : Str) (n nk : Nat) (sp : Sp) (gV : List V → List V → List V) (E : XK) (ta : TE) (t tk : TA) : TE := fun σ H Q => ta σ H fun x H1 => ∃ a dx fs, x = .ref a ∧ H1 a = some (.ins C dx fs) ∧ fs.lookup m = none ∧
  t σ H1 fun vs H2 => tk σ H2 fun zs H3 => vs.length = n ∧ zs.length = nk ∧ sp (gV (.ref a :: vs) zs) H3 Q E
/-- .. the callee told of the frame's cells -/
def tMethKX (C : Addr) (m : Str) (n nk : Nat) (cm : List (Str × Addr)) (sc : Scope) (N : List Str) (sp : Sp) (gV : List V → List V → List V) (E : XK) (ta : TE) (t tk : TA) : TE := fun σ H Q => ta σ H fun x H1 => ∃ a dx fs, x = .ref a ∧ H1 a = some (.ins C dx fs) ∧ fs.lookup m = none ∧
  t σ H1 fun vs H2 => tk σ H2 fun zs H3 => vs.length = n ∧ zs.length = nk ∧ (CEnv cm sc N H3 → ∀ obs, sp (gV (.ref a :: vs) zs) (exC cm sc N σ obs H3) (fun v H' => Q v (delC cm H')) (fun cls d H' => E cls d (delC cm H')))
section
variable {X : Cx} {CX : CXT} {k n : Nat} {C : Addr} {m x : Str} {ps ks : List Str} {gV : List V → List V → List V} {sp : Sp} {E : XK} {apos pos p : Pos} {o e : Expr} {es : List Expr} {kws : List Keyword} {ta : TE} {t tk : TA}
theorem run_kx {pins : List (Addr × Obj)} {σ : L2.St} {H : Hp} {s : Shared} {Q : VK} {f : Addr} {fd : FuncData} {us ws : List Value} {vs zs : List V} {g : List Value → List Value → List Value} (F : FnOk X.prog X.w X.K X.mg X.base (L2.CX X.prog X.w) k f fd ps sp) (hr : Room k X.A) (hb : KBn X.K fd ps n ks g gV)
    (hx : Passes (L2.CX X.prog X.w) X E) (nd : X.N.Nodup) (hfn : ∀ y c, X.env.cells.lookup y = some c → X.fn y = true) (I : Inv X pins σ H s) (r : Vals vs us) (rz : Vals zs ws) (l1 : vs.length = n) (l2 : zs.length = ks.length)
    (q : CEnv X.env.cells X.env.scope X.N H → ∀ obs, sp (gV vs zs) (exC X.env.cells X.env.scope X.N σ obs H) (fun v H' => Q v (delC X.env.cells H')) (fun cls d H' => E cls d (delC X.env.cells H'))) :
    wpAny (model X.prog X.w) X.A (call (.ref f) us (ks.zip ws)) (EP X pins σ Q) X.xe s := by
  refine wpAny_call (codeAny_mono (run_exp (Q := Q) (E := E) I nd hfn hx fun obs e0 => ?_) fun r s' hq => ?_)
  · have q3 := q (cenv_of I nd) obs
    exact F.run X.A X.stack s _ ⟨us, ks.zip ws⟩ (g us ws) (gV vs zs) _ _ hr e0 (hb.to _ us ws I.kIn (r.length.symm.trans l1) (rz.length.symm.trans l2)) (hb.rel r rz) q3
  · cases r with
    | error e => exact hq
    | ok fl =>
      cases fl with
      | ret u => exact hq
      | next => exact False.elim hq
      | brk => exact False.elim hq
      | cont => exact False.elim hq
theorem pe_methKX {pl : Sem Bool} (he : PE X o ta) (G : MethKG X.prog X.w X.K X.mg X.base (L2.CX X.prog X.w) k C m ps n ks gV sp) (hr : Room k X.A) (hx : Passes (L2.CX X.prog X.w) X E) (nd : X.N.Nodup) (hfn : ∀ y c, X.env.cells.lookup y = some c → X.fn y = true) (ha : PA X (e :: es) t) (hkw : PK X kws tk)
    (hall : (backToKw pos (keywordEach kws X.env)).all (·.1.isSome) = true := by rfl) (hks : (backToKw pos (keywordEach kws X.env)).filterMap (·.1) = ks := by rfl)
    (hst : starEach (e :: es) X.env = (false, eval e X.env) :: starEach es X.env := by rfl)
    (hpl : ((backTo pos (starEach (e :: es) X.env)).any (·.1) || (backToKw pos (keywordEach kws X.env)).any (·.1.isNone)) = false := by rfl)
    (ht : eval (.Call (.Attribute o m apos) (e :: es) kws pos) X.env = (do
      let ov ← eval o X.env
      standAt apos.atName
      let (f, first) ← holding [ov] (getMethod ov m pl)
      callWith pos f first (backTo pos (starEach (e :: es) X.env)) (backToKw pos (keywordEach kws X.env))) := by rfl) :
    PE X (.Call (.Attribute o m apos) (e :: es) kws pos) (tMethKX C m n ks.length X.env.cells X.env.scope X.N sp gV E ta t tk) := by
  refine ⟨fun pins s σ H Q I h => ?_⟩
  obtain ⟨f, fd, g, c, hm, F, hb⟩ := G.ex
  refine PySem.W.methodCall_KW (pl := pl) (thn (he.run pins s σ H _ I h) fun u s1 ⟨x, H1, I1, rx, a, dx, fs, ex, ea, l, q⟩ => ?_) ht
  subst ex
  obtain rfl : u = Value.ref a := rx
  refine getmeth_ok I1 ea c hm l ?_
  refine PySem.W.callWith_KW (first := [.ref a]) (h₀ := X.base) I.ok.mod.kin hm.kp hall (thn (ha.run pos pins s1 σ H1 _ I1 q) fun us s2 ⟨vs, H2, I2, r, q2⟩ => ?_) hpl hst
  refine thn (hkw.run pos pins s2 σ H2 _ I2 q2) fun ws s3 ⟨zs, H3, I3, rz, l1, l2, q3⟩ => ⟨I3.kIn, ?_⟩
  rw [hks]
  exact run_kx (vs := .ref a :: vs) (us := .ref a :: us) F hr hb hx nd hfn I3 (.cons rfl r) rz (by rw [List.length_cons, l1]) l2 q3
theorem pe_methKX0 {pl : Sem Bool} (he : PE X o ta) (G : MethKG X.prog X.w X.K X.mg X.base (L2.CX X.prog X.w) k C m ps 0 ks gV sp) (hr : Room k X.A) (hx : Passes (L2.CX X.prog X.w) X E) (nd : X.N.Nodup) (hfn : ∀ y c, X.env.cells.lookup y = some c → X.fn y = true) (hkw : PK X kws tk)
    (hall : (backToKw pos (keywordEach kws X.env)).all (·.1.isSome) = true := by rfl) (hks : (backToKw pos (keywordEach kws X.env)).filterMap (·.1) = ks := by rfl)
    (hpl : ((backTo pos (starEach [] X.env)).any (·.1) || (backToKw pos (keywordEach kws X.env)).any (·.1.isNone)) = false := by rfl)
    (ht : eval (.Call (.Attribute o m apos) [] kws pos) X.env = (do
      let ov ← eval o X.env
      standAt apos.atName
      let (f, first) ← holding [ov] (getMethod ov m pl)
      callWith pos f first (backTo pos (starEach [] X.env)) (backToKw pos (keywordEach kws X.env))) := by rfl) :
    PE X (.Call (.Attribute o m apos) [] kws pos) (tMethKX C m 0 ks.length X.env.cells X.env.scope X.N sp gV E ta tNil tk) := by
  refine ⟨fun pins s σ H Q I h => ?_⟩
  obtain ⟨f, fd, g, c, hm, F, hb⟩ := G.ex
  refine PySem.W.methodCall_KW (pl := pl) (thn (he.run pins s σ H _ I h) fun u s1 ⟨x, H1, I1, rx, a, dx, fs, ex, ea, l, q⟩ => ?_) ht
  subst ex
  obtain rfl : u = Value.ref a := rx
  refine getmeth_ok I1 ea c hm l ?_
  refine PySem.W.callWith_KW0 (first := [.ref a]) (h₀ := X.base) I.ok.mod.kin hm.kp hall (thn (hkw.run pos pins s1 σ H1 _ I1 q) fun ws s3 ⟨zs, H3, I3, rz, l1, l2, q3⟩ => ⟨I3.kIn, ?_⟩) hpl
  rw [hks]
  exact run_kx (vs := [.ref a]) (us := [.ref a]) F hr hb hx nd hfn I3 (.cons rfl .nil) rz rfl l2 q3
end
section
variable {X : Cx} {CX : CXT} {k n : Nat} {C : Addr} {m x : Str} {ps ks : List Str} {gV : List V → List V → List V} {sp : Sp} {E : XK} {apos pos p : Pos} {o e : Expr} {es : List Expr} {kws : List Keyword} {ta : TE} {t tk : TA}
theorem run_k {pins : List (Addr × Obj)} {σ : L2.St} {H : Hp} {s : Shared} {Q : VK} {f : Addr} {fd : FuncData} {us ws : List Value} {vs zs : List V} {g : List Value → List Value → List Value} (F : FnOk X.prog X.w X.K X.mg X.base CX k f fd ps sp) (hr : Room k X.A) (hb : KBn X.K fd ps n ks g gV)
    (hx : Passes CX X E) (I : Inv X pins σ H s) (r : Vals vs us) (rz : Vals zs ws) (l1 : vs.length = n) (l2 : zs.length = ks.length) (q : sp (gV vs zs) H Q E) :
    wpAny (model X.prog X.w) X.A (call (.ref f) us (ks.zip ws)) (EP X pins σ Q) X.xe s := by
  refine wpAny_call (codeAny_mono (F.run X.A X.stack s _ ⟨us, ks.zip ws⟩ (g us ws) (gV vs zs) _ _ hr I.env0 (hb.to _ us ws I.kIn (r.length.symm.trans l1) (rz.length.symm.trans l2)) (hb.rel r rz) q) fun r s' hq => ?_)
  cases r with
  | error e => exact hx pins σ H s e s' I hq
  | ok fl =>
    cases fl with
    | ret u => exact I.after hq
    | next => exact False.elim hq
    | brk => exact False.elim hq
    | cont => exact False.elim hq
theorem pe_methK {pl : Sem Bool} (he : PE X o ta) (G : MethKG X.prog X.w X.K X.mg X.base CX k C m ps n ks gV sp) (hr : Room k X.A) (hx : Passes CX X E) (ha : PA X (e :: es) t) (hkw : PK X kws tk)
    (hall : (backToKw pos (keywordEach kws X.env)).all (·.1.isSome) = true := by rfl) (hks : (backToKw pos (keywordEach kws X.env)).filterMap (·.1) = ks := by rfl)
    (hst : starEach (e :: es) X.env = (false, eval e X.env) :: starEach es X.env := by rfl)
    (hpl : ((backTo pos (starEach (e :: es) X.env)).any (·.1) || (backToKw pos (keywordEach kws X.env)).any (·.1.isNone)) = false := by rfl)
    (ht : eval (.Call (.Attribute o m apos) (e :: es) kws pos) X.env = (do
      let ov ← eval o X.env
      standAt apos.atName
      let (f, first) ← holding [ov] (getMethod ov m pl)
      callWith pos f first (backTo pos (starEach (e :: es) X.env)) (backToKw pos (keywordEach kws X.env))) := by rfl) :
    PE X (.Call (.Attribute o m apos) (e :: es) kws pos) (tMethK C m n ks.length sp gV E ta t tk) := by
  refine ⟨fun pins s σ H Q I h => ?_⟩
  obtain ⟨f, fd, g, c, hm, F, hb⟩ := G.ex
  refine PySem.W.methodCall_KW (pl := pl) (thn (he.run pins s σ H _ I h) fun u s1 ⟨x, H1, I1, rx, a, dx, fs, ex, ea, l, q⟩ => ?_) ht
  subst ex
  obtain rfl : u = Value.ref a := rx
  refine getmeth_ok I1 ea c hm l ?_
  refine PySem.W.callWith_KW (first := [.ref a]) (h₀ := X.base) I.ok.mod.kin hm.kp hall (thn (ha.run pos pins s1 σ H1 _ I1 q) fun us s2 ⟨vs, H2, I2, r, q2⟩ => ?_) hpl hst
  refine thn (hkw.run pos pins s2 σ H2 _ I2 q2) fun ws s3 ⟨zs, H3, I3, rz, l1, l2, q3⟩ => ⟨I3.kIn, ?_⟩
  rw [hks]
  exact run_k (vs := .ref a :: vs) (us := .ref a :: us) F hr hb hx I3 (.cons rfl r) rz (by rw [List.length_cons, l1]) l2 q3
theorem pe_methK0 {pl : Sem Bool} (he : PE X o ta) (G : MethKG X.prog X.w X.K X.mg X.base CX k C m ps 0 ks gV sp) (hr : Room k X.A) (hx : Passes CX X E) (hkw : PK X kws tk)
    (hall : (backToKw pos (keywordEach kws X.env)).all (·.1.isSome) = true := by rfl) (hks : (backToKw pos (keywordEach kws X.env)).filterMap (·.1) = ks := by rfl)
    (hpl : ((backTo pos (starEach [] X.env)).any (·.1) || (backToKw pos (keywordEach kws X.env)).any (·.1.isNone)) = false := by rfl)
    (ht : eval (.Call (.Attribute o m apos) [] kws pos) X.env = (do
      let ov ← eval o X.env
      standAt apos.atName
      let (f, first) ← holding [ov] (getMethod ov m pl)
      callWith pos f first (backTo pos (starEach [] X.env)) (backToKw pos (keywordEach kws X.env))) := by rfl) :
    PE X (.Call (.Attribute o m apos) [] kws pos) (tMethK C m 0 ks.length sp gV E ta tNil tk) := by
  refine ⟨fun pins s σ H Q I h => ?_⟩
  obtain ⟨f, fd, g, c, hm, F, hb⟩ := G.ex
  refine PySem.W.methodCall_KW (pl := pl) (thn (he.run pins s σ H _ I h) fun u s1 ⟨x, H1, I1, rx, a, dx, fs, ex, ea, l, q⟩ => ?_) ht
  subst ex
  obtain rfl : u = Value.ref a := rx
  refine getmeth_ok I1 ea c hm l ?_
  refine PySem.W.callWith_KW0 (first := [.ref a]) (h₀ := X.base) I.ok.mod.kin hm.kp hall (thn (hkw.run pos pins s1 σ H1 _ I1 q) fun ws s3 ⟨zs, H3, I3, rz, l1, l2, q3⟩ => ⟨I3.kIn, ?_⟩) hpl
  rw [hks]
  exact run_k (vs := [.ref a]) (us := [.ref a]) F hr hb hx I3 (.cons rfl .nil) rz rfl l2 q3
end
end Hk

set_option Elab.async false
set_option linter.all false
namespace Hk
open PySem PySem.Spec PyProof.Rows L2
theorem eqv_strs : ∀ xs ys : List Str, PyData.eqvAll (xs.map PyData.str) (ys.map PyData.str) = decide (xs = ys)
  | [], [] => by simp [PyData.eqvAll]
  | [], _ :: _ => by simp [PyData.eqvAll]
  | _ :: _, [] => by simp [PyData.eqvAll]
  | x :: r, y :: q => by
    simp only [List.map_cons, PyData.eqvAll, PyData.eqv, eqv_strs r q]
    rw [Bool.eq_iff_iff]
    simp
end Hk

set_option Elab.async false
set_option linter.all false
set_option maxRecDepth 100000
set_option maxHeartbeats 4000000
/-! Listeners and nets, in plain Lean and at the heap. -/
namespace Hk
open PySem PySem.Spec PySem.W PyProof.Rows L2
structure Lis where
  ad : Addr
  dx : Addr
  n : Int
  p : Str
  wk : V
  r : Int
  once : Bool
  gate : V
  group : Str
  muted : Bool
  gone : Bool
def leL (x y : Lis) : Bool := decide (x.r < y.r ∨ (x.r = y.r ∧ x.n ≤ y.n))
def orderM (ls : List Lis) : List Lis := (ls.filter fun l => !l.gone).mergeSort leL
def keyL (ls : List Lis) (v : V) : PyData := match ls.find? (fun l => decide (v = .ref l.ad)) with
  | some l => .tuple [.int l.r, .int l.n]
  | none => .tuple [.int 0, .int 0]
theorem keyL_pair (ls : List Lis) (v : V) : ∃ i j, keyL ls v = .tuple [.int i, .int j] := by
  unfold keyL
  split
  · exact ⟨_, _, rfl⟩
  · exact ⟨_, _, rfl⟩
theorem find_ad : ∀ {ls : List Lis} {l : Lis}, (ls.map (·.ad)).Nodup → l ∈ ls → ls.find? (fun x => decide ((V.ref l.ad) = .ref x.ad)) = some l
  | x :: ls, l, hn, hl => by
    rw [List.map_cons, List.nodup_cons] at hn
    rcases List.mem_cons.mp hl with e | e
    · rw [← e, List.find?_cons]; simp
    · have : l.ad ≠ x.ad := fun z => hn.1 (z ▸ List.mem_map_of_mem (f := (·.ad)) e)
      rw [List.find?_cons]
      have e0 : decide (V.ref l.ad = V.ref x.ad) = false := decide_eq_false fun z => this (V.ref.inj z)
      rw [e0]
      exact find_ad hn.2 e
theorem keyL_at {ls : List Lis} {l : Lis} (hn : (ls.map (·.ad)).Nodup) (hl : l ∈ ls) : keyL ls (.ref l.ad) = .tuple [.int l.r, .int l.n] := by
  unfold keyL
  rw [find_ad hn hl]
theorem order_refs {ls us : List Lis} (hn : (ls.map (·.ad)).Nodup) (hu : ∀ l ∈ us, l ∈ ls) : (us.map fun l => V.ref l.ad).mergeSort (dataLe false (keyL ls)) = (us.mergeSort leL).map fun l => V.ref l.ad := by
  refine (sort_maps (r := leL) (s := dataLe false (keyL ls)) (fun l : Lis => V.ref l.ad) (l := us) fun x hx y hy => ?_).symm
  have h := congrFun (congrFun (dataLe_ii (β := Lis) (·.r) (·.n)) x) y
  rw [dataLe_eq] at h ⊢
  simp only [keyL_at hn (hu x hx), keyL_at hn (hu y hy)]
  unfold leL
  exact h.symm
end Hk

set_option Elab.async false
set_option linter.all false
set_option maxRecDepth 100000
set_option maxHeartbeats 4000000
/-! Rows (rank, number, ..) sorted by rank * 100 + number are in the listeners' order; comprehensions of new tuples with a test. -/
namespace Hk
open PySem PySem.Spec PySem.W PyProof.Rows L2
def kI (H : Hp) : V → Int
  | .ref t => match H t with
    | some (.tup (.int r :: .int n :: _)) => r * 100 + n
    | _ => 0
  | _ => 0
def keyH (H : Hp) (v : V) : PyData := .int (kI H v)
theorem TupsAt.of_all {H : Hp} {α : Type} {f : α → List V} : ∀ {zs : List (Addr × α)}, (∀ z ∈ zs, H z.1 = some (.tup (f z.2))) → TupsAt H (zs.map (·.1)) (zs.map fun z => f z.2)
  | [], _ => trivial
  | z :: r, h => ⟨h z (List.mem_cons_self ..), TupsAt.of_all fun y hy => h y (List.mem_cons_of_mem _ hy)⟩
theorem TupsAt.all {H : Hp} {α : Type} {f : α → List V} {ts : List Addr} {as : List α} (h : TupsAt H ts (as.map f)) : ∀ z ∈ ts.zip as, H z.1 = some (.tup (f z.2)) := fun z hz => by
  obtain ⟨i, hi⟩ := List.mem_iff_getElem?.mp hz
  exact (h.zat hi).1
theorem order_all {ls : List Lis} (h : ∀ x ∈ ls, x.gone = false) : orderM ls = ls.mergeSort leL := by
  unfold orderM
  rw [List.filter_eq_self.mpr (fun x hx => by rw [h x hx]; rfl)]
theorem sort_rows {H : Hp} {ts : List Addr} {ls : List Lis} {f : Lis → List V} (hf : ∀ x, ∃ r, f x = .int x.r :: .int x.n :: r) (ht : TupsAt H ts (ls.map f)) (hn : ∀ x ∈ ls, 0 ≤ x.n ∧ x.n < 100 ∧ x.gone = false) :
    ∃ ts', (ts.map V.ref).mergeSort (dataLe false (keyH H)) = ts'.map V.ref ∧ TupsAt H ts' ((orderM ls).map f) := by
  have hl : ts.length = ls.length := by have := ht.len; rwa [List.length_map] at this
  have e1 : ts.map V.ref = (ts.zip ls).map fun z => V.ref z.1 := by
    conv => lhs; rw [← List.map_fst_zip (l₁ := ts) (l₂ := ls) (by omega)]
    rw [List.map_map]; rfl
  have e2 : ls = (ts.zip ls).map (·.2) := (List.map_snd_zip (by omega)).symm
  have ka : ∀ z ∈ ts.zip ls, kI H (V.ref z.1) = z.2.r * 100 + z.2.n := fun z hz => by
    obtain ⟨r, e⟩ := hf z.2
    have hz' := ht.all z hz
    rw [e] at hz'
    unfold kI
    dsimp only
    rw [hz']
  have hm : ∀ z ∈ ts.zip ls, z.2 ∈ ls := fun z hz => (List.of_mem_zip hz).2
  have s1 := sort_maps (r := fun z y : Addr × Lis => leL z.2 y.2) (s := dataLe false (keyH H)) (fun z : Addr × Lis => V.ref z.1) (l := ts.zip ls) fun x hx y hy => by
    have : dataLe false (keyH H) = fun a b => decide (kI H a ≤ kI H b) := dataLe_int (kI H)
    rw [this]
    unfold leL
    show decide _ = decide _
    rw [ka x hx, ka y hy]
    have h1 := hn _ (hm x hx)
    have h2 := hn _ (hm y hy)
    refine decide_eq_decide.mpr ?_
    omega
  have s2 := sort_maps (r := fun z y : Addr × Lis => leL z.2 y.2) (s := leL) (fun z : Addr × Lis => z.2) (l := ts.zip ls) fun x hx y hy => rfl
  refine ⟨((ts.zip ls).mergeSort fun z y => leL z.2 y.2).map (·.1), ?_, ?_⟩
  · rw [e1, ← s1, List.map_map]; rfl
  · rw [order_all fun x hx => (hn x hx).2.2]
    have e3 : ls.mergeSort leL = ((ts.zip ls).mergeSort fun z y => leL z.2 y.2).map (·.2) := by rw [s2, ← e2]
    rw [e3, List.map_map]
    exact TupsAt.of_all fun z hz => ht.all z ((List.mergeSort_perm _ _).mem_iff.mp hz)
theorem zip_filt {β : Type} (c : Lis → Bool) (f : Lis → β) : ∀ {us : List Addr} {as : List Lis}, us.length = as.length → (((us.zip as).filter fun z => c z.2).map fun z => f z.2) = (as.filter c).map f
  | [], [], _ => rfl
  | u :: us, a :: as, h => by
    have ih := zip_filt c f (us := us) (as := as) (by simpa using h)
    rw [List.zip_cons_cons, List.filter_cons, List.filter_cons]
    cases c a <;> simp [ih]
/-- a comprehension of new tuples, with a test -/
theorem lc_tupsF {α : Type} (xs : List α) (c : α → Bool) (f : α → List V) {J : It} {G : Hp → Prop} {Y : Nat → Hp → V → Hp → Prop} (w : Walk J xs.length G Y) {g : TG} {tt : TT} {te : TE} {vs : List Nat} {σ : L2.St} {H1 : Hp} {Q : VK}
    (hn : xs.length ≤ 100000) (hG : ∀ H, Same H1 H → G H)
    (hs : ∀ i a x H H' (R : Option V → Hp → Prop), xs[i]? = some a → Same H1 H → Y i H x H' → (c a = false → ∀ H2, Same H H2 → R none H2) → (c a = true → ∀ t H2, H2 t = none → Same H H2 → R (some (.ref t)) (upd H2 t (.tup (f a)))) → g x (wipe σ vs) H' fun σ2 H2 => wipe σ2 vs = wipe σ vs ∧ tt σ2 H2 fun b H3 => if b = true then te σ2 H3 (fun y H4 => R (some y) H4) else R none H3)
    (hd : ∀ D H ts, H1 D = none → Same H1 H → H D = some (.lst (ts.map V.ref)) → TupsAt H ts ((xs.filter c).map f) → Q (.ref D) H) : LcG J g tt te vs σ H1 Q := by
  refine lc_accH w No (fun i acc H => Same H1 H ∧ ∃ ts, acc = ts.map V.ref ∧ TupsAt H ts (((xs.take i).filter c).map f)) (Nat.lt_of_le_of_lt hn (by decide)) (fun _ _ z => z) ⟨Same.refl _, [], rfl, trivial⟩ (fun H D i acc nD e _ => hG H e.same)
    (fun D i x H H' acc R nD hD hi e hJ hy r0 r1 => ?_) (fun D acc H nD hl e hJ hD => ?_)
  · obtain ⟨s1, ts, rfl, ht⟩ := hJ
    have hx : xs[i]? = some xs[i] := List.getElem?_eq_getElem hi
    have tf : ((xs.take (i + 1)).filter c).map f = ((xs.take i).filter c).map f ++ (if c xs[i] = true then [f xs[i]] else []) := by
      rw [List.take_add_one, hx, List.filter_append, List.map_append]
      congr 1
      show (List.filter c [xs[i]]).map f = _
      rw [List.filter_cons]
      split <;> rfl
    refine hs i xs[i] x H H' R hx e.same hy (fun hc H2 s2 => ?_) (fun hc t H2 nt s2 => ?_)
    · refine r0 _ (.of_same s2) ⟨s1.trans (offA_mono s2), ts, rfl, ?_⟩
      rw [tf, hc]
      simp only [Bool.false_eq_true, if_false, List.append_nil]
      exact TupsAt.mono (fun t x h => offA_mono s2 _ _ h) ht
    · refine r1 _ _ (.of_same (same_new s2 nt)) ⟨s1.trans (offA_mono (same_new s2 nt)), ts ++ [t], by simp, ?_⟩
      rw [tf, hc, if_pos rfl]
      have ne : t ≠ D := fun z => by rw [z, s2 _ _ hD] at nt; cases nt
      exact TupsAt.snoc (by rw [offA_ne ne]; exact upd_same) (TupsAt.mono (fun t x h => offA_mono (same_new s2 nt) _ _ h) ht)
  · obtain ⟨s1, ts, rfl, ht⟩ := hJ
    rw [List.take_length] at ht
    exact hd D H ts nD e.same hD (TupsAt.mono (fun t x h => offA_same _ _ h) ht)
end Hk

set_option Elab.async false
set_option linter.all false
set_option maxRecDepth 100000
set_option maxHeartbeats 4000000
/-! Data of bounded depth and size. -/
namespace Hk
open PySem PySem.Spec PyProof.Rows L2
def DOk (k : Nat) (d : PyData) : Prop := d.depth ≤ k ∧ smallD d = true
theorem DOk.int {k : Nat} {i : Int} : DOk k (.int i) := ⟨by simp [PyData.depth], by simp [smallD]⟩
theorem DOk.str {k : Nat} {i : Str} : DOk k (.str i) := ⟨by simp [PyData.depth], by simp [smallD]⟩
theorem DOk.bool {k : Nat} {i : Bool} : DOk k (.bool i) := ⟨by simp [PyData.depth], by simp [smallD]⟩
theorem DOk.none {k : Nat} : DOk k .none := ⟨by simp [PyData.depth], by simp [smallD]⟩
theorem DOk.list {k : Nat} {ds : List PyData} (h : ∀ d ∈ ds, DOk k d) (hl : ds.length ≤ 100000) : DOk (k + 1) (.list ds) :=
  ⟨by have := depthAll_of fun d hd => (h d hd).1
      simp only [PyData.depth]; omega, smallL_of hl fun d hd => (h d hd).2⟩
theorem DOk.tuple {k : Nat} {ds : List PyData} (h : ∀ d ∈ ds, DOk k d) (hl : ds.length ≤ 100000) : DOk (k + 1) (.tuple ds) :=
  ⟨by have := depthAll_of fun d hd => (h d hd).1
      simp only [PyData.depth]; omega, smallT_of hl fun d hd => (h d hd).2⟩
theorem DOk.mono {j k : Nat} {d : PyData} (h : DOk j d) (l : j ≤ k) : DOk k d := ⟨Nat.le_trans h.1 l, h.2⟩
theorem dok_nil {k : Nat} : ∀ d ∈ ([] : List PyData), DOk k d := fun _ h => nomatch h
theorem dok_cons {k : Nat} {d : PyData} {ds : List PyData} (h : DOk k d) (t : ∀ d ∈ ds, DOk k d) : ∀ e ∈ d :: ds, DOk k e := fun e he => (List.mem_cons.mp he).elim (fun z => z ▸ h) (t e)
theorem dok_map {k : Nat} {α : Type} {f : α → PyData} {xs : List α} (h : ∀ x ∈ xs, DOk k (f x)) : ∀ e ∈ xs.map f, DOk k e := fun e he => by
  obtain ⟨x, hx, rfl⟩ := List.mem_map.mp he
  exact h x hx
/-- a list of tuples, told twice -/
theorem dp_rows {K : PySem.W.Frag} {H : Hp} {α : Type} {f : α → List V} {d : α → PyData} {p : Addr} {ts : List Addr} {as : List α} (h : H p = some (.lst (ts.map V.ref))) (t : TupsAt H ts (as.map f)) (hf : ∀ a ∈ as, DpAll K H (f a) (match d a with | .tuple ds => ds | _ => []) ∧ ∃ ds, d a = .tuple ds) : Dp K H (.ref p) (.list (as.map d)) := by
  refine .lst (.of h) ?_
  clear h
  induction as generalizing ts with
  | nil =>
    match ts, t with
    | [], _ => exact .nil
  | cons a r ih =>
    match ts, t with
    | t1 :: tr, t =>
      obtain ⟨h1, ds, h2⟩ := hf a (List.mem_cons_self ..)
      rw [h2] at h1
      refine .cons ?_ (ih t.2 fun b hb => hf b (List.mem_cons_of_mem _ hb))
      rw [h2]
      exact .tup (.of t.1) h1
/-! ### == and != of the same data -/
def DEq (k : Nat) (d : PyData) : Prop := d.canLay0 = true ∧ d.depth ≤ k ∧ PyData.eqv d d = true
theorem eqvAll_self : ∀ {ds : List PyData}, (∀ d ∈ ds, PyData.eqv d d = true) → PyData.eqvAll ds ds = true
  | [], _ => by simp only [PyData.eqvAll]
  | d :: r, h => by
    simp only [PyData.eqvAll]
    rw [h d (List.mem_cons_self ..), eqvAll_self fun e he => h e (List.mem_cons_of_mem _ he)]; rfl
theorem DEq.int {k : Nat} {i : Int} : DEq k (.int i) := ⟨by simp only [PyData.canLay0], by simp [PyData.depth], by simp [PyData.eqv]⟩
theorem DEq.str {k : Nat} {i : Str} (h : PyData.strOk i = true) : DEq k (.str i) := ⟨by simp only [PyData.canLay0]; exact h, by simp [PyData.depth], by simp [PyData.eqv]⟩
theorem DEq.bool {k : Nat} {i : Bool} : DEq k (.bool i) := ⟨by simp only [PyData.canLay0], by simp [PyData.depth], by simp [PyData.eqv]⟩
theorem DEq.none {k : Nat} : DEq k .none := ⟨by simp only [PyData.canLay0], by simp [PyData.depth], by simp [PyData.eqv]⟩
theorem DEq.list {k : Nat} {ds : List PyData} (h : ∀ d ∈ ds, DEq k d) : DEq (k + 1) (.list ds) := by
  refine ⟨?_, ?_, ?_⟩
  · simp only [PyData.canLay0]; exact canAll_of fun d hd => (h d hd).1
  · have := depthAll_of fun d hd => (h d hd).2.1
    simp only [PyData.depth]; omega
  · simp only [PyData.eqv]; exact eqvAll_self fun d hd => (h d hd).2.2
theorem DEq.tuple {k : Nat} {ds : List PyData} (h : ∀ d ∈ ds, DEq k d) : DEq (k + 1) (.tuple ds) := by
  refine ⟨?_, ?_, ?_⟩
  · simp only [PyData.canLay0]; exact canAll_of fun d hd => (h d hd).1
  · have := depthAll_of fun d hd => (h d hd).2.1
    simp only [PyData.depth]; omega
  · simp only [PyData.eqv]; exact eqvAll_self fun d hd => (h d hd).2.2
theorem deq_nil {k : Nat} : ∀ d ∈ ([] : List PyData), DEq k d := fun _ h => nomatch h
theorem deq_cons {k : Nat} {d : PyData} {ds : List PyData} (h : DEq k d) (t : ∀ d ∈ ds, DEq k d) : ∀ e ∈ d :: ds, DEq k e := fun e he => (List.mem_cons.mp he).elim (fun z => z ▸ h) (t e)
theorem deq_map {k : Nat} {α : Type} {f : α → PyData} {xs : List α} (h : ∀ x ∈ xs, DEq k (f x)) : ∀ e ∈ xs.map f, DEq k e := fun e he => by
  obtain ⟨x, hx, rfl⟩ := List.mem_map.mp he
  exact h x hx
theorem DEq.shaped {k : Nat} {d : PyData} (h : DEq k d) (hk : k ≤ 60) : SeqAt.shaped d = true := by
  unfold SeqAt.shaped
  exact Bool.and_eq_true_iff.mpr ⟨h.1, decide_eq_true (by have := h.2.1; omega)⟩
theorem rNe_same {K : PySem.W.Frag} {H : Hp} {x y : V} {d : PyData} {k : Nat} {Q : VK} (h1 : Dp K H x d) (h2 : Dp K H y d) (h : DEq k d) (hk : k ≤ 60) (q : Q (.bl false) H) : rNeD K x y H Q := ⟨d, d, h1, h2, h.shaped hk, h.shaped hk, by rw [h.2.2]; exact q⟩
theorem rEq_same {K : PySem.W.Frag} {H : Hp} {x y : V} {d : PyData} {k : Nat} {Q : VK} (h1 : Dp K H x d) (h2 : Dp K H y d) (h : DEq k d) (hk : k ≤ 60) (q : Q (.bl true) H) : rEqD K x y H Q := ⟨d, d, h1, h2, h.shaped hk, h.shaped hk, by rw [h.2.2]; exact q⟩
end Hk

set_option Elab.async false
set_option linter.all false
set_option maxRecDepth 100000
set_option maxHeartbeats 4000000
/-! The head's Hook over the names' reach and the table of the interpreter's statics (a class's attributes are read only where that table is known). -/
namespace Hk
open PySem PySem.Spec PyProof.Rows L2 He
def asS (g : Addr → Option Obj) (n : Nat) : List Addr := asD g n ++ [cStatics]
def obsS (n : Nat) (fa : List Fa) (fn : List DefD) (ts : List Tab) (tf : List Defn) (ex : PySem.W.Frag → Bool) (g : Addr → Option Obj) : AlX := (obsT fa fn ts (frT g (asS g n)), ex (frT g (asS g n)) && tabsB g tf (frT g (asS g n)))
theorem saysS_of {n : Nat} {fa : List Fa} {fn : List DefD} {ts : List Tab} {tf : List Defn} {ex : PySem.W.Frag → Bool} {w : World} {h : Heap} (e : obsS n fa fn ts tf ex h.get? = valX fn ts w) : SaysX fa fn ts tf ex w h (frT h.get? (asS h.get? n)) := by
  generalize hK : frT h.get? (asS h.get? n) = K
  have e1 : obsT fa fn ts K = valT fn ts w := by rw [← hK]; exact congrArg (fun z : AlX => z.1) e
  have e2 : (ex K && tabsB h.get? tf K) = true := by rw [← hK]; exact congrArg (fun z : AlX => z.2) e
  obtain ⟨h1, h2⟩ := ba e2
  refine ⟨e1, h1, fun p hp => (ba (List.all_eq_true.mp h2 p hp)).1, fun p hp => ?_, fun p hp => ?_⟩
  all_goals
    obtain ⟨h3, h4⟩ := ba (List.all_eq_true.mp h2 p hp)
    cases q : h.get? (cT K p).2 with
    | none => rw [q] at h4; cases h4
    | some o =>
      rw [q] at h4
      first
        | exact congrArg some (emptyTab_eq h4)
        | (rw [← hK] at q ⊢; exact frT_none q h4)
def hookS (n : Nat) (fa : List Fa) (fn : List DefD) (ts : List Tab) (tf : List Defn) (ex : PySem.W.Frag → Bool) : PySem.W.Hook where
  α := AlX
  obs := fun s => obsS n fa fn ts tf ex s.heap.get?
  val := fun w => valX fn ts w
  says := fun w h => ∃ K : PySem.W.Frag, K.In h ∧ SaysX fa fn ts tf ex w h K
  of := fun _ _ e => ⟨_, frT_in, saysS_of e⟩
  keeps := fun _ _ _ ⟨K, hK, c⟩ k => ⟨K, PySem.W.Frag.In.keeps hK k, ⟨c.t, c.more, c.hd, c.out, fun p hp => k _ _ (c.empty p hp)⟩⟩
theorem obsS_eq {n : Nat} {fa : List Fa} {fn : List DefD} {ts : List Tab} {tf : List Defn} {ex : PySem.W.Frag → Bool} {g : Addr → Option Obj} {s : Shared} (h : ∀ a, g a = s.heap.get? a) : obsS n fa fn ts tf ex g = (hookS n fa fn ts tf ex).obs s := by
  have e : g = s.heap.get? := funext h
  rw [e] <;> rfl
end Hk

set_option Elab.async false
set_option linter.all false
set_option maxRecDepth 100000
set_option maxHeartbeats 4000000
/-! x is True, of any x. -/
namespace Hk
open PySem PySem.Spec PyProof.Rows L2
def rIsV : R2 := fun x y H Q => ∃ b : Bool, y = .bl b ∧ Q (.bl (decide (x = .bl b))) H
theorem op_isV {X : Cx} : OpR X (compareOp .Is) rIsV := by
  intro pins s σ H x y v u Q I rx ry h
  obtain ⟨b, rfl, q⟩ := h
  cases (show u = Value.bool b from ry)
  by_cases e : x = .bl b
  · subst e
    cases (show v = Value.bool b from rx)
    exact wpAny_is_self rfl ⟨.bl true, H, I, rfl, by simpa using q⟩
  · have hne : v ≠ Value.bool b := fun z => by
      subst z
      cases x <;> first
        | (exact e rfl)
        | (cases rx; exact e rfl)
        | (obtain ⟨t, z⟩ := rx; cases z; done)
        | (cases rx; done)
    refine wpAny_is_other ?_ hne ⟨.bl false, H, I, rfl, by simpa [e] using q⟩
    cases x <;> first
      | (cases rx; rfl)
      | (obtain ⟨t, rfl⟩ := rx; rfl)
def rNotV : R2 := fun x y H Q => ∃ b : Bool, y = .bl b ∧ Q (.bl (!decide (x = .bl b))) H
theorem op_notV {X : Cx} : OpR X (compareOp .IsNot) rNotV := by
  intro pins s σ H x y v u Q I rx ry h
  obtain ⟨b, rfl, q⟩ := h
  cases (show u = Value.bool b from ry)
  by_cases e : x = .bl b
  · subst e
    cases (show v = Value.bool b from rx)
    exact wpAny_isNot_self rfl ⟨.bl false, H, I, rfl, by simpa using q⟩
  · have hne : v ≠ Value.bool b := fun z => by
      subst z
      cases x <;> first
        | (exact e rfl)
        | (cases rx; exact e rfl)
        | (obtain ⟨t, z⟩ := rx; cases z; done)
        | (cases rx; done)
    refine wpAny_isNot_other ?_ hne ⟨.bl true, H, I, rfl, by simpa [e] using q⟩
    cases x <;> first
      | (cases rx; rfl)
      | (obtain ⟨t, rfl⟩ := rx; rfl)
end Hk

set_option Elab.async false
set_option linter.all false
set_option maxRecDepth 100000
set_option maxHeartbeats 4000000
namespace Hk
open PySem PySem.Spec PyProof.Rows L2
def topS (i : Nat) : Stmt := PySem.Challenge.pw_hearken_k08_kept_and_heard_late.main.body.getD i (.Pass ⟨0, 0, 0, 0⟩)
abbrev s_is_word : Stmt := topS 20
abbrev N_is_word : List Str := ["part", "sign"]
abbrev p_is_word : List Str := ["part"]
theorem sc_is_word : FnScope N_is_word p_is_word (defScope s_is_word) := ⟨rfl, rfl, rfl, by decide +kernel, rfl, by decide +kernel, by decide +kernel⟩
def d_is_word : He.DefD := ⟨("is_word", none), "is_word", "is_word", defArgs s_is_word, defBody s_is_word, defScope s_is_word, [], []⟩
abbrev F_is_word (K : PySem.W.Frag) (f : Addr) (fd : FuncData) : Prop := FunD K "is_word" "is_word" (defArgs s_is_word) (defBody s_is_word) (defScope s_is_word) [] [] f fd
abbrev s_is_line : Stmt := topS 21
abbrev N_is_line : List Str := ["text", "words", "word"]
abbrev p_is_line : List Str := ["text"]
theorem sc_is_line : FnScope N_is_line p_is_line (defScope s_is_line) := ⟨rfl, rfl, rfl, by decide +kernel, rfl, by decide +kernel, by decide +kernel⟩
def d_is_line : He.DefD := ⟨("is_line", none), "is_line", "is_line", defArgs s_is_line, defBody s_is_line, defScope s_is_line, [], []⟩
abbrev F_is_line (K : PySem.W.Frag) (f : Addr) (fd : FuncData) : Prop := FunD K "is_line" "is_line" (defArgs s_is_line) (defBody s_is_line) (defScope s_is_line) [] [] f fd
abbrev s_is_pattern : Stmt := topS 22
abbrev N_is_pattern : List Str := ["text", "words", "word"]
abbrev p_is_pattern : List Str := ["text"]
theorem sc_is_pattern : FnScope N_is_pattern p_is_pattern (defScope s_is_pattern) := ⟨rfl, rfl, rfl, by decide +kernel, rfl, by decide +kernel, by decide +kernel⟩
def d_is_pattern : He.DefD := ⟨("is_pattern", none), "is_pattern", "is_pattern", defArgs s_is_pattern, defBody s_is_pattern, defScope s_is_pattern, [], []⟩
abbrev F_is_pattern (K : PySem.W.Frag) (f : Addr) (fd : FuncData) : Prop := FunD K "is_pattern" "is_pattern" (defArgs s_is_pattern) (defBody s_is_pattern) (defScope s_is_pattern) [] [] f fd
abbrev s_need_line : Stmt := topS 23
abbrev N_need_line : List Str := ["text"]
abbrev p_need_line : List Str := ["text"]
theorem sc_need_line : FnScope N_need_line p_need_line (defScope s_need_line) := ⟨rfl, rfl, rfl, by decide +kernel, rfl, by decide +kernel, by decide +kernel⟩
def d_need_line : He.DefD := ⟨("need_line", none), "need_line", "need_line", defArgs s_need_line, defBody s_need_line, defScope s_need_line, [], []⟩
abbrev F_need_line (K : PySem.W.Frag) (f : Addr) (fd : FuncData) : Prop := FunD K "need_line" "need_line" (defArgs s_need_line) (defBody s_need_line) (defScope s_need_line) [] [] f fd
abbrev s_need_pattern : Stmt := topS 24
abbrev N_need_pattern : List Str := ["text"]
abbrev p_need_pattern : List Str := ["text"]
theorem sc_need_pattern : FnScope N_need_pattern p_need_pattern (defScope s_need_pattern) := ⟨rfl, rfl, rfl, by decide +kernel, rfl, by decide +kernel, by decide +kernel⟩
def d_need_pattern : He.DefD := ⟨("need_pattern", none), "need_pattern", "need_pattern", defArgs s_need_pattern, defBody s_need_pattern, defScope s_need_pattern, [], []⟩
abbrev F_need_pattern (K : PySem.W.Frag) (f : Addr) (fd : FuncData) : Prop := FunD K "need_pattern" "need_pattern" (defArgs s_need_pattern) (defBody s_need_pattern) (defScope s_need_pattern) [] [] f fd
abbrev s_of_length : Stmt := topS 25
abbrev N_of_length : List Str := ["pattern", "many", "words"]
abbrev p_of_length : List Str := ["pattern", "many"]
theorem sc_of_length : FnScope N_of_length p_of_length (defScope s_of_length) := ⟨rfl, rfl, rfl, by decide +kernel, rfl, by decide +kernel, by decide +kernel⟩
def d_of_length : He.DefD := ⟨("of_length", none), "of_length", "of_length", defArgs s_of_length, defBody s_of_length, defScope s_of_length, [], []⟩
abbrev F_of_length (K : PySem.W.Frag) (f : Addr) (fd : FuncData) : Prop := FunD K "of_length" "of_length" (defArgs s_of_length) (defBody s_of_length) (defScope s_of_length) [] [] f fd
abbrev s_does_fit : Stmt := topS 26
abbrev N_does_fit : List Str := ["pattern", "line", "parts", "words", "word", "part"]
abbrev p_does_fit : List Str := ["pattern", "line"]
theorem sc_does_fit : FnScope N_does_fit p_does_fit (defScope s_does_fit) := ⟨rfl, rfl, rfl, by decide +kernel, rfl, by decide +kernel, by decide +kernel⟩
def d_does_fit : He.DefD := ⟨("does_fit", none), "does_fit", "does_fit", defArgs s_does_fit, defBody s_does_fit, defScope s_does_fit, [], []⟩
abbrev F_does_fit (K : PySem.W.Frag) (f : Addr) (fd : FuncData) : Prop := FunD K "does_fit" "does_fit" (defArgs s_does_fit) (defBody s_does_fit) (defScope s_does_fit) [] [] f fd
abbrev s_law_mix : Stmt := topS 36
abbrev N_law_mix : List Str := ["_law_script", "_law_seed", "_law_mixed", "_law_cell"]
abbrev p_law_mix : List Str := ["_law_script", "_law_seed"]
theorem sc_law_mix : FnScope N_law_mix p_law_mix (defScope s_law_mix) := ⟨rfl, rfl, rfl, by decide +kernel, rfl, by decide +kernel, by decide +kernel⟩
def d_law_mix : He.DefD := ⟨("_law_mix", none), "_law_mix", "_law_mix", defArgs s_law_mix, defBody s_law_mix, defScope s_law_mix, [], []⟩
abbrev F_law_mix (K : PySem.W.Frag) (f : Addr) (fd : FuncData) : Prop := FunD K "_law_mix" "_law_mix" (defArgs s_law_mix) (defBody s_law_mix) (defScope s_law_mix) [] [] f fd
abbrev s_law_next : Stmt := topS 37
abbrev N_law_next : List Str := ["_law_h", "_law_many", "_law_cell"]
abbrev p_law_next : List Str := ["_law_h", "_law_many"]
theorem sc_law_next : FnScope N_law_next p_law_next (defScope s_law_next) := ⟨rfl, rfl, rfl, by decide +kernel, rfl, by decide +kernel, by decide +kernel⟩
def d_law_next : He.DefD := ⟨("_law_next", none), "_law_next", "_law_next", defArgs s_law_next, defBody s_law_next, defScope s_law_next, [], []⟩
abbrev F_law_next (K : PySem.W.Frag) (f : Addr) (fd : FuncData) : Prop := FunD K "_law_next" "_law_next" (defArgs s_law_next) (defBody s_law_next) (defScope s_law_next) [] [] f fd
abbrev s_law_alike : Stmt := topS 38
abbrev N_law_alike : List Str := ["_law_found", "_law_due", "_law_k"]
abbrev p_law_alike : List Str := ["_law_found", "_law_due"]
theorem sc_law_alike : FnScope N_law_alike p_law_alike (defScope s_law_alike) := ⟨rfl, rfl, rfl, by decide +kernel, rfl, by decide +kernel, by decide +kernel⟩
def d_law_alike : He.DefD := ⟨("_law_alike", none), "_law_alike", "_law_alike", defArgs s_law_alike, defBody s_law_alike, defScope s_law_alike, [], []⟩
abbrev F_law_alike (K : PySem.W.Frag) (f : Addr) (fd : FuncData) : Prop := FunD K "_law_alike" "_law_alike" (defArgs s_law_alike) (defBody s_law_alike) (defScope s_law_alike) [] [] f fd
abbrev s_law_parts : Stmt := topS 39
abbrev N_law_parts : List Str := ["_law_pattern", "_law_wide", "_law_words"]
abbrev p_law_parts : List Str := ["_law_pattern", "_law_wide"]
theorem sc_law_parts : FnScope N_law_parts p_law_parts (defScope s_law_parts) := ⟨rfl, rfl, rfl, by decide +kernel, rfl, by decide +kernel, by decide +kernel⟩
def d_law_parts : He.DefD := ⟨("_law_parts", none), "_law_parts", "_law_parts", defArgs s_law_parts, defBody s_law_parts, defScope s_law_parts, [], []⟩
abbrev F_law_parts (K : PySem.W.Frag) (f : Addr) (fd : FuncData) : Prop := FunD K "_law_parts" "_law_parts" (defArgs s_law_parts) (defBody s_law_parts) (defScope s_law_parts) [] [] f fd
abbrev s_law_fits : Stmt := topS 40
abbrev N_law_fits : List Str := ["_law_pattern", "_law_line", "_law_parts_here", "_law_words", "_law_k"]
abbrev p_law_fits : List Str := ["_law_pattern", "_law_line"]
theorem sc_law_fits : FnScope N_law_fits p_law_fits (defScope s_law_fits) := ⟨rfl, rfl, rfl, by decide +kernel, rfl, by decide +kernel, by decide +kernel⟩
def d_law_fits : He.DefD := ⟨("_law_fits", none), "_law_fits", "_law_fits", defArgs s_law_fits, defBody s_law_fits, defScope s_law_fits, [], []⟩
abbrev F_law_fits (K : PySem.W.Frag) (f : Addr) (fd : FuncData) : Prop := FunD K "_law_fits" "_law_fits" (defArgs s_law_fits) (defBody s_law_fits) (defScope s_law_fits) [] [] f fd
abbrev s_Listener___init__ : Stmt := inClass (topS 33) 0
abbrev N_Listener___init__ : List Str := ["self", "number", "pattern", "work", "rank"]
abbrev p_Listener___init__ : List Str := ["self", "number", "pattern", "work", "rank"]
theorem sc_Listener___init__ : FnScope N_Listener___init__ p_Listener___init__ (defScope s_Listener___init__) := ⟨rfl, rfl, rfl, by decide +kernel, rfl, by decide +kernel, by decide +kernel⟩
def d_Listener___init__ : He.DefD := ⟨("Listener", some "__init__"), "__init__", "Listener.__init__", defArgs s_Listener___init__, defBody s_Listener___init__, defScope s_Listener___init__, [], []⟩
abbrev F_Listener___init__ (K : PySem.W.Frag) (f : Addr) (fd : FuncData) : Prop := FunD K "__init__" "Listener.__init__" (defArgs s_Listener___init__) (defBody s_Listener___init__) (defScope s_Listener___init__) [] [] f fd
abbrev s_Net___init__ : Stmt := inClass (topS 34) 0
abbrev N_Net___init__ : List Str := ["self", "keeps", "faults"]
abbrev p_Net___init__ : List Str := ["self", "keeps", "faults"]
theorem sc_Net___init__ : FnScope N_Net___init__ p_Net___init__ (defScope s_Net___init__) := ⟨rfl, rfl, rfl, by decide +kernel, rfl, by decide +kernel, by decide +kernel⟩
def d_Net___init__ : He.DefD := ⟨("Net", some "__init__"), "__init__", "Net.__init__", defArgs s_Net___init__, defBody s_Net___init__, defScope s_Net___init__, [.int 0, .str "stop"], []⟩
abbrev F_Net___init__ (K : PySem.W.Frag) (f : Addr) (fd : FuncData) : Prop := FunD K "__init__" "Net.__init__" (defArgs s_Net___init__) (defBody s_Net___init__) (defScope s_Net___init__) [V.int 0, V.str "stop"] [] f fd
abbrev s_Net_in_order : Stmt := inClass (topS 34) 6
abbrev N_Net_in_order : List Str := ["self", "some", "one"]
abbrev p_Net_in_order : List Str := ["self"]
theorem sc_Net_in_order : FnScope N_Net_in_order p_Net_in_order (defScope s_Net_in_order) := ⟨rfl, rfl, rfl, by decide +kernel, rfl, by decide +kernel, by decide +kernel⟩
def d_Net_in_order : He.DefD := ⟨("Net", some "in_order"), "in_order", "Net.in_order", defArgs s_Net_in_order, defBody s_Net_in_order, defScope s_Net_in_order, [], []⟩
abbrev F_Net_in_order (K : PySem.W.Frag) (f : Addr) (fd : FuncData) : Prop := FunD K "in_order" "Net.in_order" (defArgs s_Net_in_order) (defBody s_Net_in_order) (defScope s_Net_in_order) [] [] f fd
abbrev s_Net_hearing : Stmt := inClass (topS 34) 8
abbrev N_Net_hearing : List Str := ["self", "line", "one"]
abbrev p_Net_hearing : List Str := ["self", "line"]
theorem sc_Net_hearing : FnScope N_Net_hearing p_Net_hearing (defScope s_Net_hearing) := ⟨rfl, rfl, rfl, by decide +kernel, rfl, by decide +kernel, by decide +kernel⟩
def d_Net_hearing : He.DefD := ⟨("Net", some "hearing"), "hearing", "Net.hearing", defArgs s_Net_hearing, defBody s_Net_hearing, defScope s_Net_hearing, [], []⟩
abbrev F_Net_hearing (K : PySem.W.Frag) (f : Addr) (fd : FuncData) : Prop := FunD K "hearing" "Net.hearing" (defArgs s_Net_hearing) (defBody s_Net_hearing) (defScope s_Net_hearing) [] [] f fd
abbrev s_Net_listeners : Stmt := inClass (topS 34) 7
abbrev N_Net_listeners : List Str := ["self", "one"]
abbrev p_Net_listeners : List Str := ["self"]
theorem sc_Net_listeners : FnScope N_Net_listeners p_Net_listeners (defScope s_Net_listeners) := ⟨rfl, rfl, rfl, by decide +kernel, rfl, by decide +kernel, by decide +kernel⟩
def d_Net_listeners : He.DefD := ⟨("Net", some "listeners"), "listeners", "Net.listeners", defArgs s_Net_listeners, defBody s_Net_listeners, defScope s_Net_listeners, [], []⟩
abbrev F_Net_listeners (K : PySem.W.Frag) (f : Addr) (fd : FuncData) : Prop := FunD K "listeners" "Net.listeners" (defArgs s_Net_listeners) (defBody s_Net_listeners) (defScope s_Net_listeners) [] [] f fd
abbrev s_Net_is_due : Stmt := inClass (topS 34) 13
abbrev N_Net_is_due : List Str := ["self", "one", "line", "thing", "gate"]
abbrev p_Net_is_due : List Str := ["self", "one", "line", "thing"]
theorem sc_Net_is_due : FnScope N_Net_is_due p_Net_is_due (defScope s_Net_is_due) := ⟨rfl, rfl, rfl, by decide +kernel, rfl, by decide +kernel, by decide +kernel⟩
def d_Net_is_due : He.DefD := ⟨("Net", some "is_due"), "is_due", "Net.is_due", defArgs s_Net_is_due, defBody s_Net_is_due, defScope s_Net_is_due, [], []⟩
abbrev F_Net_is_due (K : PySem.W.Frag) (f : Addr) (fd : FuncData) : Prop := FunD K "is_due" "Net.is_due" (defArgs s_Net_is_due) (defBody s_Net_is_due) (defScope s_Net_is_due) [] [] f fd
abbrev s_Net_answer : Stmt := inClass (topS 34) 14
abbrev N_Net_answer : List Str := ["self", "one", "line", "thing", "work"]
abbrev p_Net_answer : List Str := ["self", "one", "line", "thing"]
theorem sc_Net_answer : FnScope N_Net_answer p_Net_answer (defScope s_Net_answer) := ⟨rfl, rfl, rfl, by decide +kernel, rfl, by decide +kernel, by decide +kernel⟩
def d_Net_answer : He.DefD := ⟨("Net", some "answer"), "answer", "Net.answer", defArgs s_Net_answer, defBody s_Net_answer, defScope s_Net_answer, [], []⟩
abbrev F_Net_answer (K : PySem.W.Frag) (f : Addr) (fd : FuncData) : Prop := FunD K "answer" "Net.answer" (defArgs s_Net_answer) (defBody s_Net_answer) (defScope s_Net_answer) [] [] f fd
abbrev s_Net_tell_round : Stmt := inClass (topS 34) 15
abbrev N_Net_tell_round : List Str := ["self", "line", "thing", "found", "one", "told"]
abbrev p_Net_tell_round : List Str := ["self", "line", "thing"]
theorem sc_Net_tell_round : FnScope N_Net_tell_round p_Net_tell_round (defScope s_Net_tell_round) := ⟨rfl, rfl, rfl, by decide +kernel, rfl, by decide +kernel, by decide +kernel⟩
def d_Net_tell_round : He.DefD := ⟨("Net", some "tell_round"), "tell_round", "Net.tell_round", defArgs s_Net_tell_round, defBody s_Net_tell_round, defScope s_Net_tell_round, [], []⟩
abbrev F_Net_tell_round (K : PySem.W.Frag) (f : Addr) (fd : FuncData) : Prop := FunD K "tell_round" "Net.tell_round" (defArgs s_Net_tell_round) (defBody s_Net_tell_round) (defScope s_Net_tell_round) [] [] f fd
abbrev s_Net_within : Stmt := inClass (topS 34) 10
abbrev N_Net_within : List Str := ["self", "round_of", "found"]
abbrev p_Net_within : List Str := ["self", "round_of"]
theorem sc_Net_within : FnScope N_Net_within p_Net_within (defScope s_Net_within) := ⟨rfl, rfl, rfl, by decide +kernel, rfl, by decide +kernel, by decide +kernel⟩
def d_Net_within : He.DefD := ⟨("Net", some "within"), "within", "Net.within", defArgs s_Net_within, defBody s_Net_within, defScope s_Net_within, [], []⟩
abbrev F_Net_within (K : PySem.W.Frag) (f : Addr) (fd : FuncData) : Prop := FunD K "within" "Net.within" (defArgs s_Net_within) (defBody s_Net_within) (defScope s_Net_within) [] [] f fd
abbrev s_Net_clear : Stmt := inClass (topS 34) 12
abbrev N_Net_clear : List Str := ["self", "line", "thing"]
abbrev p_Net_clear : List Str := ["self"]
theorem sc_Net_clear : FnScope N_Net_clear p_Net_clear (defScope s_Net_clear) := ⟨rfl, rfl, rfl, by decide +kernel, rfl, by decide +kernel, by decide +kernel⟩
def d_Net_clear : He.DefD := ⟨("Net", some "clear"), "clear", "Net.clear", defArgs s_Net_clear, defBody s_Net_clear, defScope s_Net_clear, [], []⟩
abbrev F_Net_clear (K : PySem.W.Frag) (f : Addr) (fd : FuncData) : Prop := FunD K "clear" "Net.clear" (defArgs s_Net_clear) (defBody s_Net_clear) (defScope s_Net_clear) [] [] f fd
abbrev s_Net_going : Stmt := inClass (topS 34) 11
abbrev N_Net_going : List Str := ["self", "round_of", "found"]
abbrev p_Net_going : List Str := ["self", "round_of"]
theorem sc_Net_going : FnScope N_Net_going p_Net_going (defScope s_Net_going) := ⟨rfl, rfl, rfl, by decide +kernel, rfl, by decide +kernel, by decide +kernel⟩
def d_Net_going : He.DefD := ⟨("Net", some "going"), "going", "Net.going", defArgs s_Net_going, defBody s_Net_going, defScope s_Net_going, [], []⟩
abbrev F_Net_going (K : PySem.W.Frag) (f : Addr) (fd : FuncData) : Prop := FunD K "going" "Net.going" (defArgs s_Net_going) (defBody s_Net_going) (defScope s_Net_going) [] [] f fd
abbrev s_Net_tell : Stmt := inClass (topS 34) 20
abbrev N_Net_tell : List Str := ["self", "line", "thing", "how"]
abbrev p_Net_tell : List Str := ["self", "line", "thing", "how"]
theorem sc_Net_tell : FnScope N_Net_tell p_Net_tell (defScope s_Net_tell) := ⟨rfl, rfl, rfl, by decide +kernel, rfl, by decide +kernel, by decide +kernel⟩
def d_Net_tell : He.DefD := ⟨("Net", some "tell"), "tell", "Net.tell", defArgs s_Net_tell, defBody s_Net_tell, defScope s_Net_tell, [.str "deep"], []⟩
abbrev F_Net_tell (K : PySem.W.Frag) (f : Addr) (fd : FuncData) : Prop := FunD K "tell" "Net.tell" (defArgs s_Net_tell) (defBody s_Net_tell) (defScope s_Net_tell) [V.str "deep"] [] f fd
abbrev s_Net_past_round : Stmt := inClass (topS 34) 16
abbrev N_Net_past_round : List Str := ["self", "one", "rows", "line", "thing"]
abbrev p_Net_past_round : List Str := ["self", "one"]
theorem sc_Net_past_round : FnScope N_Net_past_round p_Net_past_round (defScope s_Net_past_round) := ⟨rfl, rfl, rfl, by decide +kernel, rfl, by decide +kernel, by decide +kernel⟩
def d_Net_past_round : He.DefD := ⟨("Net", some "past_round"), "past_round", "Net.past_round", defArgs s_Net_past_round, defBody s_Net_past_round, defScope s_Net_past_round, [], []⟩
abbrev F_Net_past_round (K : PySem.W.Frag) (f : Addr) (fd : FuncData) : Prop := FunD K "past_round" "Net.past_round" (defArgs s_Net_past_round) (defBody s_Net_past_round) (defScope s_Net_past_round) [] [] f fd
abbrev s_Net_listen : Stmt := inClass (topS 34) 1
abbrev N_Net_listen : List Str := ["self", "pattern", "work", "rank", "once", "gate", "group", "past", "one"]
abbrev p_Net_listen : List Str := ["self", "pattern", "work", "rank", "once", "gate", "group", "past"]
theorem sc_Net_listen : FnScope N_Net_listen p_Net_listen (defScope s_Net_listen) := ⟨rfl, rfl, rfl, by decide +kernel, rfl, by decide +kernel, by decide +kernel⟩
def d_Net_listen : He.DefD := ⟨("Net", some "listen"), "listen", "Net.listen", defArgs s_Net_listen, defBody s_Net_listen, defScope s_Net_listen, [.int 0, .bl false, .non, .str "", .bl false], []⟩
abbrev F_Net_listen (K : PySem.W.Frag) (f : Addr) (fd : FuncData) : Prop := FunD K "listen" "Net.listen" (defArgs s_Net_listen) (defBody s_Net_listen) (defScope s_Net_listen) [V.int 0, V.bl false, V.non, V.str "", V.bl false] [] f fd
abbrev s_Net_waits : Stmt := inClass (topS 34) 26
abbrev N_Net_waits : List Str := ["self"]
abbrev p_Net_waits : List Str := ["self"]
theorem sc_Net_waits : FnScope N_Net_waits p_Net_waits (defScope s_Net_waits) := ⟨rfl, rfl, rfl, by decide +kernel, rfl, by decide +kernel, by decide +kernel⟩
def d_Net_waits : He.DefD := ⟨("Net", some "waits"), "waits", "Net.waits", defArgs s_Net_waits, defBody s_Net_waits, defScope s_Net_waits, [], []⟩
abbrev F_Net_waits (K : PySem.W.Frag) (f : Addr) (fd : FuncData) : Prop := FunD K "waits" "Net.waits" (defArgs s_Net_waits) (defBody s_Net_waits) (defScope s_Net_waits) [] [] f fd
abbrev s_Net_faults : Stmt := inClass (topS 34) 28
abbrev N_Net_faults : List Str := ["self"]
abbrev p_Net_faults : List Str := ["self"]
theorem sc_Net_faults : FnScope N_Net_faults p_Net_faults (defScope s_Net_faults) := ⟨rfl, rfl, rfl, by decide +kernel, rfl, by decide +kernel, by decide +kernel⟩
def d_Net_faults : He.DefD := ⟨("Net", some "faults"), "faults", "Net.faults", defArgs s_Net_faults, defBody s_Net_faults, defScope s_Net_faults, [], []⟩
abbrev F_Net_faults (K : PySem.W.Frag) (f : Addr) (fd : FuncData) : Prop := FunD K "faults" "Net.faults" (defArgs s_Net_faults) (defBody s_Net_faults) (defScope s_Net_faults) [] [] f fd
abbrev s_Net_kept : Stmt := inClass (topS 34) 27
abbrev N_Net_kept : List Str := ["self", "line"]
abbrev p_Net_kept : List Str := ["self", "line"]
theorem sc_Net_kept : FnScope N_Net_kept p_Net_kept (defScope s_Net_kept) := ⟨rfl, rfl, rfl, by decide +kernel, rfl, by decide +kernel, by decide +kernel⟩
def d_Net_kept : He.DefD := ⟨("Net", some "kept"), "kept", "Net.kept", defArgs s_Net_kept, defBody s_Net_kept, defScope s_Net_kept, [], []⟩
abbrev F_Net_kept (K : PySem.W.Frag) (f : Addr) (fd : FuncData) : Prop := FunD K "kept" "Net.kept" (defArgs s_Net_kept) (defBody s_Net_kept) (defScope s_Net_kept) [] [] f fd
abbrev s_law_kind : Stmt := topS 41
abbrev N_law_kind : List Str := ["_law_call_here", "e", "_law_kinds", "_law_words"]
abbrev p_law_kind : List Str := ["_law_call_here"]
theorem sc_law_kind : FnScope N_law_kind p_law_kind (defScope s_law_kind) := ⟨rfl, rfl, rfl, by decide +kernel, rfl, by decide +kernel, by decide +kernel⟩
def d_law_kind : He.DefD := ⟨("_law_kind", none), "_law_kind", "_law_kind", defArgs s_law_kind, defBody s_law_kind, defScope s_law_kind, [], []⟩
abbrev F_law_kind (K : PySem.W.Frag) (f : Addr) (fd : FuncData) : Prop := FunD K "_law_kind" "_law_kind" (defArgs s_law_kind) (defBody s_law_kind) (defScope s_law_kind) [] [] f fd
abbrev s_law_noted : Stmt := topS 42
abbrev N_law_noted : List Str := ["_law_log", "_law_mark", "_law_answer", "_law_call"]
abbrev p_law_noted : List Str := ["_law_log", "_law_mark", "_law_answer"]
theorem sc_law_noted : FnScope N_law_noted p_law_noted (defScope s_law_noted) := ⟨rfl, rfl, rfl, by decide +kernel, rfl, by decide +kernel, by decide +kernel⟩
def d_law_noted : He.DefD := ⟨("_law_noted", none), "_law_noted", "_law_noted", defArgs s_law_noted, defBody s_law_noted, defScope s_law_noted, [], []⟩
abbrev F_law_noted (K : PySem.W.Frag) (f : Addr) (fd : FuncData) : Prop := FunD K "_law_noted" "_law_noted" (defArgs s_law_noted) (defBody s_law_noted) (defScope s_law_noted) [] [] f fd
abbrev s_law : Stmt := topS 43
abbrev N_law : List Str := ["_law_script", "_law_h", "_law_lines", "_law_turn", "_law_keeps", "_law_net", "_law_store", "_law_line", "_law_time", "_law_found", "_law_pattern", "_law_is_once", "_law_log", "_law_due", "_law_kept_so", "_law_thing", "_law_far"]
abbrev p_law : List Str := ["_law_script"]
theorem sc_law : FnScope N_law p_law (defScope s_law) := ⟨rfl, rfl, rfl, by decide +kernel, rfl, by decide +kernel, by decide +kernel⟩
def d_law : He.DefD := ⟨("law", none), "law", "law", defArgs s_law, defBody s_law, defScope s_law, [], []⟩
abbrev F_law (K : PySem.W.Frag) (f : Addr) (fd : FuncData) : Prop := FunD K "law" "law" (defArgs s_law) (defBody s_law) (defScope s_law) [] [] f fd
abbrev s_Net_listener : Stmt := inClass (topS 34) 2
abbrev N_Net_listener : List Str := ["self", "number"]
abbrev p_Net_listener : List Str := ["self", "number"]
theorem sc_Net_listener : FnScope N_Net_listener p_Net_listener (defScope s_Net_listener) := ⟨rfl, rfl, rfl, by decide +kernel, rfl, by decide +kernel, by decide +kernel⟩
def d_Net_listener : He.DefD := ⟨("Net", some "listener"), "listener", "Net.listener", defArgs s_Net_listener, defBody s_Net_listener, defScope s_Net_listener, [], []⟩
abbrev F_Net_listener (K : PySem.W.Frag) (f : Addr) (fd : FuncData) : Prop := FunD K "listener" "Net.listener" (defArgs s_Net_listener) (defBody s_Net_listener) (defScope s_Net_listener) [] [] f fd
abbrev s_Net_may_round : Stmt := inClass (topS 34) 19
abbrev N_Net_may_round : List Str := ["self", "line", "thing", "one", "told"]
abbrev p_Net_may_round : List Str := ["self", "line", "thing"]
theorem sc_Net_may_round : FnScope N_Net_may_round p_Net_may_round (defScope s_Net_may_round) := ⟨rfl, rfl, rfl, by decide +kernel, rfl, by decide +kernel, by decide +kernel⟩
def d_Net_may_round : He.DefD := ⟨("Net", some "may_round"), "may_round", "Net.may_round", defArgs s_Net_may_round, defBody s_Net_may_round, defScope s_Net_may_round, [], []⟩
abbrev F_Net_may_round (K : PySem.W.Frag) (f : Addr) (fd : FuncData) : Prop := FunD K "may_round" "Net.may_round" (defArgs s_Net_may_round) (defBody s_Net_may_round) (defScope s_Net_may_round) [] [] f fd
abbrev s_Net_may : Stmt := inClass (topS 34) 23
abbrev N_Net_may : List Str := ["self", "line", "thing"]
abbrev p_Net_may : List Str := ["self", "line", "thing"]
theorem sc_Net_may : FnScope N_Net_may p_Net_may (defScope s_Net_may) := ⟨rfl, rfl, rfl, by decide +kernel, rfl, by decide +kernel, by decide +kernel⟩
def d_Net_may : He.DefD := ⟨("Net", some "may"), "may", "Net.may", defArgs s_Net_may, defBody s_Net_may, defScope s_Net_may, [], []⟩
abbrev F_Net_may (K : PySem.W.Frag) (f : Addr) (fd : FuncData) : Prop := FunD K "may" "Net.may" (defArgs s_Net_may) (defBody s_Net_may) (defScope s_Net_may) [] [] f fd
def fa : List He.Fa := [.free "len", .int "MOST_LETTERS" 4, .free "all", .str "LETTERS" "abcdefghijklmnopqrstuvwxyz", .int "MOST_WORDS" 6, .str "REST" "#", .str "ANY" "*", .glo "BadLine", .exc "BadLine", .glo "BadPattern", .exc "BadPattern", .free "zip", .free "list", .free "max", .free "isinstance", .free "tuple", .free "range", .free "str", .free "int", .free "bool", .cls "Listener", .noat "Listener" "number", .noat "Listener" "pattern", .noat "Listener" "work", .noat "Listener" "rank", .noat "Listener" "is_once", .noat "Listener" "gate", .noat "Listener" "group", .noat "Listener" "is_muted", .noat "Listener" "is_gone", .int "MOST_KEPT" 20, .glo "BadCount", .exc "BadCount", .glo "POLICIES", .glo "BadWord", .exc "BadWord", .cls "Net", .noat "Net" "known", .noat "Net" "policy", .noat "Net" "most", .noat "Net" "depth", .noat "Net" "locks", .noat "Net" "waiting", .noat "Net" "store", .noat "Net" "faulty", .free "sorted", .meth "Net" "in_order", .glo "HearError", .meth "Net" "is_due", .meth "Net" "hearing", .meth "Net" "answer", .int "MOST_DEEP" 20, .glo "TooDeep", .exc "TooDeep", .meth "Net" "within", .meth "Net" "tell_round", .meth "Net" "clear", .glo "WAYS", .glo "Busy", .exc "Busy", .meth "Net" "going", .int "MOST_RANK" 9, .glo "Listener", .mkr "Listener", .meth "Net" "past_round", .glo "NoListener", .glo "NotHeld", .glo "NoWork", .glo "BadText", .glo "Halt", .free "ValueError", .glo "Net", .mkr "Net", .free "dict", .meth "Net" "tell", .meth "Net" "kept", .meth "Net" "listen", .meth "Net" "listeners", .exc "NoListener", .meth "Net" "may_round", .meth "Net" "listener", .meth "Net" "may", .meth "Net" "waits", .meth "Net" "faults", .glo "is_word", .glo "is_line", .glo "is_pattern", .glo "need_line", .glo "need_pattern", .glo "of_length", .glo "does_fit", .glo "_law_mix", .glo "_law_next", .glo "_law_alike", .glo "_law_parts", .glo "_law_fits", .glo "_law_kind", .glo "_law_noted", .glo "law"]
def fn : List He.DefD := [d_is_word, d_is_line, d_is_pattern, d_need_line, d_need_pattern, d_of_length, d_does_fit, d_law_mix, d_law_next, d_law_alike, d_law_parts, d_law_fits, d_Listener___init__, d_Net___init__, d_Net_in_order, d_Net_hearing, d_Net_listeners, d_Net_is_due, d_Net_answer, d_Net_tell_round, d_Net_within, d_Net_clear, d_Net_going, d_Net_tell, d_Net_past_round, d_Net_listen, d_Net_waits, d_Net_faults, d_Net_kept, d_law_kind, d_law_noted, d_law, d_Net_listener, d_Net_may_round, d_Net_may]
def exB (K : PySem.W.Frag) : Bool := tupB K "POLICIES" ["stop", "go"] && tupB K "WAYS" ["deep", "behind", "never"] && decide (He.ga K "Net" ≠ He.ga K "Listener") && refB K "BadCount" && true
def Tx (K : PySem.W.Frag) (mg : Str → Option Value) : Prop := ∃ h : Heap, K.In h ∧ h.Ns mainGlobals mg ∧ He.SaysD fa fn K ∧ exB K = true
section
variable {K : PySem.W.Frag} {mg : Str → Option Value}
theorem Tx.b_len (T : Tx K mg) : mg "len" = none := by obtain ⟨h, X, G, c, _⟩ := T; exact He.free_ok X G (c.fact 0 (f := .free "len") rfl)
theorem Tx.c_MOST_LETTERS (T : Tx K mg) : ∃ t, mg "MOST_LETTERS" = some (.int 4 t) := by obtain ⟨h, X, G, c, _⟩ := T; exact He.int_ok X G (c.fact 1 (f := .int "MOST_LETTERS" 4) rfl)
theorem Tx.b_all (T : Tx K mg) : mg "all" = none := by obtain ⟨h, X, G, c, _⟩ := T; exact He.free_ok X G (c.fact 2 (f := .free "all") rfl)
theorem Tx.c_LETTERS (T : Tx K mg) : ∃ t, mg "LETTERS" = some (.str "abcdefghijklmnopqrstuvwxyz" t) := by obtain ⟨h, X, G, c, _⟩ := T; exact He.str_ok X G (c.fact 3 (f := .str "LETTERS" "abcdefghijklmnopqrstuvwxyz") rfl)
theorem Tx.c_MOST_WORDS (T : Tx K mg) : ∃ t, mg "MOST_WORDS" = some (.int 6 t) := by obtain ⟨h, X, G, c, _⟩ := T; exact He.int_ok X G (c.fact 4 (f := .int "MOST_WORDS" 6) rfl)
theorem Tx.c_REST (T : Tx K mg) : ∃ t, mg "REST" = some (.str "#" t) := by obtain ⟨h, X, G, c, _⟩ := T; exact He.str_ok X G (c.fact 5 (f := .str "REST" "#") rfl)
theorem Tx.c_ANY (T : Tx K mg) : ∃ t, mg "ANY" = some (.str "*" t) := by obtain ⟨h, X, G, c, _⟩ := T; exact He.str_ok X G (c.fact 6 (f := .str "ANY" "*") rfl)
theorem Tx.g_BadLine (T : Tx K mg) : mg "BadLine" = some (.ref (He.ga K "BadLine")) := by obtain ⟨h, X, G, c, _⟩ := T; exact He.glo_ok X G (c.fact 7 (f := .glo "BadLine") rfl)
theorem Tx.x_BadLine (T : Tx K mg) : PySem.W.excIn K (He.ga K "BadLine") He.veBase "ValueError.__new__" = true ∧ PySem.W.keepIn K (.ref (He.ga K "BadLine")) = true ∧ PySem.W.subIn K (.ref (He.ga K "BadLine")) (.type "BaseException") = some true ∧ PySem.W.typeIn K (.ref (He.ga K "BadLine")) = some (.type "type") := by obtain ⟨h, X, G, c, _⟩ := T; exact He.exc_ok (c.fact 8 (f := .exc "BadLine") rfl)
theorem Tx.g_BadPattern (T : Tx K mg) : mg "BadPattern" = some (.ref (He.ga K "BadPattern")) := by obtain ⟨h, X, G, c, _⟩ := T; exact He.glo_ok X G (c.fact 9 (f := .glo "BadPattern") rfl)
theorem Tx.x_BadPattern (T : Tx K mg) : PySem.W.excIn K (He.ga K "BadPattern") He.veBase "ValueError.__new__" = true ∧ PySem.W.keepIn K (.ref (He.ga K "BadPattern")) = true ∧ PySem.W.subIn K (.ref (He.ga K "BadPattern")) (.type "BaseException") = some true ∧ PySem.W.typeIn K (.ref (He.ga K "BadPattern")) = some (.type "type") := by obtain ⟨h, X, G, c, _⟩ := T; exact He.exc_ok (c.fact 10 (f := .exc "BadPattern") rfl)
theorem Tx.b_zip (T : Tx K mg) : mg "zip" = none := by obtain ⟨h, X, G, c, _⟩ := T; exact He.free_ok X G (c.fact 11 (f := .free "zip") rfl)
theorem Tx.b_list (T : Tx K mg) : mg "list" = none := by obtain ⟨h, X, G, c, _⟩ := T; exact He.free_ok X G (c.fact 12 (f := .free "list") rfl)
theorem Tx.b_max (T : Tx K mg) : mg "max" = none := by obtain ⟨h, X, G, c, _⟩ := T; exact He.free_ok X G (c.fact 13 (f := .free "max") rfl)
theorem Tx.b_isinstance (T : Tx K mg) : mg "isinstance" = none := by obtain ⟨h, X, G, c, _⟩ := T; exact He.free_ok X G (c.fact 14 (f := .free "isinstance") rfl)
theorem Tx.b_tuple (T : Tx K mg) : mg "tuple" = none := by obtain ⟨h, X, G, c, _⟩ := T; exact He.free_ok X G (c.fact 15 (f := .free "tuple") rfl)
theorem Tx.b_range (T : Tx K mg) : mg "range" = none := by obtain ⟨h, X, G, c, _⟩ := T; exact He.free_ok X G (c.fact 16 (f := .free "range") rfl)
theorem Tx.b_str (T : Tx K mg) : mg "str" = none := by obtain ⟨h, X, G, c, _⟩ := T; exact He.free_ok X G (c.fact 17 (f := .free "str") rfl)
theorem Tx.b_int (T : Tx K mg) : mg "int" = none := by obtain ⟨h, X, G, c, _⟩ := T; exact He.free_ok X G (c.fact 18 (f := .free "int") rfl)
theorem Tx.b_bool (T : Tx K mg) : mg "bool" = none := by obtain ⟨h, X, G, c, _⟩ := T; exact He.free_ok X G (c.fact 19 (f := .free "bool") rfl)
theorem Tx.cls_Listener (T : Tx K mg) : Cls K (He.ga K "Listener") := by obtain ⟨h, X, G, c, _⟩ := T; exact He.cls_ok (c.fact 20 (f := .cls "Listener") rfl)
theorem Tx.n_Listener_number (T : Tx K mg) : NoAttr K (He.ga K "Listener") "number" := by obtain ⟨h, X, G, c, _⟩ := T; exact He.noat_ok (c.fact 21 (f := .noat "Listener" "number") rfl)
theorem Tx.n_Listener_pattern (T : Tx K mg) : NoAttr K (He.ga K "Listener") "pattern" := by obtain ⟨h, X, G, c, _⟩ := T; exact He.noat_ok (c.fact 22 (f := .noat "Listener" "pattern") rfl)
theorem Tx.n_Listener_work (T : Tx K mg) : NoAttr K (He.ga K "Listener") "work" := by obtain ⟨h, X, G, c, _⟩ := T; exact He.noat_ok (c.fact 23 (f := .noat "Listener" "work") rfl)
theorem Tx.n_Listener_rank (T : Tx K mg) : NoAttr K (He.ga K "Listener") "rank" := by obtain ⟨h, X, G, c, _⟩ := T; exact He.noat_ok (c.fact 24 (f := .noat "Listener" "rank") rfl)
theorem Tx.n_Listener_is_once (T : Tx K mg) : NoAttr K (He.ga K "Listener") "is_once" := by obtain ⟨h, X, G, c, _⟩ := T; exact He.noat_ok (c.fact 25 (f := .noat "Listener" "is_once") rfl)
theorem Tx.n_Listener_gate (T : Tx K mg) : NoAttr K (He.ga K "Listener") "gate" := by obtain ⟨h, X, G, c, _⟩ := T; exact He.noat_ok (c.fact 26 (f := .noat "Listener" "gate") rfl)
theorem Tx.n_Listener_group (T : Tx K mg) : NoAttr K (He.ga K "Listener") "group" := by obtain ⟨h, X, G, c, _⟩ := T; exact He.noat_ok (c.fact 27 (f := .noat "Listener" "group") rfl)
theorem Tx.n_Listener_is_muted (T : Tx K mg) : NoAttr K (He.ga K "Listener") "is_muted" := by obtain ⟨h, X, G, c, _⟩ := T; exact He.noat_ok (c.fact 28 (f := .noat "Listener" "is_muted") rfl)
theorem Tx.n_Listener_is_gone (T : Tx K mg) : NoAttr K (He.ga K "Listener") "is_gone" := by obtain ⟨h, X, G, c, _⟩ := T; exact He.noat_ok (c.fact 29 (f := .noat "Listener" "is_gone") rfl)
theorem Tx.c_MOST_KEPT (T : Tx K mg) : ∃ t, mg "MOST_KEPT" = some (.int 20 t) := by obtain ⟨h, X, G, c, _⟩ := T; exact He.int_ok X G (c.fact 30 (f := .int "MOST_KEPT" 20) rfl)
theorem Tx.g_BadCount (T : Tx K mg) : mg "BadCount" = some (.ref (He.ga K "BadCount")) := by obtain ⟨h, X, G, c, _⟩ := T; exact He.glo_ok X G (c.fact 31 (f := .glo "BadCount") rfl)
theorem Tx.x_BadCount (T : Tx K mg) : PySem.W.excIn K (He.ga K "BadCount") He.veBase "ValueError.__new__" = true ∧ PySem.W.keepIn K (.ref (He.ga K "BadCount")) = true ∧ PySem.W.subIn K (.ref (He.ga K "BadCount")) (.type "BaseException") = some true ∧ PySem.W.typeIn K (.ref (He.ga K "BadCount")) = some (.type "type") := by obtain ⟨h, X, G, c, _⟩ := T; exact He.exc_ok (c.fact 32 (f := .exc "BadCount") rfl)
theorem Tx.g_POLICIES (T : Tx K mg) : mg "POLICIES" = some (.ref (He.ga K "POLICIES")) := by obtain ⟨h, X, G, c, _⟩ := T; exact He.glo_ok X G (c.fact 33 (f := .glo "POLICIES") rfl)
theorem Tx.g_BadWord (T : Tx K mg) : mg "BadWord" = some (.ref (He.ga K "BadWord")) := by obtain ⟨h, X, G, c, _⟩ := T; exact He.glo_ok X G (c.fact 34 (f := .glo "BadWord") rfl)
theorem Tx.x_BadWord (T : Tx K mg) : PySem.W.excIn K (He.ga K "BadWord") He.veBase "ValueError.__new__" = true ∧ PySem.W.keepIn K (.ref (He.ga K "BadWord")) = true ∧ PySem.W.subIn K (.ref (He.ga K "BadWord")) (.type "BaseException") = some true ∧ PySem.W.typeIn K (.ref (He.ga K "BadWord")) = some (.type "type") := by obtain ⟨h, X, G, c, _⟩ := T; exact He.exc_ok (c.fact 35 (f := .exc "BadWord") rfl)
theorem Tx.cls_Net (T : Tx K mg) : Cls K (He.ga K "Net") := by obtain ⟨h, X, G, c, _⟩ := T; exact He.cls_ok (c.fact 36 (f := .cls "Net") rfl)
theorem Tx.n_Net_known (T : Tx K mg) : NoAttr K (He.ga K "Net") "known" := by obtain ⟨h, X, G, c, _⟩ := T; exact He.noat_ok (c.fact 37 (f := .noat "Net" "known") rfl)
theorem Tx.n_Net_policy (T : Tx K mg) : NoAttr K (He.ga K "Net") "policy" := by obtain ⟨h, X, G, c, _⟩ := T; exact He.noat_ok (c.fact 38 (f := .noat "Net" "policy") rfl)
theorem Tx.n_Net_most (T : Tx K mg) : NoAttr K (He.ga K "Net") "most" := by obtain ⟨h, X, G, c, _⟩ := T; exact He.noat_ok (c.fact 39 (f := .noat "Net" "most") rfl)
theorem Tx.n_Net_depth (T : Tx K mg) : NoAttr K (He.ga K "Net") "depth" := by obtain ⟨h, X, G, c, _⟩ := T; exact He.noat_ok (c.fact 40 (f := .noat "Net" "depth") rfl)
theorem Tx.n_Net_locks (T : Tx K mg) : NoAttr K (He.ga K "Net") "locks" := by obtain ⟨h, X, G, c, _⟩ := T; exact He.noat_ok (c.fact 41 (f := .noat "Net" "locks") rfl)
theorem Tx.n_Net_waiting (T : Tx K mg) : NoAttr K (He.ga K "Net") "waiting" := by obtain ⟨h, X, G, c, _⟩ := T; exact He.noat_ok (c.fact 42 (f := .noat "Net" "waiting") rfl)
theorem Tx.n_Net_store (T : Tx K mg) : NoAttr K (He.ga K "Net") "store" := by obtain ⟨h, X, G, c, _⟩ := T; exact He.noat_ok (c.fact 43 (f := .noat "Net" "store") rfl)
theorem Tx.n_Net_faulty (T : Tx K mg) : NoAttr K (He.ga K "Net") "faulty" := by obtain ⟨h, X, G, c, _⟩ := T; exact He.noat_ok (c.fact 44 (f := .noat "Net" "faulty") rfl)
theorem Tx.b_sorted (T : Tx K mg) : mg "sorted" = none := by obtain ⟨h, X, G, c, _⟩ := T; exact He.free_ok X G (c.fact 45 (f := .free "sorted") rfl)
theorem Tx.m_Net_in_order (T : Tx K mg) : Meth K (He.ga K "Net") "in_order" (He.ma K (He.ga K "Net") "in_order") := by obtain ⟨h, X, G, c, _⟩ := T; exact He.meth_ok (c.fact 46 (f := .meth "Net" "in_order") rfl)
theorem Tx.g_HearError (T : Tx K mg) : mg "HearError" = some (.ref (He.ga K "HearError")) := by obtain ⟨h, X, G, c, _⟩ := T; exact He.glo_ok X G (c.fact 47 (f := .glo "HearError") rfl)
theorem Tx.m_Net_is_due (T : Tx K mg) : Meth K (He.ga K "Net") "is_due" (He.ma K (He.ga K "Net") "is_due") := by obtain ⟨h, X, G, c, _⟩ := T; exact He.meth_ok (c.fact 48 (f := .meth "Net" "is_due") rfl)
theorem Tx.m_Net_hearing (T : Tx K mg) : Meth K (He.ga K "Net") "hearing" (He.ma K (He.ga K "Net") "hearing") := by obtain ⟨h, X, G, c, _⟩ := T; exact He.meth_ok (c.fact 49 (f := .meth "Net" "hearing") rfl)
theorem Tx.m_Net_answer (T : Tx K mg) : Meth K (He.ga K "Net") "answer" (He.ma K (He.ga K "Net") "answer") := by obtain ⟨h, X, G, c, _⟩ := T; exact He.meth_ok (c.fact 50 (f := .meth "Net" "answer") rfl)
theorem Tx.c_MOST_DEEP (T : Tx K mg) : ∃ t, mg "MOST_DEEP" = some (.int 20 t) := by obtain ⟨h, X, G, c, _⟩ := T; exact He.int_ok X G (c.fact 51 (f := .int "MOST_DEEP" 20) rfl)
theorem Tx.g_TooDeep (T : Tx K mg) : mg "TooDeep" = some (.ref (He.ga K "TooDeep")) := by obtain ⟨h, X, G, c, _⟩ := T; exact He.glo_ok X G (c.fact 52 (f := .glo "TooDeep") rfl)
theorem Tx.x_TooDeep (T : Tx K mg) : PySem.W.excIn K (He.ga K "TooDeep") He.veBase "ValueError.__new__" = true ∧ PySem.W.keepIn K (.ref (He.ga K "TooDeep")) = true ∧ PySem.W.subIn K (.ref (He.ga K "TooDeep")) (.type "BaseException") = some true ∧ PySem.W.typeIn K (.ref (He.ga K "TooDeep")) = some (.type "type") := by obtain ⟨h, X, G, c, _⟩ := T; exact He.exc_ok (c.fact 53 (f := .exc "TooDeep") rfl)
theorem Tx.m_Net_within (T : Tx K mg) : Meth K (He.ga K "Net") "within" (He.ma K (He.ga K "Net") "within") := by obtain ⟨h, X, G, c, _⟩ := T; exact He.meth_ok (c.fact 54 (f := .meth "Net" "within") rfl)
theorem Tx.m_Net_tell_round (T : Tx K mg) : Meth K (He.ga K "Net") "tell_round" (He.ma K (He.ga K "Net") "tell_round") := by obtain ⟨h, X, G, c, _⟩ := T; exact He.meth_ok (c.fact 55 (f := .meth "Net" "tell_round") rfl)
theorem Tx.m_Net_clear (T : Tx K mg) : Meth K (He.ga K "Net") "clear" (He.ma K (He.ga K "Net") "clear") := by obtain ⟨h, X, G, c, _⟩ := T; exact He.meth_ok (c.fact 56 (f := .meth "Net" "clear") rfl)
theorem Tx.g_WAYS (T : Tx K mg) : mg "WAYS" = some (.ref (He.ga K "WAYS")) := by obtain ⟨h, X, G, c, _⟩ := T; exact He.glo_ok X G (c.fact 57 (f := .glo "WAYS") rfl)
theorem Tx.g_Busy (T : Tx K mg) : mg "Busy" = some (.ref (He.ga K "Busy")) := by obtain ⟨h, X, G, c, _⟩ := T; exact He.glo_ok X G (c.fact 58 (f := .glo "Busy") rfl)
theorem Tx.x_Busy (T : Tx K mg) : PySem.W.excIn K (He.ga K "Busy") He.veBase "ValueError.__new__" = true ∧ PySem.W.keepIn K (.ref (He.ga K "Busy")) = true ∧ PySem.W.subIn K (.ref (He.ga K "Busy")) (.type "BaseException") = some true ∧ PySem.W.typeIn K (.ref (He.ga K "Busy")) = some (.type "type") := by obtain ⟨h, X, G, c, _⟩ := T; exact He.exc_ok (c.fact 59 (f := .exc "Busy") rfl)
theorem Tx.m_Net_going (T : Tx K mg) : Meth K (He.ga K "Net") "going" (He.ma K (He.ga K "Net") "going") := by obtain ⟨h, X, G, c, _⟩ := T; exact He.meth_ok (c.fact 60 (f := .meth "Net" "going") rfl)
theorem Tx.c_MOST_RANK (T : Tx K mg) : ∃ t, mg "MOST_RANK" = some (.int 9 t) := by obtain ⟨h, X, G, c, _⟩ := T; exact He.int_ok X G (c.fact 61 (f := .int "MOST_RANK" 9) rfl)
theorem Tx.g_Listener (T : Tx K mg) : mg "Listener" = some (.ref (He.ga K "Listener")) := by obtain ⟨h, X, G, c, _⟩ := T; exact He.glo_ok X G (c.fact 62 (f := .glo "Listener") rfl)
theorem Tx.k_Listener (T : Tx K mg) : Mk K (He.ga K "Listener") (He.ma K (He.ga K "Listener") "__init__") := by obtain ⟨h, X, G, c, _⟩ := T; exact He.mkr_ok (c.fact 63 (f := .mkr "Listener") rfl)
theorem Tx.m_Net_past_round (T : Tx K mg) : Meth K (He.ga K "Net") "past_round" (He.ma K (He.ga K "Net") "past_round") := by obtain ⟨h, X, G, c, _⟩ := T; exact He.meth_ok (c.fact 64 (f := .meth "Net" "past_round") rfl)
theorem Tx.g_NoListener (T : Tx K mg) : mg "NoListener" = some (.ref (He.ga K "NoListener")) := by obtain ⟨h, X, G, c, _⟩ := T; exact He.glo_ok X G (c.fact 65 (f := .glo "NoListener") rfl)
theorem Tx.g_NotHeld (T : Tx K mg) : mg "NotHeld" = some (.ref (He.ga K "NotHeld")) := by obtain ⟨h, X, G, c, _⟩ := T; exact He.glo_ok X G (c.fact 66 (f := .glo "NotHeld") rfl)
theorem Tx.g_NoWork (T : Tx K mg) : mg "NoWork" = some (.ref (He.ga K "NoWork")) := by obtain ⟨h, X, G, c, _⟩ := T; exact He.glo_ok X G (c.fact 67 (f := .glo "NoWork") rfl)
theorem Tx.g_BadText (T : Tx K mg) : mg "BadText" = some (.ref (He.ga K "BadText")) := by obtain ⟨h, X, G, c, _⟩ := T; exact He.glo_ok X G (c.fact 68 (f := .glo "BadText") rfl)
theorem Tx.g_Halt (T : Tx K mg) : mg "Halt" = some (.ref (He.ga K "Halt")) := by obtain ⟨h, X, G, c, _⟩ := T; exact He.glo_ok X G (c.fact 69 (f := .glo "Halt") rfl)
theorem Tx.b_ValueError (T : Tx K mg) : mg "ValueError" = none := by obtain ⟨h, X, G, c, _⟩ := T; exact He.free_ok X G (c.fact 70 (f := .free "ValueError") rfl)
theorem Tx.g_Net (T : Tx K mg) : mg "Net" = some (.ref (He.ga K "Net")) := by obtain ⟨h, X, G, c, _⟩ := T; exact He.glo_ok X G (c.fact 71 (f := .glo "Net") rfl)
theorem Tx.k_Net (T : Tx K mg) : Mk K (He.ga K "Net") (He.ma K (He.ga K "Net") "__init__") := by obtain ⟨h, X, G, c, _⟩ := T; exact He.mkr_ok (c.fact 72 (f := .mkr "Net") rfl)
theorem Tx.b_dict (T : Tx K mg) : mg "dict" = none := by obtain ⟨h, X, G, c, _⟩ := T; exact He.free_ok X G (c.fact 73 (f := .free "dict") rfl)
theorem Tx.m_Net_tell (T : Tx K mg) : Meth K (He.ga K "Net") "tell" (He.ma K (He.ga K "Net") "tell") := by obtain ⟨h, X, G, c, _⟩ := T; exact He.meth_ok (c.fact 74 (f := .meth "Net" "tell") rfl)
theorem Tx.m_Net_kept (T : Tx K mg) : Meth K (He.ga K "Net") "kept" (He.ma K (He.ga K "Net") "kept") := by obtain ⟨h, X, G, c, _⟩ := T; exact He.meth_ok (c.fact 75 (f := .meth "Net" "kept") rfl)
theorem Tx.m_Net_listen (T : Tx K mg) : Meth K (He.ga K "Net") "listen" (He.ma K (He.ga K "Net") "listen") := by obtain ⟨h, X, G, c, _⟩ := T; exact He.meth_ok (c.fact 76 (f := .meth "Net" "listen") rfl)
theorem Tx.m_Net_listeners (T : Tx K mg) : Meth K (He.ga K "Net") "listeners" (He.ma K (He.ga K "Net") "listeners") := by obtain ⟨h, X, G, c, _⟩ := T; exact He.meth_ok (c.fact 77 (f := .meth "Net" "listeners") rfl)
theorem Tx.x_NoListener (T : Tx K mg) : PySem.W.excIn K (He.ga K "NoListener") He.veBase "ValueError.__new__" = true ∧ PySem.W.keepIn K (.ref (He.ga K "NoListener")) = true ∧ PySem.W.subIn K (.ref (He.ga K "NoListener")) (.type "BaseException") = some true ∧ PySem.W.typeIn K (.ref (He.ga K "NoListener")) = some (.type "type") := by obtain ⟨h, X, G, c, _⟩ := T; exact He.exc_ok (c.fact 78 (f := .exc "NoListener") rfl)
theorem Tx.m_Net_may_round (T : Tx K mg) : Meth K (He.ga K "Net") "may_round" (He.ma K (He.ga K "Net") "may_round") := by obtain ⟨h, X, G, c, _⟩ := T; exact He.meth_ok (c.fact 79 (f := .meth "Net" "may_round") rfl)
theorem Tx.m_Net_listener (T : Tx K mg) : Meth K (He.ga K "Net") "listener" (He.ma K (He.ga K "Net") "listener") := by obtain ⟨h, X, G, c, _⟩ := T; exact He.meth_ok (c.fact 80 (f := .meth "Net" "listener") rfl)
theorem Tx.m_Net_may (T : Tx K mg) : Meth K (He.ga K "Net") "may" (He.ma K (He.ga K "Net") "may") := by obtain ⟨h, X, G, c, _⟩ := T; exact He.meth_ok (c.fact 81 (f := .meth "Net" "may") rfl)
theorem Tx.m_Net_waits (T : Tx K mg) : Meth K (He.ga K "Net") "waits" (He.ma K (He.ga K "Net") "waits") := by obtain ⟨h, X, G, c, _⟩ := T; exact He.meth_ok (c.fact 82 (f := .meth "Net" "waits") rfl)
theorem Tx.m_Net_faults (T : Tx K mg) : Meth K (He.ga K "Net") "faults" (He.ma K (He.ga K "Net") "faults") := by obtain ⟨h, X, G, c, _⟩ := T; exact He.meth_ok (c.fact 83 (f := .meth "Net" "faults") rfl)
theorem Tx.g_is_word (T : Tx K mg) : mg "is_word" = some (.ref (He.ga K "is_word")) := by obtain ⟨h, X, G, c, _⟩ := T; exact He.glo_ok X G (c.fact 84 (f := .glo "is_word") rfl)
theorem Tx.g_is_line (T : Tx K mg) : mg "is_line" = some (.ref (He.ga K "is_line")) := by obtain ⟨h, X, G, c, _⟩ := T; exact He.glo_ok X G (c.fact 85 (f := .glo "is_line") rfl)
theorem Tx.g_is_pattern (T : Tx K mg) : mg "is_pattern" = some (.ref (He.ga K "is_pattern")) := by obtain ⟨h, X, G, c, _⟩ := T; exact He.glo_ok X G (c.fact 86 (f := .glo "is_pattern") rfl)
theorem Tx.g_need_line (T : Tx K mg) : mg "need_line" = some (.ref (He.ga K "need_line")) := by obtain ⟨h, X, G, c, _⟩ := T; exact He.glo_ok X G (c.fact 87 (f := .glo "need_line") rfl)
theorem Tx.g_need_pattern (T : Tx K mg) : mg "need_pattern" = some (.ref (He.ga K "need_pattern")) := by obtain ⟨h, X, G, c, _⟩ := T; exact He.glo_ok X G (c.fact 88 (f := .glo "need_pattern") rfl)
theorem Tx.g_of_length (T : Tx K mg) : mg "of_length" = some (.ref (He.ga K "of_length")) := by obtain ⟨h, X, G, c, _⟩ := T; exact He.glo_ok X G (c.fact 89 (f := .glo "of_length") rfl)
theorem Tx.g_does_fit (T : Tx K mg) : mg "does_fit" = some (.ref (He.ga K "does_fit")) := by obtain ⟨h, X, G, c, _⟩ := T; exact He.glo_ok X G (c.fact 90 (f := .glo "does_fit") rfl)
theorem Tx.g__law_mix (T : Tx K mg) : mg "_law_mix" = some (.ref (He.ga K "_law_mix")) := by obtain ⟨h, X, G, c, _⟩ := T; exact He.glo_ok X G (c.fact 91 (f := .glo "_law_mix") rfl)
theorem Tx.g__law_next (T : Tx K mg) : mg "_law_next" = some (.ref (He.ga K "_law_next")) := by obtain ⟨h, X, G, c, _⟩ := T; exact He.glo_ok X G (c.fact 92 (f := .glo "_law_next") rfl)
theorem Tx.g__law_alike (T : Tx K mg) : mg "_law_alike" = some (.ref (He.ga K "_law_alike")) := by obtain ⟨h, X, G, c, _⟩ := T; exact He.glo_ok X G (c.fact 93 (f := .glo "_law_alike") rfl)
theorem Tx.g__law_parts (T : Tx K mg) : mg "_law_parts" = some (.ref (He.ga K "_law_parts")) := by obtain ⟨h, X, G, c, _⟩ := T; exact He.glo_ok X G (c.fact 94 (f := .glo "_law_parts") rfl)
theorem Tx.g__law_fits (T : Tx K mg) : mg "_law_fits" = some (.ref (He.ga K "_law_fits")) := by obtain ⟨h, X, G, c, _⟩ := T; exact He.glo_ok X G (c.fact 95 (f := .glo "_law_fits") rfl)
theorem Tx.g__law_kind (T : Tx K mg) : mg "_law_kind" = some (.ref (He.ga K "_law_kind")) := by obtain ⟨h, X, G, c, _⟩ := T; exact He.glo_ok X G (c.fact 96 (f := .glo "_law_kind") rfl)
theorem Tx.g__law_noted (T : Tx K mg) : mg "_law_noted" = some (.ref (He.ga K "_law_noted")) := by obtain ⟨h, X, G, c, _⟩ := T; exact He.glo_ok X G (c.fact 97 (f := .glo "_law_noted") rfl)
theorem Tx.g_law (T : Tx K mg) : mg "law" = some (.ref (He.ga K "law")) := by obtain ⟨h, X, G, c, _⟩ := T; exact He.glo_ok X G (c.fact 98 (f := .glo "law") rfl)
theorem Tx.e_pol (T : Tx K mg) : (tupB K "POLICIES" ["stop", "go"]) = true := by obtain ⟨h, X, G, c, e⟩ := T; exact (Bool.and_eq_true_iff.mp ((Bool.and_eq_true_iff.mp ((Bool.and_eq_true_iff.mp ((Bool.and_eq_true_iff.mp e).1)).1)).1)).1
theorem Tx.e_ways (T : Tx K mg) : (tupB K "WAYS" ["deep", "behind", "never"]) = true := by obtain ⟨h, X, G, c, e⟩ := T; exact (Bool.and_eq_true_iff.mp ((Bool.and_eq_true_iff.mp ((Bool.and_eq_true_iff.mp ((Bool.and_eq_true_iff.mp e).1)).1)).1)).2
theorem Tx.e_nl (T : Tx K mg) : (decide (He.ga K "Net" ≠ He.ga K "Listener")) = true := by obtain ⟨h, X, G, c, e⟩ := T; exact (Bool.and_eq_true_iff.mp ((Bool.and_eq_true_iff.mp ((Bool.and_eq_true_iff.mp e).1)).1)).2
theorem Tx.e_rC (T : Tx K mg) : (refB K "BadCount") = true := by obtain ⟨h, X, G, c, e⟩ := T; exact (Bool.and_eq_true_iff.mp ((Bool.and_eq_true_iff.mp e).1)).2
theorem Tx.f_is_word (T : Tx K mg) : ∃ fd, F_is_word K (He.fAd K d_is_word.at_) fd := by obtain ⟨h, X, G, c, _⟩ := T; exact c.def_ 0 (d := d_is_word) rfl
theorem Tx.f_is_line (T : Tx K mg) : ∃ fd, F_is_line K (He.fAd K d_is_line.at_) fd := by obtain ⟨h, X, G, c, _⟩ := T; exact c.def_ 1 (d := d_is_line) rfl
theorem Tx.f_is_pattern (T : Tx K mg) : ∃ fd, F_is_pattern K (He.fAd K d_is_pattern.at_) fd := by obtain ⟨h, X, G, c, _⟩ := T; exact c.def_ 2 (d := d_is_pattern) rfl
theorem Tx.f_need_line (T : Tx K mg) : ∃ fd, F_need_line K (He.fAd K d_need_line.at_) fd := by obtain ⟨h, X, G, c, _⟩ := T; exact c.def_ 3 (d := d_need_line) rfl
theorem Tx.f_need_pattern (T : Tx K mg) : ∃ fd, F_need_pattern K (He.fAd K d_need_pattern.at_) fd := by obtain ⟨h, X, G, c, _⟩ := T; exact c.def_ 4 (d := d_need_pattern) rfl
theorem Tx.f_of_length (T : Tx K mg) : ∃ fd, F_of_length K (He.fAd K d_of_length.at_) fd := by obtain ⟨h, X, G, c, _⟩ := T; exact c.def_ 5 (d := d_of_length) rfl
theorem Tx.f_does_fit (T : Tx K mg) : ∃ fd, F_does_fit K (He.fAd K d_does_fit.at_) fd := by obtain ⟨h, X, G, c, _⟩ := T; exact c.def_ 6 (d := d_does_fit) rfl
theorem Tx.f_law_mix (T : Tx K mg) : ∃ fd, F_law_mix K (He.fAd K d_law_mix.at_) fd := by obtain ⟨h, X, G, c, _⟩ := T; exact c.def_ 7 (d := d_law_mix) rfl
theorem Tx.f_law_next (T : Tx K mg) : ∃ fd, F_law_next K (He.fAd K d_law_next.at_) fd := by obtain ⟨h, X, G, c, _⟩ := T; exact c.def_ 8 (d := d_law_next) rfl
theorem Tx.f_law_alike (T : Tx K mg) : ∃ fd, F_law_alike K (He.fAd K d_law_alike.at_) fd := by obtain ⟨h, X, G, c, _⟩ := T; exact c.def_ 9 (d := d_law_alike) rfl
theorem Tx.f_law_parts (T : Tx K mg) : ∃ fd, F_law_parts K (He.fAd K d_law_parts.at_) fd := by obtain ⟨h, X, G, c, _⟩ := T; exact c.def_ 10 (d := d_law_parts) rfl
theorem Tx.f_law_fits (T : Tx K mg) : ∃ fd, F_law_fits K (He.fAd K d_law_fits.at_) fd := by obtain ⟨h, X, G, c, _⟩ := T; exact c.def_ 11 (d := d_law_fits) rfl
theorem Tx.f_Listener___init__ (T : Tx K mg) : ∃ fd, F_Listener___init__ K (He.fAd K d_Listener___init__.at_) fd := by obtain ⟨h, X, G, c, _⟩ := T; exact c.def_ 12 (d := d_Listener___init__) rfl
theorem Tx.f_Net___init__ (T : Tx K mg) : ∃ fd, F_Net___init__ K (He.fAd K d_Net___init__.at_) fd := by obtain ⟨h, X, G, c, _⟩ := T; exact c.def_ 13 (d := d_Net___init__) rfl
theorem Tx.f_Net_in_order (T : Tx K mg) : ∃ fd, F_Net_in_order K (He.fAd K d_Net_in_order.at_) fd := by obtain ⟨h, X, G, c, _⟩ := T; exact c.def_ 14 (d := d_Net_in_order) rfl
theorem Tx.f_Net_hearing (T : Tx K mg) : ∃ fd, F_Net_hearing K (He.fAd K d_Net_hearing.at_) fd := by obtain ⟨h, X, G, c, _⟩ := T; exact c.def_ 15 (d := d_Net_hearing) rfl
theorem Tx.f_Net_listeners (T : Tx K mg) : ∃ fd, F_Net_listeners K (He.fAd K d_Net_listeners.at_) fd := by obtain ⟨h, X, G, c, _⟩ := T; exact c.def_ 16 (d := d_Net_listeners) rfl
theorem Tx.f_Net_is_due (T : Tx K mg) : ∃ fd, F_Net_is_due K (He.fAd K d_Net_is_due.at_) fd := by obtain ⟨h, X, G, c, _⟩ := T; exact c.def_ 17 (d := d_Net_is_due) rfl
theorem Tx.f_Net_answer (T : Tx K mg) : ∃ fd, F_Net_answer K (He.fAd K d_Net_answer.at_) fd := by obtain ⟨h, X, G, c, _⟩ := T; exact c.def_ 18 (d := d_Net_answer) rfl
theorem Tx.f_Net_tell_round (T : Tx K mg) : ∃ fd, F_Net_tell_round K (He.fAd K d_Net_tell_round.at_) fd := by obtain ⟨h, X, G, c, _⟩ := T; exact c.def_ 19 (d := d_Net_tell_round) rfl
theorem Tx.f_Net_within (T : Tx K mg) : ∃ fd, F_Net_within K (He.fAd K d_Net_within.at_) fd := by obtain ⟨h, X, G, c, _⟩ := T; exact c.def_ 20 (d := d_Net_within) rfl
theorem Tx.f_Net_clear (T : Tx K mg) : ∃ fd, F_Net_clear K (He.fAd K d_Net_clear.at_) fd := by obtain ⟨h, X, G, c, _⟩ := T; exact c.def_ 21 (d := d_Net_clear) rfl
theorem Tx.f_Net_going (T : Tx K mg) : ∃ fd, F_Net_going K (He.fAd K d_Net_going.at_) fd := by obtain ⟨h, X, G, c, _⟩ := T; exact c.def_ 22 (d := d_Net_going) rfl
theorem Tx.f_Net_tell (T : Tx K mg) : ∃ fd, F_Net_tell K (He.fAd K d_Net_tell.at_) fd := by obtain ⟨h, X, G, c, _⟩ := T; exact c.def_ 23 (d := d_Net_tell) rfl
theorem Tx.f_Net_past_round (T : Tx K mg) : ∃ fd, F_Net_past_round K (He.fAd K d_Net_past_round.at_) fd := by obtain ⟨h, X, G, c, _⟩ := T; exact c.def_ 24 (d := d_Net_past_round) rfl
theorem Tx.f_Net_listen (T : Tx K mg) : ∃ fd, F_Net_listen K (He.fAd K d_Net_listen.at_) fd := by obtain ⟨h, X, G, c, _⟩ := T; exact c.def_ 25 (d := d_Net_listen) rfl
theorem Tx.f_Net_waits (T : Tx K mg) : ∃ fd, F_Net_waits K (He.fAd K d_Net_waits.at_) fd := by obtain ⟨h, X, G, c, _⟩ := T; exact c.def_ 26 (d := d_Net_waits) rfl
theorem Tx.f_Net_faults (T : Tx K mg) : ∃ fd, F_Net_faults K (He.fAd K d_Net_faults.at_) fd := by obtain ⟨h, X, G, c, _⟩ := T; exact c.def_ 27 (d := d_Net_faults) rfl
theorem Tx.f_Net_kept (T : Tx K mg) : ∃ fd, F_Net_kept K (He.fAd K d_Net_kept.at_) fd := by obtain ⟨h, X, G, c, _⟩ := T; exact c.def_ 28 (d := d_Net_kept) rfl
theorem Tx.f_law_kind (T : Tx K mg) : ∃ fd, F_law_kind K (He.fAd K d_law_kind.at_) fd := by obtain ⟨h, X, G, c, _⟩ := T; exact c.def_ 29 (d := d_law_kind) rfl
theorem Tx.f_law_noted (T : Tx K mg) : ∃ fd, F_law_noted K (He.fAd K d_law_noted.at_) fd := by obtain ⟨h, X, G, c, _⟩ := T; exact c.def_ 30 (d := d_law_noted) rfl
theorem Tx.f_law (T : Tx K mg) : ∃ fd, F_law K (He.fAd K d_law.at_) fd := by obtain ⟨h, X, G, c, _⟩ := T; exact c.def_ 31 (d := d_law) rfl
theorem Tx.f_Net_listener (T : Tx K mg) : ∃ fd, F_Net_listener K (He.fAd K d_Net_listener.at_) fd := by obtain ⟨h, X, G, c, _⟩ := T; exact c.def_ 32 (d := d_Net_listener) rfl
theorem Tx.f_Net_may_round (T : Tx K mg) : ∃ fd, F_Net_may_round K (He.fAd K d_Net_may_round.at_) fd := by obtain ⟨h, X, G, c, _⟩ := T; exact c.def_ 33 (d := d_Net_may_round) rfl
theorem Tx.f_Net_may (T : Tx K mg) : ∃ fd, F_Net_may K (He.fAd K d_Net_may.at_) fd := by obtain ⟨h, X, G, c, _⟩ := T; exact c.def_ 34 (d := d_Net_may) rfl
end
def tf : List (Str × Option Str) := [("Net", some "in_order"), ("Net", some "clear"), ("Net", some "tell"), ("Net", some "listen"), ("_law_noted", none), ("law", none), ("Net", some "may")]
def nmT : List ((Nat × Nat) × Str) := [((131, 32), "Net.in_order.<locals>.<lambda>"), ((165, 24), "Net.clear.<locals>.<lambda>"), ((227, 26), "Net.tell.<locals>.<lambda>"), ((112, 23), "Net.listen.<locals>.<lambda>"), ((303, 4), "_law_noted.<locals>._law_call"), ((334, 22), "law.<locals>.<lambda>"), ((334, 61), "law.<locals>.<lambda>"), ((237, 26), "Net.may.<locals>.<lambda>")]
def nm (l c : Nat) : Str := (nmT.lookup (l, c)).getD Str.empty
def Ts (K : PySem.W.Frag) : List Addr := tf.map fun p => (He.cT K p).2
def Tb (K : PySem.W.Frag) (mg : Str → Option Value) (base : Heap) : Prop := ∀ p ∈ tf, LamX.TabB base mg (He.cT K p).1 (He.cT K p).2
theorem Tb.t_Net_in_order {K : PySem.W.Frag} {mg : Str → Option Value} {base : Heap} (B : Tb K mg base) : LamX.TabB base mg (He.codeOf K ("Net", some "in_order")) (He.cT K ("Net", some "in_order")).2 := B ("Net", some "in_order") (by decide +kernel)
theorem m_Net_in_order (K : PySem.W.Frag) : (He.cT K ("Net", some "in_order")).2 ∈ Ts K := List.mem_map_of_mem (f := fun p => (He.cT K p).2) (show (("Net", some "in_order") : Str × Option Str) ∈ tf by decide +kernel)
theorem Tb.t_Net_clear {K : PySem.W.Frag} {mg : Str → Option Value} {base : Heap} (B : Tb K mg base) : LamX.TabB base mg (He.codeOf K ("Net", some "clear")) (He.cT K ("Net", some "clear")).2 := B ("Net", some "clear") (by decide +kernel)
theorem m_Net_clear (K : PySem.W.Frag) : (He.cT K ("Net", some "clear")).2 ∈ Ts K := List.mem_map_of_mem (f := fun p => (He.cT K p).2) (show (("Net", some "clear") : Str × Option Str) ∈ tf by decide +kernel)
theorem Tb.t_Net_tell {K : PySem.W.Frag} {mg : Str → Option Value} {base : Heap} (B : Tb K mg base) : LamX.TabB base mg (He.codeOf K ("Net", some "tell")) (He.cT K ("Net", some "tell")).2 := B ("Net", some "tell") (by decide +kernel)
theorem m_Net_tell (K : PySem.W.Frag) : (He.cT K ("Net", some "tell")).2 ∈ Ts K := List.mem_map_of_mem (f := fun p => (He.cT K p).2) (show (("Net", some "tell") : Str × Option Str) ∈ tf by decide +kernel)
theorem Tb.t_Net_listen {K : PySem.W.Frag} {mg : Str → Option Value} {base : Heap} (B : Tb K mg base) : LamX.TabB base mg (He.codeOf K ("Net", some "listen")) (He.cT K ("Net", some "listen")).2 := B ("Net", some "listen") (by decide +kernel)
theorem m_Net_listen (K : PySem.W.Frag) : (He.cT K ("Net", some "listen")).2 ∈ Ts K := List.mem_map_of_mem (f := fun p => (He.cT K p).2) (show (("Net", some "listen") : Str × Option Str) ∈ tf by decide +kernel)
theorem Tb.t_law_noted {K : PySem.W.Frag} {mg : Str → Option Value} {base : Heap} (B : Tb K mg base) : LamX.TabB base mg (He.codeOf K ("_law_noted", none)) (He.cT K ("_law_noted", none)).2 := B ("_law_noted", none) (by decide +kernel)
theorem m_law_noted (K : PySem.W.Frag) : (He.cT K ("_law_noted", none)).2 ∈ Ts K := List.mem_map_of_mem (f := fun p => (He.cT K p).2) (show (("_law_noted", none) : Str × Option Str) ∈ tf by decide +kernel)
theorem Tb.t_law {K : PySem.W.Frag} {mg : Str → Option Value} {base : Heap} (B : Tb K mg base) : LamX.TabB base mg (He.codeOf K ("law", none)) (He.cT K ("law", none)).2 := B ("law", none) (by decide +kernel)
theorem m_law (K : PySem.W.Frag) : (He.cT K ("law", none)).2 ∈ Ts K := List.mem_map_of_mem (f := fun p => (He.cT K p).2) (show (("law", none) : Str × Option Str) ∈ tf by decide +kernel)
theorem Tb.t_Net_may {K : PySem.W.Frag} {mg : Str → Option Value} {base : Heap} (B : Tb K mg base) : LamX.TabB base mg (He.codeOf K ("Net", some "may")) (He.cT K ("Net", some "may")).2 := B ("Net", some "may") (by decide +kernel)
theorem m_Net_may (K : PySem.W.Frag) : (He.cT K ("Net", some "may")).2 ∈ Ts K := List.mem_map_of_mem (f := fun p => (He.cT K p).2) (show (("Net", some "may") : Str × Option Str) ∈ tf by decide +kernel)
end Hk

set_option Elab.async false
set_option linter.all false
set_option maxRecDepth 100000
set_option maxHeartbeats 4000000
namespace Hk
open PySem PySem.Spec PyProof.Rows L2
open LamX NdefX
open TL
section
variable {P : Program} {w : World} {K : PySem.W.Frag} {mg : Str → Option Value} {base : Heap}
theorem last_map {ws : List Str} {s : Str} : ((ws.map V.str).getLast? = some (V.str s)) ↔ ws.getLast? = some s := by
  rw [List.getLast?_map]
  cases ws.getLast? with
  | none => simp
  | some x => simp
theorem last_str {ws : List Str} (h : ws ≠ []) : ∃ x, (ws.map V.str).getLast? = some (V.str x) ∧ ws.getLast? = some x := by
  refine ⟨ws.getLast h, ?_, List.getLast?_eq_getLast h⟩
  rw [List.getLast?_map, List.getLast?_eq_getLast h]; rfl
/-! ### is_word -/
def sp_is_word : Sp := fun vs H Q _ => ∃ z : Str, vs = [.str z] ∧ z.length ≤ 10000 ∧ ∀ H', Same H H' → Q (.bl (isWord z)) H'
theorem G_is_word (T : Tx K mg) : Glob P w K mg base (CX0) 1 "is_word" p_is_word [] sp_is_word := by
  obtain ⟨fd, F⟩ := T.f_is_word
  refine ⟨_, fd, [], F.ok sc_is_word (fun vs H Q E h => ?_) (fun cdv A outer s H vs Q E hr h => ?_), T.g_is_word, F.kp, .nil, F.bindsN fun _ _ _ _ _ _ us hl => match us, hl with | [_], _ => rfl⟩
  · obtain ⟨z, rfl, _⟩ := h; rfl
  · obtain ⟨z, rfl, hz, q⟩ := h
    refine ⟨_, PSs.nox (pss_one (ps_ret (pe_and (pe_chain op_le op_le pe_int (pe_callB call_len_str (by rfl) T.b_len (by decide +kernel) (pa_cons (pv 0) pa_nil)) (pe_gi T.c_MOST_LETTERS (by rfl))) (pe_one (pe_callB (cr_allK (K := K) rfl rfl) (by rfl) T.b_all (by decide +kernel) (pa_cons (pe_lc (own := [("sign", 1)]) (g := (gName 1)) (tt := tYes) rfl sc_is_word.nd (pi_str (pv 0)) (blkOk_by (by kernel_rfl)) (fun _ _ _ _ _ => (pg_name (i := 1) sc_is_word.nd rfl (Or.inl rfl))) (fun _ _ _ _ _ => pts_nil) (fun _ _ _ _ _ => (pe_cmpR op_in_sign (pv 1) (pe_gs T.c_LETTERS (by rfl)) (by rfl)))) pa_nil)))))), ?_⟩
    simp only [tCutE, false_and, exists_false, false_or, or_false, tRet, tRetN, tAndV, tOrV, tNotV, tChain, rI, rI0, rU, tC, tCB, tCons, tNil, tVar, tOp, tUn, tTest, tB, tAnd, tOr, tNot, tIf, tIfS, tSeq, tAsg, tDrop, tNext, gName, gTup_ref, gCons_cons, gNil_nil, and_assoc, tYes, wipe, rEq, rNe, scal_ss, scal_ii, scal_bb, scal_ns, scal_sn, scal_nn, scal_in, scal_ni, tLc_eq, tFor_eq, iList, iTup, iStr, iRng1, iRng2, iZip, iEnum, gSub, tSl, rSetL_ref, rCat_ref, rRep_ref, rJoin_ref, rSlL_ref, rSlS_ref, rMulS_ref, rIxL_ref, rIxT_ref, rLenK_ref, rAll_ref, rIn_ref, tLst, tTup, tPar, tPar3, tAug, tPart, tNoPart, tCall, List.getElem?_cons_zero, List.getElem?_cons_succ, List.set_cons_zero, List.set_cons_succ, List.map_cons, List.map_nil, List.append_nil, List.nil_append, List.cons_append, Option.some.injEq, exists_eq_left', exists_eq_left, exists_eq_right, exists_eq_right', exists_eq', V.int.injEq, V.str.injEq, V.bl.injEq, V.ref.injEq, List.cons.injEq, tM0, tM1, rNewStrs, sgn_eq, split_dot, split_sp, split_nl, dot_len, sp_len, nl_len, cxOf_K, L2.start, List.length_cons, List.length_nil, List.replicate_succ, List.replicate_zero, Nat.reduceSub, Nat.zero_add, and_true, true_and, and_self, exists_and_left, exists_const, Bool.false_eq_true, if_false, if_true, ite_true, ite_false, reduceIte, decide_eq_true_eq, reduceCtorEq, Nat.reduceAdd, Nat.reduceLT, tMseq, tMret, tNdef1, tThru, tCallV, gFldC, tFldC, sFldC, sFldAugC, tMeth, tMethX, tMethS, tMake, tCKw, sDPut, tDGet2, tVeI, tOst, tWhy, tXf, tListZip, tCallX, tCallXU, tCallV, tCallVS, tLam1, tLamD, tCallS, tCls, tClsD, cx_cells, cx_scope, cx_N, cx_prog, cx_w, cx_base, cx_mg, cx_qual]
    refine ⟨small (by omega), ?_⟩
    have hz' : (tl z).length ≤ 10000 := by rw [← len_tl]; exact hz
    split
    · rename_i h1
      split
      · rename_i h2
        refine lc_map (tl z) (fun c => V.bl (decide (c ∈ tl letters))) walk_str (by omega) (fun _ _ => trivial) (fun i a x H1 H' R hx s1 hy r => ?_) (fun D H1 nD s1 hD => ?_)
        · obtain ⟨rfl, c, hc, rfl⟩ := hy
          have e : c = a := by
            rw [Array.getElem?_toList] at hx
            exact Option.some.inj (hc.symm.trans hx)
          subst e
          simp only [tCutE, false_and, exists_false, false_or, or_false, tRet, tRetN, tAndV, tOrV, tNotV, tChain, rI, rI0, rU, tC, tCB, tCons, tNil, tVar, tOp, tUn, tTest, tB, tAnd, tOr, tNot, tIf, tIfS, tSeq, tAsg, tDrop, tNext, gName, gTup_ref, gCons_cons, gNil_nil, and_assoc, tYes, wipe, rEq, rNe, scal_ss, scal_ii, scal_bb, scal_ns, scal_sn, scal_nn, scal_in, scal_ni, tLc_eq, tFor_eq, iList, iTup, iStr, iRng1, iRng2, iZip, iEnum, gSub, tSl, rSetL_ref, rCat_ref, rRep_ref, rJoin_ref, rSlL_ref, rSlS_ref, rMulS_ref, rIxL_ref, rIxT_ref, rLenK_ref, rAll_ref, rIn_ref, tLst, tTup, tPar, tPar3, tAug, tPart, tNoPart, tCall, List.getElem?_cons_zero, List.getElem?_cons_succ, List.set_cons_zero, List.set_cons_succ, List.map_cons, List.map_nil, List.append_nil, List.nil_append, List.cons_append, Option.some.injEq, exists_eq_left', exists_eq_left, exists_eq_right, exists_eq_right', exists_eq', V.int.injEq, V.str.injEq, V.bl.injEq, V.ref.injEq, List.cons.injEq, tM0, tM1, rNewStrs, sgn_eq, split_dot, split_sp, split_nl, dot_len, sp_len, nl_len, cxOf_K, L2.start, List.length_cons, List.length_nil, List.replicate_succ, List.replicate_zero, Nat.reduceSub, Nat.zero_add, and_true, true_and, and_self, exists_and_left, exists_const, Bool.false_eq_true, if_false, if_true, ite_true, ite_false, reduceIte, decide_eq_true_eq, reduceCtorEq, Nat.reduceAdd, Nat.reduceLT, tMseq, tMret, tNdef1, tThru, tCallV, gFldC, tFldC, sFldC, sFldAugC, tMeth, tMethX, tMethS, tMake, tCKw, sDPut, tDGet2, tVeI, tOst, tWhy, tXf, tListZip, tCallX, tCallXU, tCallV, tCallVS, tLam1, tLamD, tCallS, tCls, tClsD, cx_cells, cx_scope, cx_N, cx_prog, cx_w, cx_base, cx_mg, cx_qual]
          exact r _ (Same.refl _)
        · refine ⟨D, (tl z).map fun c => decide (c ∈ tl letters), rfl, .of (by rw [hD, List.map_map]; rfl), ?_⟩
          have e : isWord z = List.all ((tl z).map fun c => decide (c ∈ tl letters)) id := by
            unfold isWord
            rw [decide_eq_true (by omega : 1 ≤ z.length), decide_eq_true (by omega : z.length ≤ 4), List.all_map]
            rfl
          rw [← e]
          exact q _ s1
      · have e : isWord z = false := by
          unfold isWord
          rw [decide_eq_false (by omega : ¬ z.length ≤ 4)]; simp
        rw [← e]; exact q _ (Same.refl _)
    · have e : isWord z = false := by
        unfold isWord
        rw [decide_eq_false (by omega : ¬ 1 ≤ z.length)]; simp
      rw [← e]; exact q _ (Same.refl _)
/-! ### is_line -/
def sp_is_line : Sp := fun vs H Q _ => ∃ z : Str, vs = [.str z] ∧ z.length ≤ 10000 ∧ ∀ H', Same H H' → Q (.bl (isLine z)) H'
theorem G_is_line (T : Tx K mg) : Glob P w K mg base (CX0) 2 "is_line" p_is_line [] sp_is_line := by
  obtain ⟨fd, F⟩ := T.f_is_line
  refine ⟨_, fd, [], F.ok sc_is_line (fun vs H Q E h => ?_) (fun cdv A outer s H vs Q E hr h => ?_), T.g_is_line, F.kp, .nil, F.bindsN fun _ _ _ _ _ _ us hl => match us, hl with | [_], _ => rfl⟩
  · obtain ⟨z, rfl, _⟩ := h; rfl
  · obtain ⟨z, rfl, hz, q⟩ := h
    refine ⟨_, PSs.nox (pss_cons (ps_set (i := 1) sc_is_line.nd rfl (Or.inl rfl) (pe_split (pv 0) pe_str))
      (pss_one (ps_ret (pe_and (pe_cmpR op_le (pe_callB (call_len_seqK (K := K) rfl) (by rfl) T.b_len (by decide +kernel) (pa_cons (pv 1) pa_nil)) (pe_gi T.c_MOST_WORDS (by rfl)) (nomark _)) (pe_one (pe_callB (cr_allK (K := K) rfl rfl) (by rfl) T.b_all (by decide +kernel) (pa_cons (pe_lc (own := [("word", 2)]) (g := (gName 2)) (tt := tYes) rfl sc_is_line.nd (pi_listK (K := K) rfl (pv 1)) (blkOk_by (by kernel_rfl)) (fun _ _ _ _ _ => (pg_name (i := 2) sc_is_line.nd rfl (Or.inl rfl))) (fun _ _ _ _ _ => pts_nil) (fun _ _ _ _ _ => (pe_callG (G_is_word T) (hr.mono (by first | decide | omega)) (by rfl) pass0 (pa_cons (pv 2) pa_nil)))) pa_nil))))))), ?_⟩
    simp only [tCutE, false_and, exists_false, false_or, or_false, tRet, tRetN, tAndV, tOrV, tNotV, tChain, rI, rI0, rU, tC, tCB, tCons, tNil, tVar, tOp, tUn, tTest, tB, tAnd, tOr, tNot, tIf, tIfS, tSeq, tAsg, tDrop, tNext, gName, gTup_ref, gCons_cons, gNil_nil, and_assoc, tYes, wipe, rEq, rNe, scal_ss, scal_ii, scal_bb, scal_ns, scal_sn, scal_nn, scal_in, scal_ni, tLc_eq, tFor_eq, iList, iTup, iStr, iRng1, iRng2, iZip, iEnum, gSub, tSl, rSetL_ref, rCat_ref, rRep_ref, rJoin_ref, rSlL_ref, rSlS_ref, rMulS_ref, rIxL_ref, rIxT_ref, rLenK_ref, rAll_ref, rIn_ref, tLst, tTup, tPar, tPar3, tAug, tPart, tNoPart, tCall, List.getElem?_cons_zero, List.getElem?_cons_succ, List.set_cons_zero, List.set_cons_succ, List.map_cons, List.map_nil, List.append_nil, List.nil_append, List.cons_append, Option.some.injEq, exists_eq_left', exists_eq_left, exists_eq_right, exists_eq_right', exists_eq', V.int.injEq, V.str.injEq, V.bl.injEq, V.ref.injEq, List.cons.injEq, tM0, tM1, rNewStrs, sgn_eq, split_dot, split_sp, split_nl, dot_len, sp_len, nl_len, cxOf_K, L2.start, List.length_cons, List.length_nil, List.replicate_succ, List.replicate_zero, Nat.reduceSub, Nat.zero_add, and_true, true_and, and_self, exists_and_left, exists_const, Bool.false_eq_true, if_false, if_true, ite_true, ite_false, reduceIte, decide_eq_true_eq, reduceCtorEq, Nat.reduceAdd, Nat.reduceLT, tMseq, tMret, tNdef1, tThru, tCallV, gFldC, tFldC, sFldC, sFldAugC, tMeth, tMethX, tMethS, tMake, tCKw, sDPut, tDGet2, tVeI, tOst, tWhy, tXf, tListZip, tCallX, tCallXU, tCallV, tCallVS, tLam1, tLamD, tCallS, tCls, tClsD, cx_cells, cx_scope, cx_N, cx_prog, cx_w, cx_base, cx_mg, cx_qual]
    refine ⟨small (by omega), fun p hp => ⟨(wds z).map V.str, .inl (.of upd_same), ?_⟩⟩
    have s1 : Same H (upd H p (HO.lst (List.map V.str (wds z)))) := same_put (Same.refl _) hp
    have hl := wds_len z
    rw [List.length_map]
    split
    · rename_i h1
      refine ⟨⟨_, .of upd_same⟩, lc_map (wds z) (fun w => V.bl (isWord w)) (walk_listm (wds z) V.str) (by omega) (fun H2 s2 => s2.seq (.of upd_same)) (fun i a x H1 H' R hx s2 hy r => ?_) (fun D H1 nD s2 hD => ?_)⟩
      · obtain ⟨rfl, y, hy, rfl⟩ := hy
        cases Option.some.inj (hx.symm.trans hy)
        simp only [tCutE, false_and, exists_false, false_or, or_false, tRet, tRetN, tAndV, tOrV, tNotV, tChain, rI, rI0, rU, tC, tCB, tCons, tNil, tVar, tOp, tUn, tTest, tB, tAnd, tOr, tNot, tIf, tIfS, tSeq, tAsg, tDrop, tNext, gName, gTup_ref, gCons_cons, gNil_nil, and_assoc, tYes, wipe, rEq, rNe, scal_ss, scal_ii, scal_bb, scal_ns, scal_sn, scal_nn, scal_in, scal_ni, tLc_eq, tFor_eq, iList, iTup, iStr, iRng1, iRng2, iZip, iEnum, gSub, tSl, rSetL_ref, rCat_ref, rRep_ref, rJoin_ref, rSlL_ref, rSlS_ref, rMulS_ref, rIxL_ref, rIxT_ref, rLenK_ref, rAll_ref, rIn_ref, tLst, tTup, tPar, tPar3, tAug, tPart, tNoPart, tCall, List.getElem?_cons_zero, List.getElem?_cons_succ, List.set_cons_zero, List.set_cons_succ, List.map_cons, List.map_nil, List.append_nil, List.nil_append, List.cons_append, Option.some.injEq, exists_eq_left', exists_eq_left, exists_eq_right, exists_eq_right', exists_eq', V.int.injEq, V.str.injEq, V.bl.injEq, V.ref.injEq, List.cons.injEq, tM0, tM1, rNewStrs, sgn_eq, split_dot, split_sp, split_nl, dot_len, sp_len, nl_len, cxOf_K, L2.start, List.length_cons, List.length_nil, List.replicate_succ, List.replicate_zero, Nat.reduceSub, Nat.zero_add, and_true, true_and, and_self, exists_and_left, exists_const, Bool.false_eq_true, if_false, if_true, ite_true, ite_false, reduceIte, decide_eq_true_eq, reduceCtorEq, Nat.reduceAdd, Nat.reduceLT, tMseq, tMret, tNdef1, tThru, tCallV, gFldC, tFldC, sFldC, sFldAugC, tMeth, tMethX, tMethS, tMake, tCKw, sDPut, tDGet2, tVeI, tOst, tWhy, tXf, tListZip, tCallX, tCallXU, tCallV, tCallVS, tLam1, tLamD, tCallS, tCls, tClsD, cx_cells, cx_scope, cx_N, cx_prog, cx_w, cx_base, cx_mg, cx_qual]
        have := wds_each z a (List.mem_of_getElem? hx)
        exact ⟨a, rfl, by omega, r⟩
      · refine ⟨D, (wds z).map isWord, rfl, .of (by rw [hD, List.map_map]; rfl), ?_⟩
        have e : isLine z = List.all ((wds z).map isWord) id := by
          unfold isLine
          rw [decide_eq_true (by omega : (wds z).length ≤ 6), List.all_map]
          rfl
        rw [← e]
        exact q _ (s1.trans s2)
    · have e : isLine z = false := by
        unfold isLine
        rw [decide_eq_false (by omega : ¬ (wds z).length ≤ 6)]; simp
      rw [← e]; exact q _ s1
/-! ### is_pattern -/
def sp_is_pattern : Sp := fun vs H Q _ => ∃ z : Str, vs = [.str z] ∧ z.length ≤ 10000 ∧ ∀ H', Same H H' → Q (.bl (isPat z)) H'
theorem G_is_pattern (T : Tx K mg) : Glob P w K mg base (CX0) 2 "is_pattern" p_is_pattern [] sp_is_pattern := by
  obtain ⟨fd, F⟩ := T.f_is_pattern
  refine ⟨_, fd, [], F.ok sc_is_pattern (fun vs H Q E h => ?_) (fun cdv A outer s H vs Q E hr h => ?_), T.g_is_pattern, F.kp, .nil, F.bindsN fun _ _ _ _ _ _ us hl => match us, hl with | [_], _ => rfl⟩
  · obtain ⟨z, rfl, _⟩ := h; rfl
  · obtain ⟨z, rfl, hz, q⟩ := h
    refine ⟨_, PSs.nox (pss_cons (ps_set (i := 1) sc_is_pattern.nd rfl (Or.inl rfl) (pe_split (pv 0) pe_str))
      (pss_cons (ps_if (pt_cmpR op_eq (pe_ix (ix_listK (K := K) rfl) (pv 1) (pe_un un_neg pe_int) (fun _ _ => rfl)) (pe_gs T.c_REST (by rfl)) (nomark _))
      (pss_one (ps_expr (pe_bm0K (K := K) rfl PySem.F.plainAttrs_list PySem.F.slot_list_pop PySem.F.type_list_pop mt_pop (pv 1))))
      pss_nil)
      (pss_one (ps_ret (pe_and (pe_cmpR op_le (pe_callB (call_len_seqK (K := K) rfl) (by rfl) T.b_len (by decide +kernel) (pa_cons (pv 1) pa_nil)) (pe_gi T.c_MOST_WORDS (by rfl)) (nomark _)) (pe_one (pe_callB (cr_allK (K := K) rfl rfl) (by rfl) T.b_all (by decide +kernel) (pa_cons (pe_lc (own := [("word", 2)]) (g := (gName 2)) (tt := tYes) rfl sc_is_pattern.nd (pi_listK (K := K) rfl (pv 1)) (blkOk_by (by kernel_rfl)) (fun _ _ _ _ _ => (pg_name (i := 2) sc_is_pattern.nd rfl (Or.inl rfl))) (fun _ _ _ _ _ => pts_nil) (fun _ _ _ _ _ => (pe_or (pe_cmpR op_eq (pv 2) (pe_gs T.c_ANY (by rfl)) (nomark _)) (pe_one (pe_callG (G_is_word T) (hr.mono (by first | decide | omega)) (by rfl) pass0 (pa_cons (pv 2) pa_nil)))))) pa_nil)))))))), ?_⟩
    simp only [tCutE, false_and, exists_false, false_or, or_false, tRet, tRetN, tAndV, tOrV, tNotV, tChain, rI, rI0, rU, tC, tCB, tCons, tNil, tVar, tOp, tUn, tTest, tB, tAnd, tOr, tNot, tIf, tIfS, tSeq, tAsg, tDrop, tNext, gName, gTup_ref, gCons_cons, gNil_nil, and_assoc, tYes, wipe, rEq, rNe, scal_ss, scal_ii, scal_bb, scal_ns, scal_sn, scal_nn, scal_in, scal_ni, tLc_eq, tFor_eq, iList, iTup, iStr, iRng1, iRng2, iZip, iEnum, gSub, tSl, rSetL_ref, rCat_ref, rRep_ref, rJoin_ref, rSlL_ref, rSlS_ref, rMulS_ref, rIxL_ref, rIxT_ref, rLenK_ref, rAll_ref, rIn_ref, tLst, tTup, tPar, tPar3, tAug, tPart, tNoPart, tCall, List.getElem?_cons_zero, List.getElem?_cons_succ, List.set_cons_zero, List.set_cons_succ, List.map_cons, List.map_nil, List.append_nil, List.nil_append, List.cons_append, Option.some.injEq, exists_eq_left', exists_eq_left, exists_eq_right, exists_eq_right', exists_eq', V.int.injEq, V.str.injEq, V.bl.injEq, V.ref.injEq, List.cons.injEq, tM0, tM1, rNewStrs, sgn_eq, split_dot, split_sp, split_nl, dot_len, sp_len, nl_len, cxOf_K, L2.start, List.length_cons, List.length_nil, List.replicate_succ, List.replicate_zero, Nat.reduceSub, Nat.zero_add, and_true, true_and, and_self, exists_and_left, exists_const, Bool.false_eq_true, if_false, if_true, ite_true, ite_false, reduceIte, decide_eq_true_eq, reduceCtorEq, Nat.reduceAdd, Nat.reduceLT, tMseq, tMret, tNdef1, tThru, tCallV, gFldC, tFldC, sFldC, sFldAugC, tMeth, tMethX, tMethS, tMake, tCKw, sDPut, tDGet2, tVeI, tOst, tWhy, tXf, tListZip, tCallX, tCallXU, tCallV, tCallVS, tLam1, tLamD, tCallS, tCls, tClsD, cx_cells, cx_scope, cx_N, cx_prog, cx_w, cx_base, cx_mg, cx_qual]
    have hl := wds_len z
    have fin : ∀ (p : Addr) (H1 : Hp), H p = none → Same H H1 → H1 p = some (.lst ((cut (wds z)).map V.str)) → ∃ ys, (SqL K H1 p ys ∨ SqT K H1 p ys) ∧ if (ys.length : Int) ≤ 6 then
        (∃ xs, SqL K H1 p xs) ∧ LcG (Itl K p) (gName 2) tYes (tOrV (tOp rEq (tVar 2) (tC (V.str (Str.ofString "*")))) (tCall sp_is_word [] E0 (tCons (tVar 2) tNil))) [2] [some (V.str z), some (V.ref p), none] H1 fun x H1 => rAll K [x] H1 Q
      else Q (V.bl false) H1 := by
      intro p H1 hp s1 hc
      have hcl : (cut (wds z)).length ≤ (wds z).length := by
        unfold cut; split
        · rw [List.length_dropLast]; omega
        · exact Nat.le_refl _
      have hcm : ∀ w ∈ cut (wds z), w ∈ wds z := by
        unfold cut; split
        · exact fun w hw => List.dropLast_subset _ hw
        · exact fun w hw => hw
      refine ⟨_, .inl (.of hc), ?_⟩
      rw [List.length_map]
      split
      · rename_i h1
        refine ⟨⟨_, .of hc⟩, lc_map (cut (wds z)) (fun w => V.bl (starOr w)) (walk_listm (cut (wds z)) V.str) (by omega) (fun H2 s2 => s2.seq (.of hc)) (fun i a x H1 H' R hx s2 hy r => ?_) (fun D H1 nD s2 hD => ?_)⟩
        · obtain ⟨rfl, y, hy, rfl⟩ := hy
          cases Option.some.inj (hx.symm.trans hy)
          simp only [tCutE, false_and, exists_false, false_or, or_false, tRet, tRetN, tAndV, tOrV, tNotV, tChain, rI, rI0, rU, tC, tCB, tCons, tNil, tVar, tOp, tUn, tTest, tB, tAnd, tOr, tNot, tIf, tIfS, tSeq, tAsg, tDrop, tNext, gName, gTup_ref, gCons_cons, gNil_nil, and_assoc, tYes, wipe, rEq, rNe, scal_ss, scal_ii, scal_bb, scal_ns, scal_sn, scal_nn, scal_in, scal_ni, tLc_eq, tFor_eq, iList, iTup, iStr, iRng1, iRng2, iZip, iEnum, gSub, tSl, rSetL_ref, rCat_ref, rRep_ref, rJoin_ref, rSlL_ref, rSlS_ref, rMulS_ref, rIxL_ref, rIxT_ref, rLenK_ref, rAll_ref, rIn_ref, tLst, tTup, tPar, tPar3, tAug, tPart, tNoPart, tCall, List.getElem?_cons_zero, List.getElem?_cons_succ, List.set_cons_zero, List.set_cons_succ, List.map_cons, List.map_nil, List.append_nil, List.nil_append, List.cons_append, Option.some.injEq, exists_eq_left', exists_eq_left, exists_eq_right, exists_eq_right', exists_eq', V.int.injEq, V.str.injEq, V.bl.injEq, V.ref.injEq, List.cons.injEq, tM0, tM1, rNewStrs, sgn_eq, split_dot, split_sp, split_nl, dot_len, sp_len, nl_len, cxOf_K, L2.start, List.length_cons, List.length_nil, List.replicate_succ, List.replicate_zero, Nat.reduceSub, Nat.zero_add, and_true, true_and, and_self, exists_and_left, exists_const, Bool.false_eq_true, if_false, if_true, ite_true, ite_false, reduceIte, decide_eq_true_eq, reduceCtorEq, Nat.reduceAdd, Nat.reduceLT, tMseq, tMret, tNdef1, tThru, tCallV, gFldC, tFldC, sFldC, sFldAugC, tMeth, tMethX, tMethS, tMake, tCKw, sDPut, tDGet2, tVeI, tOst, tWhy, tXf, tListZip, tCallX, tCallXU, tCallV, tCallVS, tLam1, tLamD, tCallS, tCls, tClsD, cx_cells, cx_scope, cx_N, cx_prog, cx_w, cx_base, cx_mg, cx_qual]
          have := wds_each z a (hcm a (List.mem_of_getElem? hx))
          unfold starOr at r
          split
          · rename_i e
            subst e
            simp only [decide_true, Bool.true_or] at r
            exact r _ (Same.refl _)
          · rename_i e
            rw [decide_eq_false e, Bool.false_or] at r
            exact ⟨a, rfl, by omega, r⟩
        · refine ⟨D, (cut (wds z)).map starOr, rfl, .of (by rw [hD, List.map_map]; rfl), ?_⟩
          have e : isPat z = List.all ((cut (wds z)).map starOr) id := by
            unfold isPat
            rw [decide_eq_true (by omega : (cut (wds z)).length ≤ 6), List.all_map]
            rfl
          rw [← e]
          exact q _ (s1.trans s2)
      · have e : isPat z = false := by
          unfold isPat
          rw [decide_eq_false (by omega : ¬ (cut (wds z)).length ≤ 6)]; simp
        rw [← e]; exact q _ s1
    refine ⟨small (by omega), fun p hp => ⟨_, .of upd_same, ?_⟩⟩
    have s1 : Same H (upd H p (HO.lst (List.map V.str (wds z)))) := same_put (Same.refl _) hp
    obtain ⟨x, e1, e2⟩ := last_str (wds_ne z)
    refine ⟨.str x, (atI_neg1 (by simpa using wds_ne z)).trans e1, rfl, ?_⟩
    split
    · rename_i e
      cases e
      refine ⟨_, rfl, .inl ⟨rfl, _, .of upd_same⟩, p, _, .str ("#" : Str), rfl, rfl, upd_same, ?_, ?_⟩
      · rw [← List.getLast?_eq_getElem?]; exact e1
      · refine fin p _ hp (same_put s1 hp) ?_
        rw [upd_same]
        unfold cut
        rw [if_pos e2, List.map_dropLast]
    · rename_i e
      refine fin p _ hp s1 ?_
      rw [upd_same]
      unfold cut
      rw [if_neg (fun z => e (by rw [e2] at z; exact congrArg V.str (Option.some.inj z)))]
/-! ### need_line, need_pattern -/
def sp_need_line (K : PySem.W.Frag) : Sp := fun vs H Q E => ∃ z : Str, vs = [.str z] ∧ z.length ≤ 10000 ∧ (isLine z = true → ∀ H', Same H H' → Q .non H') ∧ (isLine z = false → ∀ H', Same H H' → E (.ref (He.ga K "BadLine")) none H')
theorem G_need_line (T : Tx K mg) : Glob P w K mg base (L2.CX P w) 3 "need_line" p_need_line [] (sp_need_line K) := by
  obtain ⟨fd, F⟩ := T.f_need_line
  refine ⟨_, fd, [], F.ok sc_need_line (fun vs H Q E h => ?_) (fun cdv A outer s H vs Q E hr h => ?_), T.g_need_line, F.kp, .nil, F.bindsN fun _ _ _ _ _ _ us hl => match us, hl with | [_], _ => rfl⟩
  · obtain ⟨z, rfl, _⟩ := h; rfl
  · obtain ⟨z, rfl, hz, q1, q2⟩ := h
    refine ⟨_, (pss_one (ps_if (pt_not (pt_val (pe_callG (G_is_line T) (hr.mono (by first | decide | omega)) (by rfl) pass0 (pa_cons (pv 0) pa_nil))))
      (pss_one (ps_raise rfl (takes_of rfl rfl rfl rfl) (pmk_own PySem.F.excBase_ValueError T.x_BadLine.1 T.g_BadLine T.x_BadLine.2.1 (raises_own T.x_BadLine.2.2.1 T.x_BadLine.2.2.2) rfl)))
      pss_nil)), ?_⟩
    simp only [tCutE, false_and, exists_false, false_or, or_false, tRet, tRetN, tAndV, tOrV, tNotV, tChain, rI, rI0, rU, tC, tCB, tCons, tNil, tVar, tOp, tUn, tTest, tB, tAnd, tOr, tNot, tIf, tIfS, tSeq, tAsg, tDrop, tNext, gName, gTup_ref, gCons_cons, gNil_nil, and_assoc, tYes, wipe, rEq, rNe, scal_ss, scal_ii, scal_bb, scal_ns, scal_sn, scal_nn, scal_in, scal_ni, tLc_eq, tFor_eq, iList, iTup, iStr, iRng1, iRng2, iZip, iEnum, gSub, tSl, rSetL_ref, rCat_ref, rRep_ref, rJoin_ref, rSlL_ref, rSlS_ref, rMulS_ref, rIxL_ref, rIxT_ref, rLenK_ref, rAll_ref, rIn_ref, tLst, tTup, tPar, tPar3, tAug, tPart, tNoPart, tCall, List.getElem?_cons_zero, List.getElem?_cons_succ, List.set_cons_zero, List.set_cons_succ, List.map_cons, List.map_nil, List.append_nil, List.nil_append, List.cons_append, Option.some.injEq, exists_eq_left', exists_eq_left, exists_eq_right, exists_eq_right', exists_eq', V.int.injEq, V.str.injEq, V.bl.injEq, V.ref.injEq, List.cons.injEq, tM0, tM1, rNewStrs, sgn_eq, split_dot, split_sp, split_nl, dot_len, sp_len, nl_len, cxOf_K, L2.start, List.length_cons, List.length_nil, List.replicate_succ, List.replicate_zero, Nat.reduceSub, Nat.zero_add, and_true, true_and, and_self, exists_and_left, exists_const, Bool.false_eq_true, if_false, if_true, ite_true, ite_false, reduceIte, decide_eq_true_eq, reduceCtorEq, Nat.reduceAdd, Nat.reduceLT, tMseq, tMret, tNdef1, tThru, tCallV, gFldC, tFldC, sFldC, sFldAugC, tMeth, tMethX, tMethS, tMake, tCKw, sDPut, tDGet2, tVeI, tOst, tWhy, tXf, tListZip, tCallX, tCallXU, tCallV, tCallVS, tLam1, tLamD, tCallS, tCls, tClsD, cx_cells, cx_scope, cx_N, cx_prog, cx_w, cx_base, cx_mg, cx_qual]
    refine ⟨z, rfl, hz, fun H' s1 => ⟨_, rfl, ?_⟩⟩
    cases e : isLine z with
    | true => exact iteF (q1 e H' s1)
    | false => exact iteT (q2 e H' s1)
def sp_need_pattern (K : PySem.W.Frag) : Sp := fun vs H Q E => ∃ z : Str, vs = [.str z] ∧ z.length ≤ 10000 ∧ (isPat z = true → ∀ H', Same H H' → Q .non H') ∧ (isPat z = false → ∀ H', Same H H' → E (.ref (He.ga K "BadPattern")) none H')
theorem G_need_pattern (T : Tx K mg) : Glob P w K mg base (L2.CX P w) 3 "need_pattern" p_need_pattern [] (sp_need_pattern K) := by
  obtain ⟨fd, F⟩ := T.f_need_pattern
  refine ⟨_, fd, [], F.ok sc_need_pattern (fun vs H Q E h => ?_) (fun cdv A outer s H vs Q E hr h => ?_), T.g_need_pattern, F.kp, .nil, F.bindsN fun _ _ _ _ _ _ us hl => match us, hl with | [_], _ => rfl⟩
  · obtain ⟨z, rfl, _⟩ := h; rfl
  · obtain ⟨z, rfl, hz, q1, q2⟩ := h
    refine ⟨_, (pss_one (ps_if (pt_not (pt_val (pe_callG (G_is_pattern T) (hr.mono (by first | decide | omega)) (by rfl) pass0 (pa_cons (pv 0) pa_nil))))
      (pss_one (ps_raise rfl (takes_of rfl rfl rfl rfl) (pmk_own PySem.F.excBase_ValueError T.x_BadPattern.1 T.g_BadPattern T.x_BadPattern.2.1 (raises_own T.x_BadPattern.2.2.1 T.x_BadPattern.2.2.2) rfl)))
      pss_nil)), ?_⟩
    simp only [tCutE, false_and, exists_false, false_or, or_false, tRet, tRetN, tAndV, tOrV, tNotV, tChain, rI, rI0, rU, tC, tCB, tCons, tNil, tVar, tOp, tUn, tTest, tB, tAnd, tOr, tNot, tIf, tIfS, tSeq, tAsg, tDrop, tNext, gName, gTup_ref, gCons_cons, gNil_nil, and_assoc, tYes, wipe, rEq, rNe, scal_ss, scal_ii, scal_bb, scal_ns, scal_sn, scal_nn, scal_in, scal_ni, tLc_eq, tFor_eq, iList, iTup, iStr, iRng1, iRng2, iZip, iEnum, gSub, tSl, rSetL_ref, rCat_ref, rRep_ref, rJoin_ref, rSlL_ref, rSlS_ref, rMulS_ref, rIxL_ref, rIxT_ref, rLenK_ref, rAll_ref, rIn_ref, tLst, tTup, tPar, tPar3, tAug, tPart, tNoPart, tCall, List.getElem?_cons_zero, List.getElem?_cons_succ, List.set_cons_zero, List.set_cons_succ, List.map_cons, List.map_nil, List.append_nil, List.nil_append, List.cons_append, Option.some.injEq, exists_eq_left', exists_eq_left, exists_eq_right, exists_eq_right', exists_eq', V.int.injEq, V.str.injEq, V.bl.injEq, V.ref.injEq, List.cons.injEq, tM0, tM1, rNewStrs, sgn_eq, split_dot, split_sp, split_nl, dot_len, sp_len, nl_len, cxOf_K, L2.start, List.length_cons, List.length_nil, List.replicate_succ, List.replicate_zero, Nat.reduceSub, Nat.zero_add, and_true, true_and, and_self, exists_and_left, exists_const, Bool.false_eq_true, if_false, if_true, ite_true, ite_false, reduceIte, decide_eq_true_eq, reduceCtorEq, Nat.reduceAdd, Nat.reduceLT, tMseq, tMret, tNdef1, tThru, tCallV, gFldC, tFldC, sFldC, sFldAugC, tMeth, tMethX, tMethS, tMake, tCKw, sDPut, tDGet2, tVeI, tOst, tWhy, tXf, tListZip, tCallX, tCallXU, tCallV, tCallVS, tLam1, tLamD, tCallS, tCls, tClsD, cx_cells, cx_scope, cx_N, cx_prog, cx_w, cx_base, cx_mg, cx_qual]
    refine ⟨z, rfl, hz, fun H' s1 => ⟨_, rfl, ?_⟩⟩
    cases e : isPat z with
    | true => exact iteF (q1 e H' s1)
    | false => exact iteT (q2 e H' s1)
/-! ### of_length -/
def sp_of_length : Sp := fun vs H Q _ => ∃ (z : Str) (n : Int), vs = [.str z, .int n] ∧ z.length ≤ 10000 ∧ -10000 ≤ n ∧ n ≤ 10000 ∧
  (ofLen z n = none → ∀ H', Same H H' → Q .non H') ∧ (∀ ws, ofLen z n = some ws → ∀ H' p, Same H H' → H p = none → H' p = some (.lst (ws.map V.str)) → Q (.ref p) H')
theorem G_of_length (T : Tx K mg) : Glob P w K mg base (CX0) 1 "of_length" p_of_length [] sp_of_length := by
  obtain ⟨fd, F⟩ := T.f_of_length
  refine ⟨_, fd, [], F.ok sc_of_length (fun vs H Q E h => ?_) (fun cdv A outer s H vs Q E hr h => ?_), T.g_of_length, F.kp, .nil, F.bindsN fun _ _ _ _ _ _ us hl => match us, hl with | [_, _], _ => rfl⟩
  · obtain ⟨z, n, rfl, _⟩ := h; rfl
  · obtain ⟨z, n, rfl, hz, hn0, hn, q1, q2⟩ := h
    refine ⟨_, PSs.nox (pss_cons (ps_set (i := 2) sc_of_length.nd rfl (Or.inl rfl) (pe_split (pv 0) pe_str))
      (pss_cons (ps_if (pt_cmpR op_eq (pe_ix (ix_listK (K := K) rfl) (pv 2) (pe_un un_neg pe_int) (fun _ _ => rfl)) (pe_gs T.c_REST (by rfl)) (nomark _))
      (pss_cons (ps_expr (pe_bm0K (K := K) rfl PySem.F.plainAttrs_list PySem.F.slot_list_pop PySem.F.type_list_pop mt_pop (pv 2)))
      (pss_one (ps_aug (i := 2) sc_of_length.nd rfl (Or.inl rfl) (pe_op op_rep (pe_lst (pa_cons (pe_gs T.c_ANY (by rfl)) pa_nil)) (pe_op op_sub (pv 1) (pe_callB (call_len_seqK (K := K) rfl) (by rfl) T.b_len (by decide +kernel) (pa_cons (pv 2) pa_nil)))) iop_ext)))
      pss_nil)
      (pss_one (ps_ret (pe_ifExp (pt_cmpR op_eq (pe_callB (call_len_seqK (K := K) rfl) (by rfl) T.b_len (by decide +kernel) (pa_cons (pv 2) pa_nil)) (pv 1) (nomark _)) (pv 2) pe_non))))), ?_⟩
    simp only [tCutE, false_and, exists_false, false_or, or_false, tRet, tRetN, tAndV, tOrV, tNotV, tChain, rI, rI0, rU, tC, tCB, tCons, tNil, tVar, tOp, tUn, tTest, tB, tAnd, tOr, tNot, tIf, tIfS, tSeq, tAsg, tDrop, tNext, gName, gTup_ref, gCons_cons, gNil_nil, and_assoc, tYes, wipe, rEq, rNe, scal_ss, scal_ii, scal_bb, scal_ns, scal_sn, scal_nn, scal_in, scal_ni, tLc_eq, tFor_eq, iList, iTup, iStr, iRng1, iRng2, iZip, iEnum, gSub, tSl, rSetL_ref, rCat_ref, rRep_ref, rJoin_ref, rSlL_ref, rSlS_ref, rMulS_ref, rIxL_ref, rIxT_ref, rLenK_ref, rAll_ref, rIn_ref, tLst, tTup, tPar, tPar3, tAug, tPart, tNoPart, tCall, List.getElem?_cons_zero, List.getElem?_cons_succ, List.set_cons_zero, List.set_cons_succ, List.map_cons, List.map_nil, List.append_nil, List.nil_append, List.cons_append, Option.some.injEq, exists_eq_left', exists_eq_left, exists_eq_right, exists_eq_right', exists_eq', V.int.injEq, V.str.injEq, V.bl.injEq, V.ref.injEq, List.cons.injEq, tM0, tM1, rNewStrs, sgn_eq, split_dot, split_sp, split_nl, dot_len, sp_len, nl_len, cxOf_K, L2.start, List.length_cons, List.length_nil, List.replicate_succ, List.replicate_zero, Nat.reduceSub, Nat.zero_add, and_true, true_and, and_self, exists_and_left, exists_const, Bool.false_eq_true, if_false, if_true, ite_true, ite_false, reduceIte, decide_eq_true_eq, reduceCtorEq, Nat.reduceAdd, Nat.reduceLT, tMseq, tMret, tNdef1, tThru, tCallV, gFldC, tFldC, sFldC, sFldAugC, tMeth, tMethX, tMethS, tMake, tCKw, sDPut, tDGet2, tVeI, tOst, tWhy, tXf, tListZip, tCallX, tCallXU, tCallV, tCallVS, tLam1, tLamD, tCallS, tCls, tClsD, cx_cells, cx_scope, cx_N, cx_prog, cx_w, cx_base, cx_mg, cx_qual]
    have hl := wds_len z
    refine ⟨small (by omega), fun p hp => ⟨_, .of upd_same, ?_⟩⟩
    have s1 : Same H (upd H p (HO.lst (List.map V.str (wds z)))) := same_put (Same.refl _) hp
    obtain ⟨x, e1, e2⟩ := last_str (wds_ne z)
    refine ⟨.str x, (atI_neg1 (by simpa using wds_ne z)).trans e1, rfl, ?_⟩
    split
    · rename_i e
      cases e
      refine ⟨_, rfl, .inl ⟨rfl, _, .of upd_same⟩, p, _, .str ("#" : Str), rfl, rfl, upd_same, ?_, ?_⟩
      · rw [← List.getLast?_eq_getElem?]; exact e1
      have ed : (List.map V.str (wds z)).dropLast = ((wds z).dropLast).map V.str := by rw [List.map_dropLast]
      rw [ed]
      have s2 : Same H (upd (upd H p (HO.lst (List.map V.str (wds z)))) p (HO.lst (List.map V.str (wds z).dropLast))) := same_put s1 hp
      generalize hH2 : upd (upd H p (HO.lst (List.map V.str (wds z)))) p (HO.lst (List.map V.str (wds z).dropLast)) = H2 at s2
      have hp2 : H2 p = some (.lst ((wds z).dropLast.map V.str)) := by rw [← hH2, upd_same]
      refine ⟨by decide, fun r hr => ?_⟩
      have npr : p ≠ r := ne_of_none hp2 hr
      refine ⟨_, .inl (.of (by rw [upd_ne npr]; exact hp2)), _, upd_same, ?_, ?_, ?_, fun t ht => ?_⟩
      · rw [List.length_map, List.length_dropLast]; omega
      · omega
      · simp only [List.length_singleton]; exact small (by omega)
      have npt : p ≠ t := by
        intro e; subst e
        rw [upd_ne npr, hp2] at ht; cases ht
      have nrt : r ≠ t := by
        intro e; subst e
        rw [upd_same] at ht; cases ht
      have hdl : (wds z).dropLast.length = (wds z).length - 1 := List.length_dropLast
      refine ⟨p, t, (wds z).dropLast.map V.str, _, rfl, rfl, by rw [upd_ne npt, upd_ne npr]; exact hp2, upd_same, ?_, ?_⟩
      · rw [List.length_map, List.length_flatten, List.map_replicate, List.sum_replicate_nat]; simp only [List.length_singleton, List.length_map]; exact small (by omega)
      have eo : (wds z).dropLast.map V.str ++ (List.replicate (n - ((wds z).dropLast.map V.str).length).toNat [V.str (Str.ofString "*")]).flatten = ((wds z).dropLast ++ List.replicate (n - (wds z).dropLast.length).toNat ("*" : Str)).map V.str := by
        rw [List.map_append, List.map_replicate, List.length_map, List.flatten_replicate_singleton]
      rw [eo]
      have s3 : Same H (upd (upd (upd H2 r (HO.lst [V.str (Str.ofString "*")])) t (HO.lst (List.replicate (n - ((wds z).dropLast.map V.str).length).toNat [V.str (Str.ofString "*")]).flatten)) p (HO.lst (((wds z).dropLast ++ List.replicate (n - (wds z).dropLast.length).toNat ("*" : Str)).map V.str))) :=
        same_put (same_new (same_new s2 hr) ht) hp
      simp only [tCutE, false_and, exists_false, false_or, or_false, tRet, tRetN, tAndV, tOrV, tNotV, tChain, rI, rI0, rU, tC, tCB, tCons, tNil, tVar, tOp, tUn, tTest, tB, tAnd, tOr, tNot, tIf, tIfS, tSeq, tAsg, tDrop, tNext, gName, gTup_ref, gCons_cons, gNil_nil, and_assoc, tYes, wipe, rEq, rNe, scal_ss, scal_ii, scal_bb, scal_ns, scal_sn, scal_nn, scal_in, scal_ni, tLc_eq, tFor_eq, iList, iTup, iStr, iRng1, iRng2, iZip, iEnum, gSub, tSl, rSetL_ref, rCat_ref, rRep_ref, rJoin_ref, rSlL_ref, rSlS_ref, rMulS_ref, rIxL_ref, rIxT_ref, rLenK_ref, rAll_ref, rIn_ref, tLst, tTup, tPar, tPar3, tAug, tPart, tNoPart, tCall, List.getElem?_cons_zero, List.getElem?_cons_succ, List.set_cons_zero, List.set_cons_succ, List.map_cons, List.map_nil, List.append_nil, List.nil_append, List.cons_append, Option.some.injEq, exists_eq_left', exists_eq_left, exists_eq_right, exists_eq_right', exists_eq', V.int.injEq, V.str.injEq, V.bl.injEq, V.ref.injEq, List.cons.injEq, tM0, tM1, rNewStrs, sgn_eq, split_dot, split_sp, split_nl, dot_len, sp_len, nl_len, cxOf_K, L2.start, List.length_cons, List.length_nil, List.replicate_succ, List.replicate_zero, Nat.reduceSub, Nat.zero_add, and_true, true_and, and_self, exists_and_left, exists_const, Bool.false_eq_true, if_false, if_true, ite_true, ite_false, reduceIte, decide_eq_true_eq, reduceCtorEq, Nat.reduceAdd, Nat.reduceLT, tMseq, tMret, tNdef1, tThru, tCallV, gFldC, tFldC, sFldC, sFldAugC, tMeth, tMethX, tMethS, tMake, tCKw, sDPut, tDGet2, tVeI, tOst, tWhy, tXf, tListZip, tCallX, tCallXU, tCallV, tCallVS, tLam1, tLamD, tCallS, tCls, tClsD, cx_cells, cx_scope, cx_N, cx_prog, cx_w, cx_base, cx_mg, cx_qual]
      refine ⟨_, .inl (.of upd_same), ?_⟩
      rw [List.length_map]
      have eq : ofLen z n = if ((((wds z).dropLast ++ List.replicate (n - (wds z).dropLast.length).toNat ("*" : Str)).length : Int) = n) then some ((wds z).dropLast ++ List.replicate (n - (wds z).dropLast.length).toNat ("*" : Str)) else none := by
        unfold ofLen
        simp only [if_pos e2]
      split
      · rename_i h1
        rw [if_pos h1] at eq
        exact q2 _ eq _ p s3 hp upd_same
      · rename_i h1
        rw [if_neg h1] at eq
        exact q1 eq _ s3
    · rename_i e
      refine ⟨_, .inl (.of upd_same), ?_⟩
      rw [List.length_map]
      have e3 : ¬ (wds z).getLast? = some ("#" : Str) := fun z => e (by rw [e2] at z; exact congrArg V.str (Option.some.inj z))
      have eq : ofLen z n = if ((wds z).length : Int) = n then some (wds z) else none := by
        unfold ofLen
        simp only [if_neg e3]
      split
      · rename_i h1
        rw [if_pos h1] at eq
        exact q2 _ eq _ p s1 hp upd_same
      · rename_i h1
        rw [if_neg h1] at eq
        exact q1 eq _ s1
/-! ### does_fit -/
theorem ofLen_len {p : Str} {n : Int} {ws : List Str} (h : ofLen p n = some ws) : (ws.length : Int) = n := by
  unfold ofLen at h
  simp only at h
  split at h
  · split at h
    · rename_i e
      cases h; exact e
    · cases h
  · split at h
    · rename_i e
      cases h; exact e
    · cases h
def sp_does_fit : Sp := fun vs H Q _ => ∃ (z l : Str), vs = [.str z, .str l] ∧ z.length ≤ 10000 ∧ l.length ≤ 5000 ∧ ∀ H', Same H H' → Q (.bl (doesFit z l)) H'
theorem G_does_fit (T : Tx K mg) : Glob P w K mg base (CX0) 2 "does_fit" p_does_fit [] sp_does_fit := by
  obtain ⟨fd, F⟩ := T.f_does_fit
  refine ⟨_, fd, [], F.ok sc_does_fit (fun vs H Q E h => ?_) (fun cdv A outer s H vs Q E hr h => ?_), T.g_does_fit, F.kp, .nil, F.bindsN fun _ _ _ _ _ _ us hl => match us, hl with | [_, _], _ => rfl⟩
  · obtain ⟨z, l, rfl, _⟩ := h; rfl
  · obtain ⟨z, l, rfl, hz, hl, q⟩ := h
    refine ⟨_, PSs.nox (pss_cons (ps_set (i := 2) sc_does_fit.nd rfl (Or.inl rfl) (pe_split (pv 1) pe_str))
      (pss_cons (ps_set (i := 3) sc_does_fit.nd rfl (Or.inl rfl) (pe_callG (G_of_length T) (hr.mono (by first | decide | omega)) (by rfl) pass0 (pa_cons (pv 0) (pa_cons (pe_callB (call_len_seqK (K := K) rfl) (by rfl) T.b_len (by decide +kernel) (pa_cons (pv 2) pa_nil)) pa_nil))))
      (pss_one (ps_ret (pe_and (pe_cmpR op_notN (pv 3) pe_non (nomark _)) (pe_one (pe_callB (cr_allK (K := K) rfl rfl) (by rfl) T.b_all (by decide +kernel) (pa_cons (pe_lc (own := [("word", 4), ("part", 5)]) (g := (gTup K 2 (gCons (gName 4) (gCons (gName 5) gNil)))) (tt := tYes) rfl sc_does_fit.nd (pi_zipK (K := K) rfl (by rfl) T.b_zip (pa_cons (pv 3) (pa_cons (pv 2) pa_nil))) (blkOk_by (by kernel_rfl)) (fun _ _ _ _ _ => (pg_tupK (K := K) rfl rfl (pgs_cons (pg_name (i := 4) sc_does_fit.nd rfl (Or.inl rfl)) (pgs_cons (pg_name (i := 5) sc_does_fit.nd rfl (Or.inl rfl)) pgs_nil)))) (fun _ _ _ _ _ => pts_nil) (fun _ _ _ _ _ => (pe_cmpR (op_in_seqK (K := K) rfl) (pv 4) (pe_tup (pa_cons (pe_gs T.c_ANY (by rfl)) (pa_cons (pv 5) pa_nil))) (by rfl)))) pa_nil)))))))), ?_⟩
    simp only [tCutE, false_and, exists_false, false_or, or_false, tRet, tRetN, tAndV, tOrV, tNotV, tChain, rI, rI0, rU, tC, tCB, tCons, tNil, tVar, tOp, tUn, tTest, tB, tAnd, tOr, tNot, tIf, tIfS, tSeq, tAsg, tDrop, tNext, gName, gTup_ref, gCons_cons, gNil_nil, and_assoc, tYes, wipe, rEq, rNe, scal_ss, scal_ii, scal_bb, scal_ns, scal_sn, scal_nn, scal_in, scal_ni, tLc_eq, tFor_eq, iList, iTup, iStr, iRng1, iRng2, iZip, iEnum, gSub, tSl, rSetL_ref, rCat_ref, rRep_ref, rJoin_ref, rSlL_ref, rSlS_ref, rMulS_ref, rIxL_ref, rIxT_ref, rLenK_ref, rAll_ref, rIn_ref, tLst, tTup, tPar, tPar3, tAug, tPart, tNoPart, tCall, List.getElem?_cons_zero, List.getElem?_cons_succ, List.set_cons_zero, List.set_cons_succ, List.map_cons, List.map_nil, List.append_nil, List.nil_append, List.cons_append, Option.some.injEq, exists_eq_left', exists_eq_left, exists_eq_right, exists_eq_right', exists_eq', V.int.injEq, V.str.injEq, V.bl.injEq, V.ref.injEq, List.cons.injEq, tM0, tM1, rNewStrs, sgn_eq, split_dot, split_sp, split_nl, dot_len, sp_len, nl_len, cxOf_K, L2.start, List.length_cons, List.length_nil, List.replicate_succ, List.replicate_zero, Nat.reduceSub, Nat.zero_add, and_true, true_and, and_self, exists_and_left, exists_const, Bool.false_eq_true, if_false, if_true, ite_true, ite_false, reduceIte, decide_eq_true_eq, reduceCtorEq, Nat.reduceAdd, Nat.reduceLT, tMseq, tMret, tNdef1, tThru, tCallV, gFldC, tFldC, sFldC, sFldAugC, tMeth, tMethX, tMethS, tMake, tCKw, sDPut, tDGet2, tVeI, tOst, tWhy, tXf, tListZip, tCallX, tCallXU, tCallV, tCallVS, tLam1, tLamD, tCallS, tCls, tClsD, cx_cells, cx_scope, cx_N, cx_prog, cx_w, cx_base, cx_mg, cx_qual]
    have hw := wds_len l
    refine ⟨small (by omega), fun p hp => ⟨_, .inl (.of upd_same), ?_⟩⟩
    have s1 : Same H (upd H p (HO.lst (List.map V.str (wds l)))) := same_put (Same.refl _) hp
    have el : (List.map V.str (wds l)).length = (wds l).length := by rw [List.length_map]
    rw [el]
    refine ⟨z, _, rfl, hz, by omega, by omega, fun e H' s2 => ?_, fun ws e H' r s2 hr hr' => ?_⟩
    · simp only [decide_true, Bool.not_true, Bool.false_eq_true, if_false]
      have e2 : doesFit z l = false := by unfold doesFit; rw [e]
      rw [← e2]
      exact q _ (s1.trans s2)
    · simp only [reduceCtorEq, decide_false, Bool.not_false, if_true]
      have e2 : doesFit z l = (ws.zip (wds l)).all fit1 := by unfold doesFit; rw [e]
      have hp' : H' p = some (.lst ((wds l).map V.str)) := s2 _ _ upd_same
      have hwl := ofLen_len e
      simp only [tCutE, false_and, exists_false, false_or, or_false, tRet, tRetN, tAndV, tOrV, tNotV, tChain, rI, rI0, rU, tC, tCB, tCons, tNil, tVar, tOp, tUn, tTest, tB, tAnd, tOr, tNot, tIf, tIfS, tSeq, tAsg, tDrop, tNext, gName, gTup_ref, gCons_cons, gNil_nil, and_assoc, tYes, wipe, rEq, rNe, scal_ss, scal_ii, scal_bb, scal_ns, scal_sn, scal_nn, scal_in, scal_ni, tLc_eq, tFor_eq, iList, iTup, iStr, iRng1, iRng2, iZip, iEnum, gSub, tSl, rSetL_ref, rCat_ref, rRep_ref, rJoin_ref, rSlL_ref, rSlS_ref, rMulS_ref, rIxL_ref, rIxT_ref, rLenK_ref, rAll_ref, rIn_ref, tLst, tTup, tPar, tPar3, tAug, tPart, tNoPart, tCall, List.getElem?_cons_zero, List.getElem?_cons_succ, List.set_cons_zero, List.set_cons_succ, List.map_cons, List.map_nil, List.append_nil, List.nil_append, List.cons_append, Option.some.injEq, exists_eq_left', exists_eq_left, exists_eq_right, exists_eq_right', exists_eq', V.int.injEq, V.str.injEq, V.bl.injEq, V.ref.injEq, List.cons.injEq, tM0, tM1, rNewStrs, sgn_eq, split_dot, split_sp, split_nl, dot_len, sp_len, nl_len, cxOf_K, L2.start, List.length_cons, List.length_nil, List.replicate_succ, List.replicate_zero, Nat.reduceSub, Nat.zero_add, and_true, true_and, and_self, exists_and_left, exists_const, Bool.false_eq_true, if_false, if_true, ite_true, ite_false, reduceIte, decide_eq_true_eq, reduceCtorEq, Nat.reduceAdd, Nat.reduceLT, tMseq, tMret, tNdef1, tThru, tCallV, gFldC, tFldC, sFldC, sFldAugC, tMeth, tMethX, tMethS, tMake, tCKw, sDPut, tDGet2, tVeI, tOst, tWhy, tXf, tListZip, tCallX, tCallXU, tCallV, tCallVS, tLam1, tLamD, tCallS, tCls, tClsD, cx_cells, cx_scope, cx_N, cx_prog, cx_w, cx_base, cx_mg, cx_qual]
      refine ⟨_, .of hr', _, .of hp', lc_map (ws.zip (wds l)) (fun q => V.bl (fit1 q)) (walk_zipm ws (wds l) V.str V.str) (by rw [List.length_zip]; omega) (fun H2 s3 => ⟨s3.seq (.of hr'), s3.seq (.of hp')⟩) (fun i a x H1 H3 R hx s3 hy r => ?_) (fun D H1 nD s3 hD => ?_)⟩
      · obtain ⟨t, y, rfl, ht, rfl, hy⟩ := hy
        cases Option.some.inj (hx.symm.trans hy)
        refine ⟨t, _, rfl, .of upd_same, rfl, ?_⟩
        simp only [tCutE, false_and, exists_false, false_or, or_false, tRet, tRetN, tAndV, tOrV, tNotV, tChain, rI, rI0, rU, tC, tCB, tCons, tNil, tVar, tOp, tUn, tTest, tB, tAnd, tOr, tNot, tIf, tIfS, tSeq, tAsg, tDrop, tNext, gName, gTup_ref, gCons_cons, gNil_nil, and_assoc, tYes, wipe, rEq, rNe, scal_ss, scal_ii, scal_bb, scal_ns, scal_sn, scal_nn, scal_in, scal_ni, tLc_eq, tFor_eq, iList, iTup, iStr, iRng1, iRng2, iZip, iEnum, gSub, tSl, rSetL_ref, rCat_ref, rRep_ref, rJoin_ref, rSlL_ref, rSlS_ref, rMulS_ref, rIxL_ref, rIxT_ref, rLenK_ref, rAll_ref, rIn_ref, tLst, tTup, tPar, tPar3, tAug, tPart, tNoPart, tCall, List.getElem?_cons_zero, List.getElem?_cons_succ, List.set_cons_zero, List.set_cons_succ, List.map_cons, List.map_nil, List.append_nil, List.nil_append, List.cons_append, Option.some.injEq, exists_eq_left', exists_eq_left, exists_eq_right, exists_eq_right', exists_eq', V.int.injEq, V.str.injEq, V.bl.injEq, V.ref.injEq, List.cons.injEq, tM0, tM1, rNewStrs, sgn_eq, split_dot, split_sp, split_nl, dot_len, sp_len, nl_len, cxOf_K, L2.start, List.length_cons, List.length_nil, List.replicate_succ, List.replicate_zero, Nat.reduceSub, Nat.zero_add, and_true, true_and, and_self, exists_and_left, exists_const, Bool.false_eq_true, if_false, if_true, ite_true, ite_false, reduceIte, decide_eq_true_eq, reduceCtorEq, Nat.reduceAdd, Nat.reduceLT, tMseq, tMret, tNdef1, tThru, tCallV, gFldC, tFldC, sFldC, sFldAugC, tMeth, tMethX, tMethS, tMake, tCKw, sDPut, tDGet2, tVeI, tOst, tWhy, tXf, tListZip, tCallX, tCallXU, tCallV, tCallVS, tLam1, tLamD, tCallS, tCls, tClsD, cx_cells, cx_scope, cx_N, cx_prog, cx_w, cx_base, cx_mg, cx_qual]
        refine ⟨by decide, fun u hu => ⟨_, .inr (.of upd_same), rfl, rfl, ?_⟩⟩
        have e3 : inV (V.str a.1) [V.str (Str.ofString "*"), V.str a.2] = fit1 a := by
          unfold inV fit1 eqV
          simp only [List.any_cons, List.any_nil, Bool.or_false]
          rw [beq_dec, beq_dec]
        rw [e3]
        exact r _ (same_new (same_new (Same.refl _) ht) hu)
      · refine ⟨D, (ws.zip (wds l)).map fit1, rfl, .of (by rw [hD, List.map_map]; rfl), ?_⟩
        have e4 : doesFit z l = List.all ((ws.zip (wds l)).map fit1) id := by
          rw [e2, List.all_map]; rfl
        rw [← e4]
        exact q _ ((s1.trans s2).trans s3)
end
end Hk

set_option Elab.async false
set_option linter.all false
set_option maxRecDepth 100000
set_option maxHeartbeats 4000000
namespace Hk
open PySem PySem.Spec PyProof.Rows L2
open LamX NdefX
section
variable {P : Program} {w : World} {K : PySem.W.Frag} {mg : Str → Option Value} {base : Heap}
/-! ### what is drawn from: a list of a number, the cells and a place -/
def SrcOk (H : Hp) (h l : Addr) : Prop := ∃ (m p : Int) (cs : List Int), H h = some (.lst [.int m, .ref l, .int p]) ∧ H l = some (.lst (cs.map V.int)) ∧ 0 ≤ m ∧ m < 2147483647 ∧ 0 ≤ p ∧ cs.length ≤ 63
abbrev DrS (h l : Addr) : Addr → Prop := fun b => b = h ∨ b = l
theorem SrcOk.ne {H : Hp} {h l : Addr} (s : SrcOk H h l) : h ≠ l := by
  obtain ⟨m, p, cs, e1, e2, _⟩ := s
  intro e; subst e
  rw [e1] at e2
  cases cs with
  | nil => cases e2
  | cons a r =>
    cases r with
    | nil => cases e2
    | cons b r => cases e2
def sp_law_mix (K : PySem.W.Frag) : Sp := fun vs H Q _ => ∃ (a : Addr) (ns : List Int) (sd : Int), vs = [.ref a, .int sd] ∧ SqL K H a (ns.map V.int) ∧ ns.length ≤ 63 ∧ 0 ≤ sd ∧ sd < 2147483647 ∧
  ∀ H' h l, Same H H' → H h = none → H l = none → SrcOk H' h l → Q (.ref h) H'
theorem G_law_mix (T : Tx K mg) : Glob P w K mg base (CX0) 1 "_law_mix" p_law_mix [] (sp_law_mix K) := by
  obtain ⟨fd, F⟩ := T.f_law_mix
  refine ⟨_, fd, [], F.ok sc_law_mix (fun vs H Q E h => ?_) (fun cdv A outer s H vs Q E hr h => ?_), T.g__law_mix, F.kp, .nil, F.bindsN fun _ _ _ _ _ _ us hl => match us, hl with | [_, _], _ => rfl⟩
  · obtain ⟨a, ns, sd, rfl, _⟩ := h; rfl
  · obtain ⟨a, ns, sd, rfl, hS, hn, h0, h1, q⟩ := h
    refine ⟨_, PSs.nox (pss_cons (ps_set (i := 2) sc_law_mix.nd rfl (Or.inl rfl) (pv 1))
      (pss_cons (ps_for PassesOwn.never rfl (pi_listK (K := K) rfl (pv 0)) (pg_name (i := 3) sc_law_mix.nd rfl (Or.inl rfl))
      (pss_one (ps_set (i := 2) sc_law_mix.nd rfl (Or.inl rfl) (pe_op op_mod (pe_op op_add (pe_op op_add (pe_op op_mul (pv 2) pe_int) (pe_op op_mod (pv 3) pe_int)) pe_int) pe_int))))
      (pss_one (ps_ret (pe_lst (pa_cons (pv 2) (pa_cons (pe_callTy (call_list_ofK (K := K) rfl) (by rfl) T.b_list (by decide +kernel) (pa_cons (pv 0) pa_nil)) (pa_cons pe_int pa_nil)))))))), ?_⟩
    simp only [tCutE, false_and, exists_false, false_or, or_false, tRet, tRetN, tAndV, tOrV, tNotV, tChain, rI, rI0, rU, tC, tCB, tCons, tNil, tVar, tOp, tUn, tTest, tB, tAnd, tOr, tNot, tIf, tIfS, tSeq, tAsg, tDrop, tNext, gName, gTup_ref, gCons_cons, gNil_nil, and_assoc, tYes, wipe, rEq, rNe, scal_ss, scal_ii, scal_bb, scal_ns, scal_sn, scal_nn, scal_in, scal_ni, tLc_eq, tFor_eq, iList, iTup, iStr, iRng1, iRng2, iZip, iEnum, gSub, tSl, rSetL_ref, rCat_ref, rRep_ref, rJoin_ref, rSlL_ref, rSlS_ref, rMulS_ref, rIxL_ref, rIxT_ref, rLenK_ref, rAll_ref, rIn_ref, tLst, tTup, tPar, tPar3, tAug, tPart, tNoPart, tCall, List.getElem?_cons_zero, List.getElem?_cons_succ, List.set_cons_zero, List.set_cons_succ, List.map_cons, List.map_nil, List.append_nil, List.nil_append, List.cons_append, Option.some.injEq, exists_eq_left', exists_eq_left, exists_eq_right, exists_eq_right', exists_eq', V.int.injEq, V.str.injEq, V.bl.injEq, V.ref.injEq, List.cons.injEq, tM0, tM1, rNewStrs, sgn_eq, split_dot, split_sp, split_nl, dot_len, sp_len, nl_len, cxOf_K, L2.start, List.length_cons, List.length_nil, List.replicate_succ, List.replicate_zero, Nat.reduceSub, Nat.zero_add, and_true, true_and, and_self, exists_and_left, exists_const, Bool.false_eq_true, if_false, if_true, ite_true, ite_false, reduceIte, decide_eq_true_eq, reduceCtorEq, Nat.reduceAdd, Nat.reduceLT, tMseq, tMret, tNdef1, tThru, tCallV, gFldC, tFldC, sFldC, sFldAugC, tMeth, tMethX, tMethS, tMake, tCKw, sDPut, tDGet2, tVeI, tOst, tWhy, tXf, tListZip, tCallX, tCallXU, tCallV, tCallVS, tLam1, tLamD, tCallS, tCls, tClsD, cx_cells, cx_scope, cx_N, cx_prog, cx_w, cx_base, cx_mg, cx_qual]
    refine ⟨⟨_, hS⟩, forG (walk_listm ns V.int) (fun i σ H' => ∃ m c, σ = [some (.ref a), some (.int sd), some (.int m), c] ∧ 0 ≤ m ∧ m < 2147483647 ∧ H' = H) ⟨sd, none, rfl, h0, h1, rfl⟩ (fun i σ H' _ ⟨m, c, _, _, _, e⟩ => by rw [e]; exact hS) (fun i x σ H1 H2 hi hP hy => ?_) (fun σ H1 hP => ?_)⟩
    · obtain ⟨m, c, rfl, hm0, hm1, rfl⟩ := hP
      obtain ⟨rfl, y, hy, rfl⟩ := hy
      simp only [tCutE, false_and, exists_false, false_or, or_false, tRet, tRetN, tAndV, tOrV, tNotV, tChain, rI, rI0, rU, tC, tCB, tCons, tNil, tVar, tOp, tUn, tTest, tB, tAnd, tOr, tNot, tIf, tIfS, tSeq, tAsg, tDrop, tNext, gName, gTup_ref, gCons_cons, gNil_nil, and_assoc, tYes, wipe, rEq, rNe, scal_ss, scal_ii, scal_bb, scal_ns, scal_sn, scal_nn, scal_in, scal_ni, tLc_eq, tFor_eq, iList, iTup, iStr, iRng1, iRng2, iZip, iEnum, gSub, tSl, rSetL_ref, rCat_ref, rRep_ref, rJoin_ref, rSlL_ref, rSlS_ref, rMulS_ref, rIxL_ref, rIxT_ref, rLenK_ref, rAll_ref, rIn_ref, tLst, tTup, tPar, tPar3, tAug, tPart, tNoPart, tCall, List.getElem?_cons_zero, List.getElem?_cons_succ, List.set_cons_zero, List.set_cons_succ, List.map_cons, List.map_nil, List.append_nil, List.nil_append, List.cons_append, Option.some.injEq, exists_eq_left', exists_eq_left, exists_eq_right, exists_eq_right', exists_eq', V.int.injEq, V.str.injEq, V.bl.injEq, V.ref.injEq, List.cons.injEq, tM0, tM1, rNewStrs, sgn_eq, split_dot, split_sp, split_nl, dot_len, sp_len, nl_len, cxOf_K, L2.start, List.length_cons, List.length_nil, List.replicate_succ, List.replicate_zero, Nat.reduceSub, Nat.zero_add, and_true, true_and, and_self, exists_and_left, exists_const, Bool.false_eq_true, if_false, if_true, ite_true, ite_false, reduceIte, decide_eq_true_eq, reduceCtorEq, Nat.reduceAdd, Nat.reduceLT, tMseq, tMret, tNdef1, tThru, tCallV, gFldC, tFldC, sFldC, sFldAugC, tMeth, tMethX, tMethS, tMake, tCKw, sDPut, tDGet2, tVeI, tOst, tWhy, tXf, tListZip, tCallX, tCallXU, tCallV, tCallVS, tLam1, tLamD, tCallS, tCls, tClsD, cx_cells, cx_scope, cx_N, cx_prog, cx_w, cx_base, cx_mg, cx_qual]
      refine ⟨.inr ⟨by omega, by omega⟩, by omega, by omega, ?_, ?_⟩
      · exact Int.emod_nonneg _ (by omega)
      · exact Int.emod_lt_of_pos _ (by omega)
    · obtain ⟨m, c, rfl, hm0, hm1, rfl⟩ := hP
      simp only [tCutE, false_and, exists_false, false_or, or_false, tRet, tRetN, tAndV, tOrV, tNotV, tChain, rI, rI0, rU, tC, tCB, tCons, tNil, tVar, tOp, tUn, tTest, tB, tAnd, tOr, tNot, tIf, tIfS, tSeq, tAsg, tDrop, tNext, gName, gTup_ref, gCons_cons, gNil_nil, and_assoc, tYes, wipe, rEq, rNe, scal_ss, scal_ii, scal_bb, scal_ns, scal_sn, scal_nn, scal_in, scal_ni, tLc_eq, tFor_eq, iList, iTup, iStr, iRng1, iRng2, iZip, iEnum, gSub, tSl, rSetL_ref, rCat_ref, rRep_ref, rJoin_ref, rSlL_ref, rSlS_ref, rMulS_ref, rIxL_ref, rIxT_ref, rLenK_ref, rAll_ref, rIn_ref, tLst, tTup, tPar, tPar3, tAug, tPart, tNoPart, tCall, List.getElem?_cons_zero, List.getElem?_cons_succ, List.set_cons_zero, List.set_cons_succ, List.map_cons, List.map_nil, List.append_nil, List.nil_append, List.cons_append, Option.some.injEq, exists_eq_left', exists_eq_left, exists_eq_right, exists_eq_right', exists_eq', V.int.injEq, V.str.injEq, V.bl.injEq, V.ref.injEq, List.cons.injEq, tM0, tM1, rNewStrs, sgn_eq, split_dot, split_sp, split_nl, dot_len, sp_len, nl_len, cxOf_K, L2.start, List.length_cons, List.length_nil, List.replicate_succ, List.replicate_zero, Nat.reduceSub, Nat.zero_add, and_true, true_and, and_self, exists_and_left, exists_const, Bool.false_eq_true, if_false, if_true, ite_true, ite_false, reduceIte, decide_eq_true_eq, reduceCtorEq, Nat.reduceAdd, Nat.reduceLT, tMseq, tMret, tNdef1, tThru, tCallV, gFldC, tFldC, sFldC, sFldAugC, tMeth, tMethX, tMethS, tMake, tCKw, sDPut, tDGet2, tVeI, tOst, tWhy, tXf, tListZip, tCallX, tCallXU, tCallV, tCallVS, tLam1, tLamD, tCallS, tCls, tClsD, cx_cells, cx_scope, cx_N, cx_prog, cx_w, cx_base, cx_mg, cx_qual]
      refine ⟨a, _, rfl, .inl hS, fun l hl => ?_⟩
      simp only [tCutE, false_and, exists_false, false_or, or_false, tRet, tRetN, tAndV, tOrV, tNotV, tChain, rI, rI0, rU, tC, tCB, tCons, tNil, tVar, tOp, tUn, tTest, tB, tAnd, tOr, tNot, tIf, tIfS, tSeq, tAsg, tDrop, tNext, gName, gTup_ref, gCons_cons, gNil_nil, and_assoc, tYes, wipe, rEq, rNe, scal_ss, scal_ii, scal_bb, scal_ns, scal_sn, scal_nn, scal_in, scal_ni, tLc_eq, tFor_eq, iList, iTup, iStr, iRng1, iRng2, iZip, iEnum, gSub, tSl, rSetL_ref, rCat_ref, rRep_ref, rJoin_ref, rSlL_ref, rSlS_ref, rMulS_ref, rIxL_ref, rIxT_ref, rLenK_ref, rAll_ref, rIn_ref, tLst, tTup, tPar, tPar3, tAug, tPart, tNoPart, tCall, List.getElem?_cons_zero, List.getElem?_cons_succ, List.set_cons_zero, List.set_cons_succ, List.map_cons, List.map_nil, List.append_nil, List.nil_append, List.cons_append, Option.some.injEq, exists_eq_left', exists_eq_left, exists_eq_right, exists_eq_right', exists_eq', V.int.injEq, V.str.injEq, V.bl.injEq, V.ref.injEq, List.cons.injEq, tM0, tM1, rNewStrs, sgn_eq, split_dot, split_sp, split_nl, dot_len, sp_len, nl_len, cxOf_K, L2.start, List.length_cons, List.length_nil, List.replicate_succ, List.replicate_zero, Nat.reduceSub, Nat.zero_add, and_true, true_and, and_self, exists_and_left, exists_const, Bool.false_eq_true, if_false, if_true, ite_true, ite_false, reduceIte, decide_eq_true_eq, reduceCtorEq, Nat.reduceAdd, Nat.reduceLT, tMseq, tMret, tNdef1, tThru, tCallV, gFldC, tFldC, sFldC, sFldAugC, tMeth, tMethX, tMethS, tMake, tCKw, sDPut, tDGet2, tVeI, tOst, tWhy, tXf, tListZip, tCallX, tCallXU, tCallV, tCallVS, tLam1, tLamD, tCallS, tCls, tClsD, cx_cells, cx_scope, cx_N, cx_prog, cx_w, cx_base, cx_mg, cx_qual]
      refine ⟨by decide, fun h hh => ?_⟩
      have nlh : l ≠ h := by
        intro e; subst e
        rw [upd_same] at hh; cases hh
      rw [upd_ne nlh.symm] at hh
      exact q _ h l (same_put (same_put (Same.refl _) hl) hh) hh hl ⟨m, 0, ns, upd_same, by rw [upd_ne nlh, upd_same], hm0, hm1, Int.le_refl _, hn⟩
def sp_law_next : Sp := fun vs H Q _ => ∃ (h l : Addr) (n : Int), vs = [.ref h, .int n] ∧ SrcOk H h l ∧ 0 < n ∧ n < 1073741824 ∧
  ∀ H' r, Ext (DrS h l) H H' → SrcOk H' h l → 0 ≤ r → r < n → Q (.int r) H'
theorem G_law_next (T : Tx K mg) : Glob P w K mg base (CX0) 1 "_law_next" p_law_next [] sp_law_next := by
  obtain ⟨fd, F⟩ := T.f_law_next
  refine ⟨_, fd, [], F.ok sc_law_next (fun vs H Q E h => ?_) (fun cdv A outer s H vs Q E hr h => ?_), T.g__law_next, F.kp, .nil, F.bindsN fun _ _ _ _ _ _ us hl => match us, hl with | [_, _], _ => rfl⟩
  · obtain ⟨h, l, n, rfl, _⟩ := h; rfl
  · obtain ⟨h, l, n, rfl, hS, h0, h1, q⟩ := h
    have hne := hS.ne
    obtain ⟨m, p, cs, e1, e2, hm0, hm1, hp, hc⟩ := hS
    refine ⟨_, PSs.nox (pss_cons (ps_set (i := 2) sc_law_next.nd rfl (Or.inl rfl) (pe_ix (ix_listK (K := K) rfl) (pe_op op_cat (pe_ix (ix_listK (K := K) rfl) (pv 0) pe_int (fun _ _ => rfl)) (pe_lst (pa_cons pe_int pa_nil))) (pe_op op_mod (pe_ix (ix_listK (K := K) rfl) (pv 0) pe_int (fun _ _ => rfl)) (pe_callB (call_max2 rfl) (by rfl) T.b_max (by decide +kernel) (pa_cons pe_int (pa_cons (pe_callB (call_len_seqK (K := K) rfl) (by rfl) T.b_len (by decide +kernel) (pa_cons (pe_ix (ix_listK (K := K) rfl) (pv 0) pe_int (fun _ _ => rfl)) pa_nil)) pa_nil)))) (fun _ _ => rfl)))
      (pss_cons (ps_if (pt_cmpR op_ge (pv 2) (pe_op op_pow pe_int pe_int) (nomark _))
      (pss_cons (ps_asg (pe_op op_fdiv (pv 2) (pv 1)) (pg_sub (pe_ix (ix_listK (K := K) rfl) (pv 0) pe_int (fun _ _ => rfl)) (pe_op op_mod (pe_ix (ix_listK (K := K) rfl) (pv 0) pe_int (fun _ _ => rfl)) (pe_callB (call_len_seqK (K := K) rfl) (by rfl) T.b_len (by decide +kernel) (pa_cons (pe_ix (ix_listK (K := K) rfl) (pv 0) pe_int (fun _ _ => rfl)) pa_nil))) set_list))
      (pss_one (ps_ret (pe_op op_mod (pv 2) (pv 1)))))
      pss_nil)
      (pss_cons (ps_asg (pe_op op_mod (pe_op op_add (pe_op op_add (pe_op op_mul (pe_ix (ix_listK (K := K) rfl) (pv 0) pe_int (fun _ _ => rfl)) pe_int) (pe_op op_mul (pv 2) pe_int)) pe_int) pe_int) (pg_sub (pv 0) pe_int set_list))
      (pss_cons (ps_asg (pe_op op_add (pe_ix (ix_listK (K := K) rfl) (pv 0) pe_int (fun _ _ => rfl)) pe_int) (pg_sub (pv 0) pe_int set_list))
      (pss_one (ps_ret (pe_op op_mod (pe_op op_fdiv (pe_ix (ix_listK (K := K) rfl) (pv 0) pe_int (fun _ _ => rfl)) pe_int) (pv 1)))))))), ?_⟩
    simp only [tCutE, false_and, exists_false, false_or, or_false, tRet, tRetN, tAndV, tOrV, tNotV, tChain, rI, rI0, rU, tC, tCB, tCons, tNil, tVar, tOp, tUn, tTest, tB, tAnd, tOr, tNot, tIf, tIfS, tSeq, tAsg, tDrop, tNext, gName, gTup_ref, gCons_cons, gNil_nil, and_assoc, tYes, wipe, rEq, rNe, scal_ss, scal_ii, scal_bb, scal_ns, scal_sn, scal_nn, scal_in, scal_ni, tLc_eq, tFor_eq, iList, iTup, iStr, iRng1, iRng2, iZip, iEnum, gSub, tSl, rSetL_ref, rCat_ref, rRep_ref, rJoin_ref, rSlL_ref, rSlS_ref, rMulS_ref, rIxL_ref, rIxT_ref, rLenK_ref, rAll_ref, rIn_ref, tLst, tTup, tPar, tPar3, tAug, tPart, tNoPart, tCall, List.getElem?_cons_zero, List.getElem?_cons_succ, List.set_cons_zero, List.set_cons_succ, List.map_cons, List.map_nil, List.append_nil, List.nil_append, List.cons_append, Option.some.injEq, exists_eq_left', exists_eq_left, exists_eq_right, exists_eq_right', exists_eq', V.int.injEq, V.str.injEq, V.bl.injEq, V.ref.injEq, List.cons.injEq, tM0, tM1, rNewStrs, sgn_eq, split_dot, split_sp, split_nl, dot_len, sp_len, nl_len, cxOf_K, L2.start, List.length_cons, List.length_nil, List.replicate_succ, List.replicate_zero, Nat.reduceSub, Nat.zero_add, and_true, true_and, and_self, exists_and_left, exists_const, Bool.false_eq_true, if_false, if_true, ite_true, ite_false, reduceIte, decide_eq_true_eq, reduceCtorEq, Nat.reduceAdd, Nat.reduceLT, tMseq, tMret, tNdef1, tThru, tCallV, gFldC, tFldC, sFldC, sFldAugC, tMeth, tMethX, tMethS, tMake, tCKw, sDPut, tDGet2, tVeI, tOst, tWhy, tXf, tListZip, tCallX, tCallXU, tCallV, tCallVS, tLam1, tLamD, tCallS, tCls, tClsD, cx_cells, cx_scope, cx_N, cx_prog, cx_w, cx_base, cx_mg, cx_qual]
    refine ⟨_, .of e1, _, rfl, by decide, fun b hb => ?_⟩
    have nhb : h ≠ b := ne_of_none e1 hb
    have nlb : l ≠ b := ne_of_none e2 hb
    refine ⟨l, b, _, _, rfl, rfl, by rw [upd_ne nlb]; exact e2, upd_same, by rw [List.length_map]; exact small (by simp; omega), fun c hc2 => ?_⟩
    have nbc : b ≠ c := by
      intro e; subst e
      rw [upd_same] at hc2; cases hc2
    have nhc : h ≠ c := by
      intro e; subst e
      rw [upd_ne nhb, e1] at hc2; cases hc2
    have nlc : l ≠ c := by
      intro e; subst e
      rw [upd_ne nlb, e2] at hc2; cases hc2
    have s1 : Ext (DrS h l) H (upd (upd H b (HO.lst [V.int 0])) c (HO.lst (List.map V.int cs ++ [V.int 0]))) := .of_same (same_new (same_put (Same.refl _) hb) hc2)
    have f1 : (upd (upd H b (HO.lst [V.int 0])) c (HO.lst (List.map V.int cs ++ [V.int 0]))) h = some (.lst [.int m, .ref l, .int p]) := by rw [upd_ne nhc, upd_ne nhb]; exact e1
    have f2 : (upd (upd H b (HO.lst [V.int 0])) c (HO.lst (List.map V.int cs ++ [V.int 0]))) l = some (.lst (cs.map V.int)) := by rw [upd_ne nlc, upd_ne nlb]; exact e2
    have f3 : (upd (upd H b (HO.lst [V.int 0])) c (HO.lst (List.map V.int cs ++ [V.int 0]))) c = some (.lst ((cs ++ [0]).map V.int)) := by rw [upd_same, List.map_append]; rfl
    generalize upd (upd H b (HO.lst [V.int 0])) c (HO.lst (List.map V.int cs ++ [V.int 0])) = H1 at s1 f1 f2 f3
    refine ⟨_, .of f1, _, rfl, _, .of f1, _, rfl, ?_⟩
    simp only [tCutE, false_and, exists_false, false_or, or_false, tRet, tRetN, tAndV, tOrV, tNotV, tChain, rI, rI0, rU, tC, tCB, tCons, tNil, tVar, tOp, tUn, tTest, tB, tAnd, tOr, tNot, tIf, tIfS, tSeq, tAsg, tDrop, tNext, gName, gTup_ref, gCons_cons, gNil_nil, and_assoc, tYes, wipe, rEq, rNe, scal_ss, scal_ii, scal_bb, scal_ns, scal_sn, scal_nn, scal_in, scal_ni, tLc_eq, tFor_eq, iList, iTup, iStr, iRng1, iRng2, iZip, iEnum, gSub, tSl, rSetL_ref, rCat_ref, rRep_ref, rJoin_ref, rSlL_ref, rSlS_ref, rMulS_ref, rIxL_ref, rIxT_ref, rLenK_ref, rAll_ref, rIn_ref, tLst, tTup, tPar, tPar3, tAug, tPart, tNoPart, tCall, List.getElem?_cons_zero, List.getElem?_cons_succ, List.set_cons_zero, List.set_cons_succ, List.map_cons, List.map_nil, List.append_nil, List.nil_append, List.cons_append, Option.some.injEq, exists_eq_left', exists_eq_left, exists_eq_right, exists_eq_right', exists_eq', V.int.injEq, V.str.injEq, V.bl.injEq, V.ref.injEq, List.cons.injEq, tM0, tM1, rNewStrs, sgn_eq, split_dot, split_sp, split_nl, dot_len, sp_len, nl_len, cxOf_K, L2.start, List.length_cons, List.length_nil, List.replicate_succ, List.replicate_zero, Nat.reduceSub, Nat.zero_add, and_true, true_and, and_self, exists_and_left, exists_const, Bool.false_eq_true, if_false, if_true, ite_true, ite_false, reduceIte, decide_eq_true_eq, reduceCtorEq, Nat.reduceAdd, Nat.reduceLT, tMseq, tMret, tNdef1, tThru, tCallV, gFldC, tFldC, sFldC, sFldAugC, tMeth, tMethX, tMethS, tMake, tCKw, sDPut, tDGet2, tVeI, tOst, tWhy, tXf, tListZip, tCallX, tCallXU, tCallV, tCallVS, tLam1, tLamD, tCallS, tCls, tClsD, cx_cells, cx_scope, cx_N, cx_prog, cx_w, cx_base, cx_mg, cx_qual]
    refine ⟨_, .inl (.of f2), ?_⟩
    rw [List.length_map]
    have hd : (0 : Int) < if (cs.length : Int) > 1 then (cs.length : Int) else 1 := by split <;> omega
    refine ⟨hd, ?_⟩
    have hd1 : (if (cs.length : Int) > 1 then (cs.length : Int) else 1) ≤ (cs ++ [0]).length := by rw [List.length_append]; simp only [List.length_singleton]; split <;> omega
    have hi0 := Int.emod_nonneg p (b := if (cs.length : Int) > 1 then (cs.length : Int) else 1) (by omega)
    have hi1 := Int.emod_lt_of_pos p hd
    generalize hD : (if (cs.length : Int) > 1 then (cs.length : Int) else 1) = D at hd hd1 hi0 hi1
    have hix : ((p % D).toNat : Nat) < (cs ++ [0]).length := by omega
    have hci : (cs ++ [(0 : Int)])[(p % D).toNat]? = some ((cs ++ [0])[(p % D).toNat]) := List.getElem?_eq_getElem hix
    generalize (cs ++ [(0 : Int)])[(p % D).toNat] = cell at hci
    have hat : atI ((cs ++ [0]).map V.int) (p % D) = some (.int cell) := by
      have e : (p % D) = (((p % D).toNat : Nat) : Int) := by omega
      rw [e]
      refine atI_nat ?_
      rw [List.getElem?_map, hci]; rfl
    refine ⟨_, .of f3, _, hat, ⟨by decide, by decide, by decide⟩, _, rfl, ?_⟩
    split
    · rename_i hbig
      have hcs : 0 < cs.length := by
        rcases Nat.eq_zero_or_pos cs.length with e | e
        · exfalso
          have ec : cs = [] := List.eq_nil_of_length_eq_zero e
          subst ec
          have ex : (p % D).toNat = 0 := by simp at hix; omega
          rw [ex] at hci
          have := Option.some.inj hci
          subst this
          exact absurd hbig (by decide)
        · exact e
      simp only [tCutE, false_and, exists_false, false_or, or_false, tRet, tRetN, tAndV, tOrV, tNotV, tChain, rI, rI0, rU, tC, tCB, tCons, tNil, tVar, tOp, tUn, tTest, tB, tAnd, tOr, tNot, tIf, tIfS, tSeq, tAsg, tDrop, tNext, gName, gTup_ref, gCons_cons, gNil_nil, and_assoc, tYes, wipe, rEq, rNe, scal_ss, scal_ii, scal_bb, scal_ns, scal_sn, scal_nn, scal_in, scal_ni, tLc_eq, tFor_eq, iList, iTup, iStr, iRng1, iRng2, iZip, iEnum, gSub, tSl, rSetL_ref, rCat_ref, rRep_ref, rJoin_ref, rSlL_ref, rSlS_ref, rMulS_ref, rIxL_ref, rIxT_ref, rLenK_ref, rAll_ref, rIn_ref, tLst, tTup, tPar, tPar3, tAug, tPart, tNoPart, tCall, List.getElem?_cons_zero, List.getElem?_cons_succ, List.set_cons_zero, List.set_cons_succ, List.map_cons, List.map_nil, List.append_nil, List.nil_append, List.cons_append, Option.some.injEq, exists_eq_left', exists_eq_left, exists_eq_right, exists_eq_right', exists_eq', V.int.injEq, V.str.injEq, V.bl.injEq, V.ref.injEq, List.cons.injEq, tM0, tM1, rNewStrs, sgn_eq, split_dot, split_sp, split_nl, dot_len, sp_len, nl_len, cxOf_K, L2.start, List.length_cons, List.length_nil, List.replicate_succ, List.replicate_zero, Nat.reduceSub, Nat.zero_add, and_true, true_and, and_self, exists_and_left, exists_const, Bool.false_eq_true, if_false, if_true, ite_true, ite_false, reduceIte, decide_eq_true_eq, reduceCtorEq, Nat.reduceAdd, Nat.reduceLT, tMseq, tMret, tNdef1, tThru, tCallV, gFldC, tFldC, sFldC, sFldAugC, tMeth, tMethX, tMethS, tMake, tCKw, sDPut, tDGet2, tVeI, tOst, tWhy, tXf, tListZip, tCallX, tCallXU, tCallV, tCallVS, tLam1, tLamD, tCallS, tCls, tClsD, cx_cells, cx_scope, cx_N, cx_prog, cx_w, cx_base, cx_mg, cx_qual]
      refine ⟨⟨h0, h1⟩, _, .of f1, _, rfl, _, .of f1, _, rfl, _, .of f1, _, rfl, ?_⟩
      simp only [tCutE, false_and, exists_false, false_or, or_false, tRet, tRetN, tAndV, tOrV, tNotV, tChain, rI, rI0, rU, tC, tCB, tCons, tNil, tVar, tOp, tUn, tTest, tB, tAnd, tOr, tNot, tIf, tIfS, tSeq, tAsg, tDrop, tNext, gName, gTup_ref, gCons_cons, gNil_nil, and_assoc, tYes, wipe, rEq, rNe, scal_ss, scal_ii, scal_bb, scal_ns, scal_sn, scal_nn, scal_in, scal_ni, tLc_eq, tFor_eq, iList, iTup, iStr, iRng1, iRng2, iZip, iEnum, gSub, tSl, rSetL_ref, rCat_ref, rRep_ref, rJoin_ref, rSlL_ref, rSlS_ref, rMulS_ref, rIxL_ref, rIxT_ref, rLenK_ref, rAll_ref, rIn_ref, tLst, tTup, tPar, tPar3, tAug, tPart, tNoPart, tCall, List.getElem?_cons_zero, List.getElem?_cons_succ, List.set_cons_zero, List.set_cons_succ, List.map_cons, List.map_nil, List.append_nil, List.nil_append, List.cons_append, Option.some.injEq, exists_eq_left', exists_eq_left, exists_eq_right, exists_eq_right', exists_eq', V.int.injEq, V.str.injEq, V.bl.injEq, V.ref.injEq, List.cons.injEq, tM0, tM1, rNewStrs, sgn_eq, split_dot, split_sp, split_nl, dot_len, sp_len, nl_len, cxOf_K, L2.start, List.length_cons, List.length_nil, List.replicate_succ, List.replicate_zero, Nat.reduceSub, Nat.zero_add, and_true, true_and, and_self, exists_and_left, exists_const, Bool.false_eq_true, if_false, if_true, ite_true, ite_false, reduceIte, decide_eq_true_eq, reduceCtorEq, Nat.reduceAdd, Nat.reduceLT, tMseq, tMret, tNdef1, tThru, tCallV, gFldC, tFldC, sFldC, sFldAugC, tMeth, tMethX, tMethS, tMake, tCKw, sDPut, tDGet2, tVeI, tOst, tWhy, tXf, tListZip, tCallX, tCallXU, tCallV, tCallVS, tLam1, tLamD, tCallS, tCls, tClsD, cx_cells, cx_scope, cx_N, cx_prog, cx_w, cx_base, cx_mg, cx_qual]
      refine ⟨_, .inl (.of f2), ?_⟩
      rw [List.length_map]
      have hr0 := Int.emod_nonneg p (b := (cs.length : Int)) (by omega)
      have hr1 := Int.emod_lt_of_pos p (b := (cs.length : Int)) (by omega)
      refine ⟨by omega, _, f2, _, ixN_in hr0 (by rw [List.length_map]; exact hr1), h0, ?_⟩
      refine q _ _ (s1.trans ((Ext.refl _ _).put (.inr (.inr rfl)))) ⟨m, p, cs.set (p % (cs.length : Int)).toNat (cell / n), by rw [upd_ne hne]; exact f1, by rw [upd_same, List.map_set], hm0, hm1, hp, by rw [List.length_set]; exact hc⟩ (Int.emod_nonneg _ (by omega)) (Int.emod_lt_of_pos _ h0)
    · rename_i hsm
      simp only [tCutE, false_and, exists_false, false_or, or_false, tRet, tRetN, tAndV, tOrV, tNotV, tChain, rI, rI0, rU, tC, tCB, tCons, tNil, tVar, tOp, tUn, tTest, tB, tAnd, tOr, tNot, tIf, tIfS, tSeq, tAsg, tDrop, tNext, gName, gTup_ref, gCons_cons, gNil_nil, and_assoc, tYes, wipe, rEq, rNe, scal_ss, scal_ii, scal_bb, scal_ns, scal_sn, scal_nn, scal_in, scal_ni, tLc_eq, tFor_eq, iList, iTup, iStr, iRng1, iRng2, iZip, iEnum, gSub, tSl, rSetL_ref, rCat_ref, rRep_ref, rJoin_ref, rSlL_ref, rSlS_ref, rMulS_ref, rIxL_ref, rIxT_ref, rLenK_ref, rAll_ref, rIn_ref, tLst, tTup, tPar, tPar3, tAug, tPart, tNoPart, tCall, List.getElem?_cons_zero, List.getElem?_cons_succ, List.set_cons_zero, List.set_cons_succ, List.map_cons, List.map_nil, List.append_nil, List.nil_append, List.cons_append, Option.some.injEq, exists_eq_left', exists_eq_left, exists_eq_right, exists_eq_right', exists_eq', V.int.injEq, V.str.injEq, V.bl.injEq, V.ref.injEq, List.cons.injEq, tM0, tM1, rNewStrs, sgn_eq, split_dot, split_sp, split_nl, dot_len, sp_len, nl_len, cxOf_K, L2.start, List.length_cons, List.length_nil, List.replicate_succ, List.replicate_zero, Nat.reduceSub, Nat.zero_add, and_true, true_and, and_self, exists_and_left, exists_const, Bool.false_eq_true, if_false, if_true, ite_true, ite_false, reduceIte, decide_eq_true_eq, reduceCtorEq, Nat.reduceAdd, Nat.reduceLT, tMseq, tMret, tNdef1, tThru, tCallV, gFldC, tFldC, sFldC, sFldAugC, tMeth, tMethX, tMethS, tMake, tCKw, sDPut, tDGet2, tVeI, tOst, tWhy, tXf, tListZip, tCallX, tCallXU, tCallV, tCallVS, tLam1, tLamD, tCallS, tCls, tClsD, cx_cells, cx_scope, cx_N, cx_prog, cx_w, cx_base, cx_mg, cx_qual]
      refine ⟨_, .of f1, _, rfl, _, rfl, .inr ⟨by decide, by decide⟩, .inr ⟨by decide, by decide⟩, by decide, _, f1, 0, rfl, _, .of upd_same, _, rfl, _, rfl, _, upd_same, 2, rfl, _, .of upd_same, _, rfl, _, rfl, ⟨by decide, by decide⟩, h0, ?_⟩
      refine q _ _ (s1.trans (((Ext.refl _ _).put (.inr (.inl rfl))).put (.inr (.inl rfl)))) ⟨_, _, cs, upd_same, by rw [upd_ne hne.symm, upd_ne hne.symm]; exact f2, Int.emod_nonneg _ (by decide), Int.emod_lt_of_pos _ (by decide), by omega, hc⟩ (Int.emod_nonneg _ (by omega)) (Int.emod_lt_of_pos _ h0)
theorem SrcOk.put {H : Hp} {h l D : Addr} {o : HO} (s : SrcOk H h l) (n1 : D ≠ h) (n2 : D ≠ l) : SrcOk (upd H D o) h l := by
  obtain ⟨m, p, cs, e1, e2, r⟩ := s
  exact ⟨m, p, cs, by rw [upd_ne n1.symm]; exact e1, by rw [upd_ne n2.symm]; exact e2, r⟩
theorem SrcOk.neD {H : Hp} {h l D : Addr} (s : SrcOk H h l) (n : H D = none) : D ≠ h ∧ D ≠ l := by
  obtain ⟨m, p, cs, e1, e2, r⟩ := s
  exact ⟨(ne_of_none e1 n).symm, (ne_of_none e2 n).symm⟩
theorem SrcOk.new {H : Hp} {h l D : Addr} {o : HO} (s : SrcOk H h l) (n : H D = none) : SrcOk (upd H D o) h l := s.put (s.neD n).1 (s.neD n).2
theorem Ext.new {S : Addr → Prop} {H H1 : Hp} {p : Addr} {o : HO} (s : Ext S H H1) (n : H1 p = none) (hS : ¬ S p) : Ext S H (upd H1 p o) := s.put (.inl (s.free hS n))
theorem SrcOk.nD {H : Hp} {h l D : Addr} (s : SrcOk H h l) (n : H D = none) : ¬ DrS h l D := fun z => z.elim (s.neD n).1 (s.neD n).2
theorem SrcOk.same {H H' : Hp} {h l : Addr} (s : SrcOk H h l) (e : Same H H') : SrcOk H' h l := by
  obtain ⟨m, pp, cs, e1, e2, r⟩ := s
  exact ⟨m, pp, cs, e _ _ e1, e _ _ e2, r⟩
theorem SrcOk.off {H : Hp} {h l D : Addr} (s : SrcOk H h l) (n1 : D ≠ h) (n2 : D ≠ l) : SrcOk (offA D H) h l := by
  obtain ⟨m, pp, cs, e1, e2, r⟩ := s
  exact ⟨m, pp, cs, by rw [offA_ne n1.symm]; exact e1, by rw [offA_ne n2.symm]; exact e2, r⟩
theorem SrcOk.tups {H H' : Hp} {h l : Addr} (s : SrcOk H h l) (e : Ext (DrS h l) H H') : ∀ t x, H t = some (.tup x) → H' t = some (.tup x) := fun t x ht => by
  obtain ⟨m, pp, cs, e1, e2, r⟩ := s
  refine e t _ (fun z => ?_) ht
  rcases z with z | z
  · rw [z, e1] at ht; cases ht
  · rw [z, e2] at ht; cases ht
end
end Hk

set_option Elab.async false
set_option linter.all false
set_option maxRecDepth 100000
set_option maxHeartbeats 4000000
namespace Hk
open PySem PySem.Spec PyProof.Rows L2
open LamX NdefX
section
variable {P : Program} {w : World} {K : PySem.W.Frag} {mg : Str → Option Value} {base : Heap}
/-! ### _law_alike: the same data -/
def sp_law_alike (K : PySem.W.Frag) (n : Nat) : Sp := fun vs H Q _ => ∃ (v u : V) (d : PyData), vs = [v, u] ∧ Dp K H v d ∧ Dp K H u d ∧ d.depth < n ∧ smallD d = true ∧ ∀ H', Same H H' → Q (.bl true) H'
theorem G_law_alike (T : Tx K mg) : ∀ n : Nat, Glob P w K mg base CX0 (n + 1) "_law_alike" p_law_alike [] (sp_law_alike K n) := by
  intro n
  obtain ⟨fd, F⟩ := T.f_law_alike
  induction n with
  | zero =>
    refine ⟨_, fd, [], ⟨fun vs H Q E h => ?_, fun A outer s H args us vs Q E _ _ _ _ h => ?_⟩, T.g__law_alike, F.kp, .nil, F.bindsN fun _ _ _ _ _ _ us hl => match us, hl with | [_, _], _ => rfl⟩
    · obtain ⟨v, u, d, rfl, _⟩ := h; rfl
    · obtain ⟨v, u, d, _, _, _, hd, _⟩ := h; omega
  | succ n ih =>
    refine ⟨_, fd, [], F.ok sc_law_alike (fun vs H Q E h => ?_) (fun cdv A outer s H vs Q E hr h => ?_), T.g__law_alike, F.kp, .nil, F.bindsN fun _ _ _ _ _ _ us hl => match us, hl with | [_, _], _ => rfl⟩
    · obtain ⟨v, u, d, rfl, _⟩ := h; rfl
    · obtain ⟨v, u, d, rfl, h1, h2, hd, hs, q⟩ := h
      refine ⟨_, PSs.nox (pss_cons (ps_if (pt_val (pe_callB (call_isiTK (K := K) rfl) (by rfl) T.b_isinstance (by decide +kernel) (pa_cons (pv 1) (pa_cons (pe_tup (pa_cons (pe_bltn (v := .ty "tuple") (by rfl) T.b_tuple (by decide +kernel) rfl) (pa_cons (pe_bltn (v := .ty "list") (by rfl) T.b_list (by decide +kernel) rfl) pa_nil))) pa_nil))))
      (pss_cons (ps_if (PW.pt (pw_or (pt_not (pt_val (pe_callB (call_isiTK (K := K) rfl) (by rfl) T.b_isinstance (by decide +kernel) (pa_cons (pv 0) (pa_cons (pe_tup (pa_cons (pe_bltn (v := .ty "tuple") (by rfl) T.b_tuple (by decide +kernel) rfl) (pa_cons (pe_bltn (v := .ty "list") (by rfl) T.b_list (by decide +kernel) rfl) pa_nil))) pa_nil))))) (pw_or1 (pt_cmpR op_ne (pe_callB (call_isiK1 (K := K) rfl) (by rfl) T.b_isinstance (by decide +kernel) (pa_cons (pv 0) (pa_cons (pe_bltn (v := .ty "list") (by rfl) T.b_list (by decide +kernel) rfl) pa_nil))) (pe_callB (call_isiK1 (K := K) rfl) (by rfl) T.b_isinstance (by decide +kernel) (pa_cons (pv 1) (pa_cons (pe_bltn (v := .ty "list") (by rfl) T.b_list (by decide +kernel) rfl) pa_nil))) (nomark _)))))
      (pss_one (ps_ret pe_bl))
      pss_nil)
      (pss_cons (ps_if (pt_cmpR op_ne (pe_callB (call_len_seqK (K := K) rfl) (by rfl) T.b_len (by decide +kernel) (pa_cons (pv 0) pa_nil)) (pe_callB (call_len_seqK (K := K) rfl) (by rfl) T.b_len (by decide +kernel) (pa_cons (pv 1) pa_nil)) (nomark _))
      (pss_one (ps_ret pe_bl))
      pss_nil)
      (pss_one (ps_ret (pe_cmpR (op_eqDK (K := K) rfl hr.units) (pe_lc (own := [("_law_k", 2)]) (g := (gName 2)) rfl sc_law_alike.nd (pi_range1 (by rfl) T.b_range (pa_cons (pe_callB (call_len_seqK (K := K) rfl) (by rfl) T.b_len (by decide +kernel) (pa_cons (pv 1) pa_nil)) pa_nil)) (blkOk_by (by kernel_rfl)) (fun _ _ _ _ _ => (pg_name (i := 2) sc_law_alike.nd rfl (Or.inl rfl))) (fun _ _ _ _ _ => (pts_one (pt_not (pt_val (pe_callG ih hr (by rfl) pass0 (pa_cons (pe_ix (ix_seqK (K := K) rfl) (pv 0) (pv 2) (fun _ _ => rfl)) (pa_cons (pe_ix (ix_seqK (K := K) rfl) (pv 1) (pv 2) (fun _ _ => rfl)) pa_nil))))))) (fun _ _ _ _ _ => (pv 2))) (pe_lst pa_nil) (nomark _))))))
      pss_nil)
      (pss_cons (ps_if (PW.pt (pw_or (pt_cmpR op_isN (pv 1) pe_non (nomark _)) (pw_or1 (pt_val (pe_callB (call_isiK1 (K := K) rfl) (by rfl) T.b_isinstance (by decide +kernel) (pa_cons (pv 1) (pa_cons (pe_bltn (v := .ty "str") (by rfl) T.b_str (by decide +kernel) rfl) pa_nil)))))))
      (pss_one (ps_ret (pe_and (pe_cmpR op_eq (pv 0) (pv 1) (nomark _)) (pe_one (pe_cmpR op_eq (pe_callB (call_isiK1 (K := K) rfl) (by rfl) T.b_isinstance (by decide +kernel) (pa_cons (pv 0) (pa_cons (pe_bltn (v := .ty "str") (by rfl) T.b_str (by decide +kernel) rfl) pa_nil))) (pe_callB (call_isiK1 (K := K) rfl) (by rfl) T.b_isinstance (by decide +kernel) (pa_cons (pv 1) (pa_cons (pe_bltn (v := .ty "str") (by rfl) T.b_str (by decide +kernel) rfl) pa_nil))) (nomark _))))))
      pss_nil)
      (pss_one (ps_ret (pe_and (pe_callB (call_isiK1 (K := K) rfl) (by rfl) T.b_isinstance (by decide +kernel) (pa_cons (pv 0) (pa_cons (pe_bltn (v := .ty "int") (by rfl) T.b_int (by decide +kernel) rfl) pa_nil))) (pe_and (pe_cmpR op_eq (pe_callB (call_isiK1 (K := K) rfl) (by rfl) T.b_isinstance (by decide +kernel) (pa_cons (pv 0) (pa_cons (pe_bltn (v := .ty "bool") (by rfl) T.b_bool (by decide +kernel) rfl) pa_nil))) (pe_callB (call_isiK1 (K := K) rfl) (by rfl) T.b_isinstance (by decide +kernel) (pa_cons (pv 1) (pa_cons (pe_bltn (v := .ty "bool") (by rfl) T.b_bool (by decide +kernel) rfl) pa_nil))) (nomark _)) (pe_one (pe_cmpR op_eq (pv 0) (pv 1) (nomark _))))))))), ?_⟩
      simp only [tCutE, false_and, exists_false, false_or, or_false, tRet, tRetN, tAndV, tOrV, tNotV, tChain, rI, rI0, rU, tC, tCB, tCons, tNil, tVar, tOp, tUn, tTest, tB, tAnd, tOr, tNot, tIf, tIfS, tSeq, tAsg, tDrop, tNext, gName, gTup_ref, gCons_cons, gNil_nil, and_assoc, tYes, wipe, rEq, rNe, scal_ss, scal_ii, scal_bb, scal_ns, scal_sn, scal_nn, scal_in, scal_ni, tLc_eq, tFor_eq, iList, iTup, iStr, iRng1, iRng2, iZip, iEnum, gSub, tSl, rSetL_ref, rCat_ref, rRep_ref, rJoin_ref, rSlL_ref, rSlS_ref, rMulS_ref, rIxL_ref, rIxT_ref, rLenK_ref, rAll_ref, rIn_ref, tLst, tTup, tPar, tPar3, tAug, tPart, tNoPart, tCall, List.getElem?_cons_zero, List.getElem?_cons_succ, List.set_cons_zero, List.set_cons_succ, List.map_cons, List.map_nil, List.append_nil, List.nil_append, List.cons_append, Option.some.injEq, exists_eq_left', exists_eq_left, exists_eq_right, exists_eq_right', exists_eq', V.int.injEq, V.str.injEq, V.bl.injEq, V.ref.injEq, List.cons.injEq, tM0, tM1, rNewStrs, sgn_eq, split_dot, split_sp, split_nl, dot_len, sp_len, nl_len, cxOf_K, L2.start, List.length_cons, List.length_nil, List.replicate_succ, List.replicate_zero, Nat.reduceSub, Nat.zero_add, and_true, true_and, and_self, exists_and_left, exists_const, Bool.false_eq_true, if_false, if_true, ite_true, ite_false, reduceIte, decide_eq_true_eq, reduceCtorEq, Nat.reduceAdd, Nat.reduceLT, tMseq, tMret, tNdef1, tThru, tCallV, gFldC, tFldC, sFldC, sFldAugC, tMeth, tMethX, tMethS, tMake, tCKw, sDPut, tDGet2, tVeI, tOst, tWhy, tXf, tListZip, tCallX, tCallXU, tCallV, tCallVS, tLam1, tLamD, tCallS, tCls, tClsD, cx_cells, cx_scope, cx_N, cx_prog, cx_w, cx_base, cx_mg, cx_qual]
      refine ⟨by decide, fun p hp => ?_⟩
      have s1 : Same H (upd H p (HO.tup [V.ty "tuple", V.ty "list"])) := same_put (Same.refl _) hp
      have k1 := dp_same s1 h1
      have k2 := dp_same s1 h2
      have seqs : ∀ (ds : List PyData), PyData.depthAll ds < n → ∀ (vs us : List V) (a b : Addr) (Ha : Hp), DpAll K Ha vs ds → DpAll K Ha us ds → (SqL K Ha a vs ∨ SqT K Ha a vs) → (SqL K Ha b us ∨ SqT K Ha b us) → Same H Ha → smallAll ds = true → ds.length ≤ 100000 →
          rLenK K [V.ref a] Ha fun x H1 => rLenK K [V.ref b] H1 fun y H2 => scal x y = true ∧ if (!decide (x = y)) = true then Q (V.bl false) H2 else
            rLenK K [V.ref b] H2 fun x H1 => ∃ j, x = V.int j ∧ -2 ^ 62 ≤ j ∧ j < 2 ^ 62 ∧ LcG (Itr 0 j.toNat) (gName 2) (tNot (tB (tCall (sp_law_alike K n) [] E0 (tCons (tOp (rIx K) (tVar 0) (tVar 2)) (tCons (tOp (rIx K) (tVar 1) (tVar 2)) tNil)))))
              (tVar 2) [2] [some (V.ref a), some (V.ref b), none] H1 fun x H1 => 0 ≤ sizeLine ∧ ∀ (p : Addr), H1 p = none → rEqD K x (V.ref p) (upd H1 p (HO.lst [])) Q := by
        intro ds hdd vs us a b Ha d1 d2 q1 q2 sa hsm hsz
        have l1 := dpAll_len d1
        have l2 := dpAll_len d2
        refine ⟨a, vs, rfl, q1, b, us, rfl, q2, rfl, ?_⟩
        rw [l1, l2]
        simp only [decide_true, Bool.not_true, Bool.false_eq_true, if_false]
        refine ⟨b, us, rfl, q2, _, rfl, by omega, by omega, ?_⟩
        rw [l2, Int.toNat_natCast]
        refine lc_acc walk_range No (fun _ => True) (fun i acc => acc = []) (smallLt (by omega)) (fun _ _ z => z) rfl trivial (fun _ _ _ _ _ => trivial) (fun _ _ _ => trivial) (fun i x Hb Hc acc R hi xb _ pa hy r0 r1 => ?_) (fun D acc Hb nD pa la xb _ hD => ?_)
        · obtain ⟨rfl, rfl⟩ := hy
          subst pa
          simp only [tCutE, false_and, exists_false, false_or, or_false, tRet, tRetN, tAndV, tOrV, tNotV, tChain, rI, rI0, rU, tC, tCB, tCons, tNil, tVar, tOp, tUn, tTest, tB, tAnd, tOr, tNot, tIf, tIfS, tSeq, tAsg, tDrop, tNext, gName, gTup_ref, gCons_cons, gNil_nil, and_assoc, tYes, wipe, rEq, rNe, scal_ss, scal_ii, scal_bb, scal_ns, scal_sn, scal_nn, scal_in, scal_ni, tLc_eq, tFor_eq, iList, iTup, iStr, iRng1, iRng2, iZip, iEnum, gSub, tSl, rSetL_ref, rCat_ref, rRep_ref, rJoin_ref, rSlL_ref, rSlS_ref, rMulS_ref, rIxL_ref, rIxT_ref, rLenK_ref, rAll_ref, rIn_ref, tLst, tTup, tPar, tPar3, tAug, tPart, tNoPart, tCall, List.getElem?_cons_zero, List.getElem?_cons_succ, List.set_cons_zero, List.set_cons_succ, List.map_cons, List.map_nil, List.append_nil, List.nil_append, List.cons_append, Option.some.injEq, exists_eq_left', exists_eq_left, exists_eq_right, exists_eq_right', exists_eq', V.int.injEq, V.str.injEq, V.bl.injEq, V.ref.injEq, List.cons.injEq, tM0, tM1, rNewStrs, sgn_eq, split_dot, split_sp, split_nl, dot_len, sp_len, nl_len, cxOf_K, L2.start, List.length_cons, List.length_nil, List.replicate_succ, List.replicate_zero, Nat.reduceSub, Nat.zero_add, and_true, true_and, and_self, exists_and_left, exists_const, Bool.false_eq_true, if_false, if_true, ite_true, ite_false, reduceIte, decide_eq_true_eq, reduceCtorEq, Nat.reduceAdd, Nat.reduceLT, tMseq, tMret, tNdef1, tThru, tCallV, gFldC, tFldC, sFldC, sFldAugC, tMeth, tMethX, tMethS, tMake, tCKw, sDPut, tDGet2, tVeI, tOst, tWhy, tXf, tListZip, tCallX, tCallXU, tCallV, tCallVS, tLam1, tLamD, tCallS, tCls, tClsD, cx_cells, cx_scope, cx_N, cx_prog, cx_w, cx_base, cx_mg, cx_qual]
          have sb : Same Ha Hc := xb.same
          have hx : ds[i]? = some ds[i] := List.getElem?_eq_getElem hi
          obtain ⟨v1, e1, f1⟩ := dpAll_get d1 hx
          obtain ⟨v2, e2, f2⟩ := dpAll_get d2 hx
          have at1 : atI vs (0 + (i : Int)) = some v1 := by rw [Int.zero_add]; exact atI_nat e1
          have at2 : atI us (0 + (i : Int)) = some v2 := by rw [Int.zero_add]; exact atI_nat e2
          have get : ∀ (a : Addr) (xs : List V) (v : V) (i : Int) (Hz : Hp) (Rz : VK), (SqL K Hz a xs ∨ SqT K Hz a xs) → atI xs i = some v → Rz v Hz → rIx K (V.ref a) (V.int i) Hz Rz := fun a xs v i Hz Rz hq ha hr => by
            rcases hq with hq | hq
            · exact .inl ⟨a, xs, i, v, rfl, rfl, hq, ha, hr⟩
            · exact .inr (.inl ⟨a, xs, i, v, rfl, rfl, hq, ha, hr⟩)
          have up : ∀ (a : Addr) (xs : List V), (SqL K Ha a xs ∨ SqT K Ha a xs) → (SqL K Hc a xs ∨ SqT K Hc a xs) := fun a xs h => h.elim (fun h => .inl (sb.seq h)) (fun h => .inr (same_tup sb h))
          refine get a vs v1 _ _ _ (up a vs q1) at1 ?_
          refine get b us v2 _ _ _ (up b us q2) at2 ?_
          refine ⟨v1, v2, ds[i], rfl, dp_same sb f1, dp_same sb f2, ?_, small_in hsm _ (List.getElem_mem hi), fun H' s' => ⟨_, rfl, ?_⟩⟩
          · have := depth_in (List.getElem_mem hi)
            omega
          · simp only [Bool.not_true, Bool.false_eq_true, if_false]
            exact r0 _ (.of_same s') trivial rfl
        · subst pa
          refine ⟨by decide, fun t ht => ⟨.list [], .list [], .lst (.of (by rw [upd_ne (ne_of_none hD ht)]; exact hD)) .nil, .lst (.of upd_same) .nil, by decide, by decide, ?_⟩⟩
          rw [eqv_nil]
          exact q _ (same_new (sa.trans xb.same) ht)
      cases h1 with
      | non =>
        cases h2
        refine isiT_dp .non upd_same (b := false) (c := false) kb_NoneType_tuple kb_NoneType_list ⟨_, rfl, ?_⟩
        simp only [Bool.or_self, Bool.false_eq_true, if_false, if_true]
        refine ⟨rfl, isi_dp .non (b := false) kb_NoneType_str (isi_dp .non (b := false) kb_NoneType_str ⟨rfl, ?_⟩)⟩
        simp only [decide_true]
        exact q _ s1
      | bl x =>
        cases h2
        refine isiT_dp (.bl x) upd_same (b := false) (c := false) kb_bool_tuple kb_bool_list ⟨_, rfl, ?_⟩
        simp only [Bool.or_self, Bool.false_eq_true, if_false, reduceCtorEq]
        refine isi_dp (.bl x) (b := false) kb_bool_str ⟨_, rfl, ?_⟩
        simp only [Bool.false_eq_true, if_false]
        refine isi_dp (.bl x) (b := true) kb_bool_int ⟨_, rfl, ?_⟩
        simp only [if_true]
        refine isi_dp (.bl x) (b := true) kb_bool_bool (isi_dp (.bl x) (b := true) kb_bool_bool ⟨rfl, ?_⟩)
        simp only [if_true, decide_true]
        exact ⟨rfl, q _ s1⟩
      | int x =>
        cases h2
        refine isiT_dp (.int x) upd_same (b := false) (c := false) kb_int_tuple kb_int_list ⟨_, rfl, ?_⟩
        simp only [Bool.or_self, Bool.false_eq_true, if_false, reduceCtorEq]
        refine isi_dp (.int x) (b := false) kb_int_str ⟨_, rfl, ?_⟩
        simp only [Bool.false_eq_true, if_false]
        refine isi_dp (.int x) (b := true) kb_int_int ⟨_, rfl, ?_⟩
        simp only [if_true]
        refine isi_dp (.int x) (b := false) kb_int_bool (isi_dp (.int x) (b := false) kb_int_bool ⟨rfl, ?_⟩)
        simp only [if_true, decide_true]
        exact ⟨rfl, q _ s1⟩
      | str x =>
        cases h2
        refine isiT_dp (.str x) upd_same (b := false) (c := false) kb_str_tuple kb_str_list ⟨_, rfl, ?_⟩
        simp only [Bool.or_self, Bool.false_eq_true, if_false, reduceCtorEq]
        refine isi_dp (.str x) (b := true) kb_str_str ⟨_, rfl, ?_⟩
        simp only [if_true]
        refine ⟨rfl, isi_dp (.str x) (b := true) kb_str_str (isi_dp (.str x) (b := true) kb_str_str ⟨rfl, ?_⟩)⟩
        simp only [decide_true]
        exact q _ s1
      | @lst a xs ds ha da =>
        cases h2 with
        | @lst b ys _ hb db =>
          refine isiT_dp k2 upd_same (b := false) (c := true) kb_list_tuple kb_list_list ⟨_, rfl, ?_⟩
          simp only [Bool.or_true, if_true]
          refine ⟨by decide, fun r hr => ?_⟩
          have s2 : Same H (upd (upd H p (HO.tup [V.ty "tuple", V.ty "list"])) r (HO.tup [V.ty "tuple", V.ty "list"])) := same_new s1 hr
          refine isiT_dp (dp_same s2 (.lst ha da)) upd_same (b := false) (c := true) kb_list_tuple kb_list_list ⟨_, rfl, ?_⟩
          simp only [Bool.or_true, Bool.not_true, Bool.false_eq_true, if_false]
          refine isi_dp (dp_same s2 (.lst ha da)) (b := true) kb_list_list (isi_dp (dp_same s2 (.lst hb db)) (b := true) kb_list_list ⟨rfl, ?_⟩)
          simp only [decide_true, Bool.not_true, Bool.false_eq_true, if_false]
          have hdd : PyData.depthAll ds < n := by simp only [PyData.depth] at hd; omega
          have hs2 : ds.length ≤ 100000 ∧ smallAll ds = true := by simpa only [smallD, Bool.and_eq_true, decide_eq_true_eq] using hs
          exact seqs ds hdd xs ys a b _ (dpAll_same s2 da) (dpAll_same s2 db) (.inl (s2.seq ha)) (.inl (s2.seq hb)) s2 hs2.2 hs2.1
      | @tup a xs ds ha da =>
        cases h2 with
        | @tup b ys _ hb db =>
          refine isiT_dp k2 upd_same (b := true) (c := false) kb_tuple_tuple kb_tuple_list ⟨_, rfl, ?_⟩
          simp only [Bool.or_false, if_true]
          refine ⟨by decide, fun r hr => ?_⟩
          have s2 : Same H (upd (upd H p (HO.tup [V.ty "tuple", V.ty "list"])) r (HO.tup [V.ty "tuple", V.ty "list"])) := same_new s1 hr
          refine isiT_dp (dp_same s2 (.tup ha da)) upd_same (b := true) (c := false) kb_tuple_tuple kb_tuple_list ⟨_, rfl, ?_⟩
          simp only [Bool.or_false, Bool.not_true, Bool.false_eq_true, if_false]
          refine isi_dp (dp_same s2 (.tup ha da)) (b := false) kb_tuple_list (isi_dp (dp_same s2 (.tup hb db)) (b := false) kb_tuple_list ⟨rfl, ?_⟩)
          simp only [decide_true, Bool.not_true, Bool.false_eq_true, if_false]
          have hdd : PyData.depthAll ds < n := by simp only [PyData.depth] at hd; omega
          have hs2 : ds.length ≤ 100000 ∧ smallAll ds = true := by simpa only [smallD, Bool.and_eq_true, decide_eq_true_eq] using hs
          exact seqs ds hdd xs ys a b _ (dpAll_same s2 da) (dpAll_same s2 db) (.inr (same_tup s2 ha)) (.inr (same_tup s2 hb)) s2 hs2.2 hs2.1
end
end Hk

set_option Elab.async false
set_option linter.all false
set_option maxRecDepth 100000
set_option maxHeartbeats 4000000
namespace Hk
open PySem PySem.Spec PyProof.Rows L2
open LamX NdefX
open TL
section
variable {P : Program} {w : World} {K : PySem.W.Frag} {mg : Str → Option Value} {base : Heap}
/-! ### _law_parts -/
theorem G_law_parts (T : Tx K mg) : Glob P w K mg base (CX0) 1 "_law_parts" p_law_parts [] sp_of_length := by
  obtain ⟨fd, F⟩ := T.f_law_parts
  refine ⟨_, fd, [], F.ok sc_law_parts (fun vs H Q E h => ?_) (fun cdv A outer s H vs Q E hr h => ?_), T.g__law_parts, F.kp, .nil, F.bindsN fun _ _ _ _ _ _ us hl => match us, hl with | [_, _], _ => rfl⟩
  · obtain ⟨z, n, rfl, _⟩ := h; rfl
  · obtain ⟨z, n, rfl, hz, hn0, hn, q1, q2⟩ := h
    refine ⟨_, PSs.nox (pss_cons (ps_set (i := 2) sc_law_parts.nd rfl (Or.inl rfl) (pe_split (pv 0) pe_str))
      (pss_cons (ps_if (pt_cmpR op_eq (pe_ix (ix_listK (K := K) rfl) (pv 2) (pe_un un_neg pe_int) (fun _ _ => rfl)) pe_str (nomark _))
      (pss_one (ps_set (i := 2) sc_law_parts.nd rfl (Or.inl rfl) (pe_op op_cat (pe_slice (sl_listK (K := K) rfl) (pv 2) po_none (po_some (pe_un un_neg pe_int))) (pe_op op_rep (pe_lst (pa_cons pe_str pa_nil)) (pe_op op_add (pe_op op_sub (pv 1) (pe_callB (call_len_seqK (K := K) rfl) (by rfl) T.b_len (by decide +kernel) (pa_cons (pv 2) pa_nil))) pe_int)))))
      pss_nil)
      (pss_one (ps_ret (pe_ifExp (pt_cmpR op_eq (pe_callB (call_len_seqK (K := K) rfl) (by rfl) T.b_len (by decide +kernel) (pa_cons (pv 2) pa_nil)) (pv 1) (nomark _)) (pv 2) pe_non))))), ?_⟩
    simp only [tCutE, false_and, exists_false, false_or, or_false, tRet, tRetN, tAndV, tOrV, tNotV, tChain, rI, rI0, rU, tC, tCB, tCons, tNil, tVar, tOp, tUn, tTest, tB, tAnd, tOr, tNot, tIf, tIfS, tSeq, tAsg, tDrop, tNext, gName, gTup_ref, gCons_cons, gNil_nil, and_assoc, tYes, wipe, rEq, rNe, scal_ss, scal_ii, scal_bb, scal_ns, scal_sn, scal_nn, scal_in, scal_ni, tLc_eq, tFor_eq, iList, iTup, iStr, iRng1, iRng2, iZip, iEnum, gSub, tSl, rSetL_ref, rCat_ref, rRep_ref, rJoin_ref, rSlL_ref, rSlS_ref, rMulS_ref, rIxL_ref, rIxT_ref, rLenK_ref, rAll_ref, rIn_ref, tLst, tTup, tPar, tPar3, tAug, tPart, tNoPart, tCall, List.getElem?_cons_zero, List.getElem?_cons_succ, List.set_cons_zero, List.set_cons_succ, List.map_cons, List.map_nil, List.append_nil, List.nil_append, List.cons_append, Option.some.injEq, exists_eq_left', exists_eq_left, exists_eq_right, exists_eq_right', exists_eq', V.int.injEq, V.str.injEq, V.bl.injEq, V.ref.injEq, List.cons.injEq, tM0, tM1, rNewStrs, sgn_eq, split_dot, split_sp, split_nl, dot_len, sp_len, nl_len, cxOf_K, L2.start, List.length_cons, List.length_nil, List.replicate_succ, List.replicate_zero, Nat.reduceSub, Nat.zero_add, and_true, true_and, and_self, exists_and_left, exists_const, Bool.false_eq_true, if_false, if_true, ite_true, ite_false, reduceIte, decide_eq_true_eq, reduceCtorEq, Nat.reduceAdd, Nat.reduceLT, tMseq, tMret, tNdef1, tThru, tCallV, gFldC, tFldC, sFldC, sFldAugC, tMeth, tMethX, tMethS, tMake, tCKw, sDPut, tDGet2, tVeI, tOst, tWhy, tXf, tListZip, tCallX, tCallXU, tCallV, tCallVS, tLam1, tLamD, tCallS, tCls, tClsD, cx_cells, cx_scope, cx_N, cx_prog, cx_w, cx_base, cx_mg, cx_qual]
    have hl := wds_len z
    have hne := wds_ne z
    have hl0 : 0 < (wds z).length := by
      cases e : wds z with
      | nil => exact absurd e hne
      | cons a r => simp
    refine ⟨small (by omega), fun p hp => ⟨_, .of upd_same, ?_⟩⟩
    have s1 : Same H (upd H p (HO.lst (List.map V.str (wds z)))) := same_put (Same.refl _) hp
    obtain ⟨x, e1, e2⟩ := last_str hne
    refine ⟨.str x, (atI_neg1 (by simpa using hne)).trans e1, rfl, ?_⟩
    have hdl : (wds z).dropLast.length = (wds z).length - 1 := List.length_dropLast
    split
    · rename_i e
      cases e
      refine ⟨_, .of upd_same, fun c hc => ⟨by decide, fun r hr => ?_⟩⟩
      rw [cut_last]
      have npc : p ≠ c := ne_of_none upd_same hc
      have ncr : c ≠ r := ne_of_none upd_same hr
      have npr : p ≠ r := by
        intro e; subst e
        rw [upd_ne npc, upd_same] at hr; cases hr
      have s2 : Same H (upd (upd (upd H p (HO.lst (List.map V.str (wds z)))) c (HO.lst (List.map V.str (wds z)).dropLast)) r (HO.lst [V.str (Str.ofString "*")])) := by
        refine same_new (same_new s1 hc) ?_
        rw [← cut_last]; exact hr
      refine ⟨_, .inl (.of (by rw [upd_ne npr, upd_ne npc, upd_same])), _, upd_same, ?_, ?_, ?_, fun t ht => ?_⟩
      · rw [List.length_map]; omega
      · rw [List.length_map]; omega
      · simp only [List.length_singleton, List.length_map]; exact small (by omega)
      have nct : c ≠ t := by
        intro e; subst e
        rw [upd_ne ncr, upd_same] at ht; cases ht
      refine ⟨_, by rw [upd_ne nct, upd_ne ncr, upd_same], _, upd_same, ?_, fun u hu => ?_⟩
      · rw [← List.map_dropLast, List.length_map, List.length_flatten, List.map_replicate, List.sum_replicate_nat]; simp only [List.length_singleton, List.length_map]; exact small (by omega)
      have eo : (List.map V.str (wds z)).dropLast ++ (List.replicate (n - ((List.map V.str (wds z)).length : Int) + 1).toNat [V.str (Str.ofString "*")]).flatten = ((wds z).dropLast ++ List.replicate (n - (wds z).dropLast.length).toNat ("*" : Str)).map V.str := by
        rw [List.map_append, List.map_replicate, List.length_map, List.flatten_replicate_singleton, ← List.map_dropLast, show (n - ((wds z).length : Int) + 1) = n - ((wds z).dropLast.length : Int) by omega]
      have s3 := same_new (o := HO.lst (((wds z).dropLast ++ List.replicate (n - (wds z).dropLast.length).toNat ("*" : Str)).map V.str)) (same_new s2 ht) hu
      have nu : H u = none := (same_new s2 ht).free hu
      rw [eo]
      refine ⟨_, .inl (.of upd_same), ?_⟩
      rw [List.length_map]
      have eq : ofLen z n = if ((((wds z).dropLast ++ List.replicate (n - (wds z).dropLast.length).toNat ("*" : Str)).length : Int) = n) then some ((wds z).dropLast ++ List.replicate (n - (wds z).dropLast.length).toNat ("*" : Str)) else none := by
        unfold ofLen
        simp only [if_pos e2]
      split
      · rename_i h1
        rw [if_pos h1] at eq
        exact q2 _ eq _ u s3 nu upd_same
      · rename_i h1
        rw [if_neg h1] at eq
        exact q1 eq _ s3
    · rename_i e
      refine ⟨_, .inl (.of upd_same), ?_⟩
      rw [List.length_map]
      have e3 : ¬ (wds z).getLast? = some ("#" : Str) := fun z => e (by rw [e2] at z; exact congrArg V.str (Option.some.inj z))
      have eq : ofLen z n = if ((wds z).length : Int) = n then some (wds z) else none := by
        unfold ofLen
        simp only [if_neg e3]
      split
      · rename_i h1
        rw [if_pos h1] at eq
        exact q2 _ eq _ p s1 hp upd_same
      · rename_i h1
        rw [if_neg h1] at eq
        exact q1 eq _ s1
/-! ### _law_fits -/
/-- the places at which it does not fit -/
def misfits (ws ps : List Str) : List Nat := (List.range ps.length).filter fun i => !fit1 (ws.getD i "", ps.getD i "")
theorem misfits_nil {ws ps : List Str} (h : ws.length = ps.length) : (misfits ws ps).isEmpty = (ws.zip ps).all fit1 := by
  rw [Bool.eq_iff_iff, List.isEmpty_iff, List.all_eq_true]
  unfold misfits
  rw [List.filter_eq_nil_iff]
  constructor
  · intro hh x hx
    obtain ⟨i, hi, e⟩ := List.mem_iff_getElem.mp hx
    have hi' : i < ps.length := by rw [List.length_zip] at hi; omega
    have := hh i (List.mem_range.mpr hi')
    rw [List.getElem_zip] at e
    rw [List.getD_eq_getElem?_getD, List.getD_eq_getElem?_getD, List.getElem?_eq_getElem (by omega), List.getElem?_eq_getElem hi'] at this
    simp only [Option.getD_some, e] at this
    simpa using this
  · intro hh i hi
    have hi' := List.mem_range.mp hi
    have hz : i < (ws.zip ps).length := by rw [List.length_zip]; omega
    have := hh _ (List.getElem_mem hz)
    rw [List.getElem_zip] at this
    rw [List.getD_eq_getElem?_getD, List.getD_eq_getElem?_getD, List.getElem?_eq_getElem (by omega), List.getElem?_eq_getElem hi']
    simp only [Option.getD_some]
    simp [this]
theorem G_law_fits (T : Tx K mg) : Glob P w K mg base (CX0) 2 "_law_fits" p_law_fits [] sp_does_fit := by
  obtain ⟨fd, F⟩ := T.f_law_fits
  refine ⟨_, fd, [], F.ok sc_law_fits (fun vs H Q E h => ?_) (fun cdv A outer s H vs Q E hr h => ?_), T.g__law_fits, F.kp, .nil, F.bindsN fun _ _ _ _ _ _ us hl => match us, hl with | [_, _], _ => rfl⟩
  · obtain ⟨z, l, rfl, _⟩ := h; rfl
  · obtain ⟨z, l, rfl, hz, hl, q⟩ := h
    refine ⟨_, PSs.nox (pss_cons (ps_set (i := 2) sc_law_fits.nd rfl (Or.inr rfl) (pe_split (pv 1) pe_str))
      (pss_cons (ps_set (i := 3) sc_law_fits.nd rfl (Or.inr rfl) (pe_callG (G_law_parts T) (hr.mono (by first | decide | omega)) (by rfl) pass0 (pa_cons (pv 0) (pa_cons (pe_callB (call_len_seqK (K := K) rfl) (by rfl) T.b_len (by decide +kernel) (pa_cons (pv 2) pa_nil)) pa_nil))))
      (pss_cons (ps_if (pt_cmpR op_isN (pv 3) pe_non (nomark _))
      (pss_one (ps_ret pe_bl))
      pss_nil)
      (pss_one (ps_ret (pe_cmpR (op_eqDK (K := K) rfl hr.units) (pe_lc (own := [("_law_k", 4)]) (g := (gName 4)) rfl sc_law_fits.nd (pi_range1 (by rfl) T.b_range (pa_cons (pe_callB (call_len_seqK (K := K) rfl) (by rfl) T.b_len (by decide +kernel) (pa_cons (pv 2) pa_nil)) pa_nil)) (blkOk_by (by kernel_rfl)) (fun _ _ _ _ _ => (pg_name (i := 4) sc_law_fits.nd rfl (Or.inl rfl))) (fun _ _ _ _ _ => (pts_one (PW.pt (pw_and (pt_cmpR op_ne (pe_ix (ix_listK (K := K) rfl) (pv 3) (pv 4) (fun _ _ => rfl)) pe_str (nomark _)) (pw_and1 (pt_cmpR op_ne (pe_ix (ix_listK (K := K) rfl) (pv 3) (pv 4) (fun _ _ => rfl)) (pe_ix (ix_listK (K := K) rfl) (pv 2) (pv 4) (fun _ _ => rfl)) (nomark _))))))) (fun _ _ _ _ _ => (pv 4))) (pe_lst pa_nil) (nomark _))))))), ?_⟩
    simp only [tCutE, false_and, exists_false, false_or, or_false, tRet, tRetN, tAndV, tOrV, tNotV, tChain, rI, rI0, rU, tC, tCB, tCons, tNil, tVar, tOp, tUn, tTest, tB, tAnd, tOr, tNot, tIf, tIfS, tSeq, tAsg, tDrop, tNext, gName, gTup_ref, gCons_cons, gNil_nil, and_assoc, tYes, wipe, rEq, rNe, scal_ss, scal_ii, scal_bb, scal_ns, scal_sn, scal_nn, scal_in, scal_ni, tLc_eq, tFor_eq, iList, iTup, iStr, iRng1, iRng2, iZip, iEnum, gSub, tSl, rSetL_ref, rCat_ref, rRep_ref, rJoin_ref, rSlL_ref, rSlS_ref, rMulS_ref, rIxL_ref, rIxT_ref, rLenK_ref, rAll_ref, rIn_ref, tLst, tTup, tPar, tPar3, tAug, tPart, tNoPart, tCall, List.getElem?_cons_zero, List.getElem?_cons_succ, List.set_cons_zero, List.set_cons_succ, List.map_cons, List.map_nil, List.append_nil, List.nil_append, List.cons_append, Option.some.injEq, exists_eq_left', exists_eq_left, exists_eq_right, exists_eq_right', exists_eq', V.int.injEq, V.str.injEq, V.bl.injEq, V.ref.injEq, List.cons.injEq, tM0, tM1, rNewStrs, sgn_eq, split_dot, split_sp, split_nl, dot_len, sp_len, nl_len, cxOf_K, L2.start, List.length_cons, List.length_nil, List.replicate_succ, List.replicate_zero, Nat.reduceSub, Nat.zero_add, and_true, true_and, and_self, exists_and_left, exists_const, Bool.false_eq_true, if_false, if_true, ite_true, ite_false, reduceIte, decide_eq_true_eq, reduceCtorEq, Nat.reduceAdd, Nat.reduceLT, tMseq, tMret, tNdef1, tThru, tCallV, gFldC, tFldC, sFldC, sFldAugC, tMeth, tMethX, tMethS, tMake, tCKw, sDPut, tDGet2, tVeI, tOst, tWhy, tXf, tListZip, tCallX, tCallXU, tCallV, tCallVS, tLam1, tLamD, tCallS, tCls, tClsD, cx_cells, cx_scope, cx_N, cx_prog, cx_w, cx_base, cx_mg, cx_qual]
    have hw := wds_len l
    refine ⟨small (by omega), fun p hp => ⟨_, .inl (.of upd_same), ?_⟩⟩
    have s1 : Same H (upd H p (HO.lst (List.map V.str (wds l)))) := same_put (Same.refl _) hp
    have el : (List.map V.str (wds l)).length = (wds l).length := by rw [List.length_map]
    rw [el]
    refine ⟨z, _, rfl, hz, by omega, by omega, fun e H' s2 => ?_, fun ws e H' r s2 hr hr' => ?_⟩
    · refine ifP rfl ?_
      have e2 : doesFit z l = false := by unfold doesFit; rw [e]
      rw [← e2]
      exact q _ (s1.trans s2)
    · refine ifN (by intro e; cases e) ?_
      have hp' : H' p = some (.lst ((wds l).map V.str)) := s2 _ _ upd_same
      have hwl := ofLen_len e
      have hwn : ws.length = (wds l).length := by omega
      have e2 : doesFit z l = (misfits ws (wds l)).isEmpty := by unfold doesFit; rw [e, misfits_nil hwn]
      refine ⟨_, .inl (.of hp'), by rw [el]; omega, by rw [el]; omega, ?_⟩
      rw [el, Int.toNat_natCast]
      have wk : Walk (Itr 0 (wds l).length) (List.range (wds l).length).length (fun _ => True) (YFn fun i => .int (0 + i)) := by
        rw [List.length_range]; exact walk_range
      refine lc_fil (List.range (wds l).length) (fun i => if !fit1 (ws.getD i "", (wds l).getD i "") then some (.int (i : Nat)) else none) wk (by rw [List.length_range]; omega) (fun _ _ => trivial) (fun i a x H1 H2 R hx s3 hy r0 => ?_) (fun D H1 nD s3 hD => ?_)
      · obtain ⟨rfl, rfl⟩ := hy
        have hi : i < (wds l).length := by
          have := (List.getElem?_eq_some_iff.mp hx).1
          rwa [List.length_range] at this
        have ea : a = i := by rw [List.getElem?_range hi] at hx; exact (Option.some.inj hx).symm
        subst ea
        simp only [tCutE, false_and, exists_false, false_or, or_false, tRet, tRetN, tAndV, tOrV, tNotV, tChain, rI, rI0, rU, tC, tCB, tCons, tNil, tVar, tOp, tUn, tTest, tB, tAnd, tOr, tNot, tIf, tIfS, tSeq, tAsg, tDrop, tNext, gName, gTup_ref, gCons_cons, gNil_nil, and_assoc, tYes, wipe, rEq, rNe, scal_ss, scal_ii, scal_bb, scal_ns, scal_sn, scal_nn, scal_in, scal_ni, tLc_eq, tFor_eq, iList, iTup, iStr, iRng1, iRng2, iZip, iEnum, gSub, tSl, rSetL_ref, rCat_ref, rRep_ref, rJoin_ref, rSlL_ref, rSlS_ref, rMulS_ref, rIxL_ref, rIxT_ref, rLenK_ref, rAll_ref, rIn_ref, tLst, tTup, tPar, tPar3, tAug, tPart, tNoPart, tCall, List.getElem?_cons_zero, List.getElem?_cons_succ, List.set_cons_zero, List.set_cons_succ, List.map_cons, List.map_nil, List.append_nil, List.nil_append, List.cons_append, Option.some.injEq, exists_eq_left', exists_eq_left, exists_eq_right, exists_eq_right', exists_eq', V.int.injEq, V.str.injEq, V.bl.injEq, V.ref.injEq, List.cons.injEq, tM0, tM1, rNewStrs, sgn_eq, split_dot, split_sp, split_nl, dot_len, sp_len, nl_len, cxOf_K, L2.start, List.length_cons, List.length_nil, List.replicate_succ, List.replicate_zero, Nat.reduceSub, Nat.zero_add, and_true, true_and, and_self, exists_and_left, exists_const, Bool.false_eq_true, if_false, if_true, ite_true, ite_false, reduceIte, decide_eq_true_eq, reduceCtorEq, Nat.reduceAdd, Nat.reduceLT, tMseq, tMret, tNdef1, tThru, tCallV, gFldC, tFldC, sFldC, sFldAugC, tMeth, tMethX, tMethS, tMake, tCKw, sDPut, tDGet2, tVeI, tOst, tWhy, tXf, tListZip, tCallX, tCallXU, tCallV, tCallVS, tLam1, tLamD, tCallS, tCls, tClsD, cx_cells, cx_scope, cx_N, cx_prog, cx_w, cx_base, cx_mg, cx_qual]
        have hiw : a < ws.length := by omega
        have g1 : atI (ws.map V.str) (0 + (a : Int)) = some (.str ws[a]) := by
          rw [Int.zero_add]
          refine atI_nat ?_
          rw [List.getElem?_map, List.getElem?_eq_getElem hiw]; rfl
        have g2 : atI ((wds l).map V.str) (0 + (a : Int)) = some (.str (wds l)[a]) := by
          rw [Int.zero_add]
          refine atI_nat ?_
          rw [List.getElem?_map, List.getElem?_eq_getElem hi]; rfl
        have hft : fit1 (ws.getD a "", (wds l).getD a "") = (decide (ws[a] = ("*" : Str)) || decide (ws[a] = (wds l)[a])) := by
          rw [List.getD_eq_getElem?_getD, List.getD_eq_getElem?_getD, List.getElem?_eq_getElem hiw, List.getElem?_eq_getElem hi]
          rfl
        refine ⟨_, .of (s3 _ _ hr'), _, g1, rfl, ?_⟩
        split
        · rename_i hd
          have d1 : ws[a] ≠ ("*" : Str) := fun z => by rw [z] at hd; simp at hd
          rw [decide_eq_false d1, Bool.false_or] at hft
          refine ⟨_, .of (s3 _ _ hr'), _, g1, _, .of (s3 _ _ hp'), _, g2, rfl, ?_⟩
          split
          · rename_i hd2
            have d2 : ws[a] ≠ (wds l)[a] := fun z => by rw [z] at hd2; simp at hd2
            rw [decide_eq_false d2] at hft
            simp only [hft, Bool.not_false, if_true] at r0
            rw [Int.zero_add]
            exact r0 _ (Same.refl _)
          · rename_i hd2
            have d2 : ws[a] = (wds l)[a] := by simpa using hd2
            rw [decide_eq_true d2] at hft
            simp only [hft, Bool.not_true, Bool.false_eq_true, if_false] at r0
            exact r0 _ (Same.refl _)
        · rename_i hd
          have d1 : ws[a] = ("*" : Str) := by simpa using hd
          rw [decide_eq_true d1, Bool.true_or] at hft
          simp only [hft, Bool.not_true, Bool.false_eq_true, if_false] at r0
          exact r0 _ (Same.refl _)
      · refine ⟨by decide, fun t ht => ?_⟩
        have hf : (List.range (wds l).length).filterMap (fun i => if !fit1 (ws.getD i "", (wds l).getD i "") then some (V.int (i : Nat)) else none) = (misfits ws (wds l)).map fun i => V.int (i : Nat) := by
          unfold misfits
          rw [← List.filterMap_eq_map, List.filterMap_filter]
          rfl
        rw [hf] at hD
        have nDt : D ≠ t := ne_of_none hD ht
        refine ⟨.list ((misfits ws (wds l)).map fun i => PyData.int (i : Nat)), .list [], .lst (.of (by rw [upd_ne nDt]; exact hD)) (dpAll_map fun a _ => .int _), .lst (.of upd_same) .nil, ?_, by decide, ?_⟩
        · have := shaped_ints ((misfits ws (wds l)).map fun (i : Nat) => (i : Int))
          rwa [List.map_map] at this
        · rw [eqv_nil, List.isEmpty_map, ← e2]
          exact q _ (same_new ((s1.trans s2).trans s3) ht)
end
end Hk

set_option Elab.async false
set_option linter.all false
set_option maxRecDepth 100000
set_option maxHeartbeats 4000000
namespace Hk
open PySem PySem.Spec PyProof.Rows L2
open LamX NdefX
open TL
section
variable {P : Program} {w : World} {K : PySem.W.Frag} {mg : Str → Option Value} {base : Heap}
/-! ### Listener -/
theorem lt1000 {n : Nat} (h : Nat.ble (n + 1) 1000 = true) : n < 1000 := Nat.le_of_ble_eq_true h
def liF (n : Int) (p : Str) (wk : V) (r : Int) (once : Bool) (gate : V) (group : Str) (muted gone : Bool) : List (Str × V) :=
  [("number", .int n), ("pattern", .str p), ("work", wk), ("rank", .int r), ("is_once", .bl once), ("gate", gate), ("group", .str group), ("is_muted", .bl muted), ("is_gone", .bl gone)]
def sp_Listener_init (K : PySem.W.Frag) : Sp := fun vs H Q _ => ∃ (a dx : Addr) (n : Int) (p : Str) (wk : V) (r : Int), vs = [.ref a, .int n, .str p, wk, .int r] ∧ H a = some (.ins (He.ga K "Listener") dx []) ∧
  Q .non (upd H a (.ins (He.ga K "Listener") dx (liF n p wk r false .non "" false false)))
theorem O_Listener___init__ (T : Tx K mg) : ∃ fd, F_Listener___init__ K (He.fAd K ("Listener", some "__init__")) fd ∧ FnOk P w K mg base (CX0) (1) (He.fAd K ("Listener", some "__init__")) fd p_Listener___init__ (sp_Listener_init K) := by
  obtain ⟨fd, F⟩ := T.f_Listener___init__
  refine ⟨fd, F, F.ok sc_Listener___init__ (fun vs H Q E h => ?_) (fun cdv A outer s H vs Q E hr h => ?_)⟩
  · obtain ⟨a, dx, n, p, wk, r, rfl, _⟩ := h; rfl
  · obtain ⟨a, dx, n, p, wk, r, rfl, ha, q⟩ := h
    refine ⟨_, PSs.nox (pss_cons (ps_fldC (K := K) rfl (pv 0) (pv 1) T.cls_Listener T.n_Listener_number)
      (pss_cons (ps_fldC (K := K) rfl (pv 0) (pv 2) T.cls_Listener T.n_Listener_pattern)
      (pss_cons (ps_fldC (K := K) rfl (pv 0) (pv 3) T.cls_Listener T.n_Listener_work)
      (pss_cons (ps_fldC (K := K) rfl (pv 0) (pv 4) T.cls_Listener T.n_Listener_rank)
      (pss_cons (ps_fldC (K := K) rfl (pv 0) pe_bl T.cls_Listener T.n_Listener_is_once)
      (pss_cons (ps_fldC (K := K) rfl (pv 0) pe_non T.cls_Listener T.n_Listener_gate)
      (pss_cons (ps_fldC (K := K) rfl (pv 0) pe_str T.cls_Listener T.n_Listener_group)
      (pss_cons (ps_fldC (K := K) rfl (pv 0) pe_bl T.cls_Listener T.n_Listener_is_muted)
      (pss_one (ps_fldC (K := K) rfl (pv 0) pe_bl T.cls_Listener T.n_Listener_is_gone)))))))))), ?_⟩
    simp only [ha, upd_same, upd_upd, HO.ins.injEq, tCutE, false_and, exists_false, false_or, or_false, tRet, tRetN, tAndV, tOrV, tNotV, tChain, rI, rI0, rU, tC, tCB, tCons, tNil, tVar, tOp, tUn, tTest, tB, tAnd, tOr, tNot, tIf, tIfS, tSeq, tAsg, tDrop, tNext, gName, gTup_ref, gCons_cons, gNil_nil, and_assoc, tYes, wipe, rEq, rNe, scal_ss, scal_ii, scal_bb, scal_ns, scal_sn, scal_nn, scal_in, scal_ni, tLc_eq, tFor_eq, iList, iTup, iStr, iRng1, iRng2, iZip, iEnum, gSub, tSl, rSetL_ref, rCat_ref, rRep_ref, rJoin_ref, rSlL_ref, rSlS_ref, rMulS_ref, rIxL_ref, rIxT_ref, rLenK_ref, rAll_ref, rIn_ref, tLst, tTup, tPar, tPar3, tAug, tPart, tNoPart, tCall, List.getElem?_cons_zero, List.getElem?_cons_succ, List.set_cons_zero, List.set_cons_succ, List.map_cons, List.map_nil, List.append_nil, List.nil_append, List.cons_append, Option.some.injEq, exists_eq_left', exists_eq_left, exists_eq_right, exists_eq_right', exists_eq', V.int.injEq, V.str.injEq, V.bl.injEq, V.ref.injEq, List.cons.injEq, tM0, tM1, rNewStrs, sgn_eq, split_dot, split_sp, split_nl, dot_len, sp_len, nl_len, cxOf_K, L2.start, List.length_cons, List.length_nil, List.replicate_succ, List.replicate_zero, Nat.reduceSub, Nat.zero_add, and_true, true_and, and_self, exists_and_left, exists_const, Bool.false_eq_true, if_false, if_true, ite_true, ite_false, reduceIte, decide_eq_true_eq, reduceCtorEq, Nat.reduceAdd, Nat.reduceLT, tMseq, tMret, tNdef1, tThru, tCallV, gFldC, tFldC, sFldC, sFldAugC, tMeth, tMethX, tMethS, tMake, tCKw, sDPut, tDGet2, tVeI, tOst, tWhy, tXf, tListZip, tCallX, tCallXU, tCallV, tCallVS, tLam1, tLamD, tCallS, tCls, tClsD, cx_cells, cx_scope, cx_N, cx_prog, cx_w, cx_base, cx_mg, cx_qual]
    exact ⟨lt1000 rfl, lt1000 rfl, lt1000 rfl, lt1000 rfl, lt1000 rfl, lt1000 rfl, lt1000 rfl, lt1000 rfl, q⟩
theorem K_Listener_4 (T : Tx K mg) : MakeG P w K mg base (CX0) (1) (He.ga K "Listener") p_Listener___init__ ([]) (sp_Listener_init K) := by
  obtain ⟨fd, F, ok⟩ := O_Listener___init__ T
  
  exact ⟨_, fd, [], T.k_Listener, ok, .nil, F.bindsN fun _ _ _ _ _ _ us hl => match us, hl with | [_, _, _, _, _], _ => rfl⟩
/-! ### Net -/
def netF (kn : Addr) (pol : Str) (most depth locks : Int) (wt st fl : Addr) : List (Str × V) :=
  [("known", .ref kn), ("policy", .str pol), ("most", .int most), ("depth", .int depth), ("locks", .int locks), ("waiting", .ref wt), ("store", .ref st), ("faulty", .ref fl)]
def sp_Net_init (K : PySem.W.Frag) : Sp := fun vs H Q E => ∃ (a dx : Addr) (n : Int) (p : Str), vs = [.ref a, .int n, .str p] ∧ H a = some (.ins (He.ga K "Net") dx []) ∧
  (¬ (0 ≤ n ∧ n ≤ 20) → E (.ref (He.ga K "BadCount")) none H) ∧ (0 ≤ n → n ≤ 20 → ¬ (p = ("stop" : Str) ∨ p = ("go" : Str)) → E (.ref (He.ga K "BadWord")) none H) ∧
  (0 ≤ n → n ≤ 20 → (p = ("stop" : Str) ∨ p = ("go" : Str)) → ∀ H' (kn wt st fl : Addr), (∀ b o, b ≠ a → H b = some o → H' b = some o) → H' a = some (.ins (He.ga K "Net") dx (netF kn p n 0 0 wt st fl)) → H' kn = some (.lst []) → H' wt = some (.lst []) → H' st = some (.dK []) → H' fl = some (.lst []) → kn ≠ wt → kn ≠ fl → wt ≠ fl → H kn = none → H wt = none → H st = none → H fl = none → Q .non H')
theorem Tx.policies (T : Tx K mg) (H : Hp) : SqT K H (He.ga K "POLICIES") ([("stop" : Str), ("go" : Str)].map V.str) := tupB_ok T.e_pol H
theorem O_Net___init__ (T : Tx K mg) : ∃ fd, F_Net___init__ K (He.fAd K ("Net", some "__init__")) fd ∧ FnOk P w K mg base (L2.CX P w) (2) (He.fAd K ("Net", some "__init__")) fd p_Net___init__ (sp_Net_init K) := by
  obtain ⟨fd, F⟩ := T.f_Net___init__
  refine ⟨fd, F, F.ok sc_Net___init__ (fun vs H Q E h => ?_) (fun cdv A outer s H vs Q E hr h => ?_)⟩
  · obtain ⟨a, dx, n, p, rfl, _⟩ := h; rfl
  · obtain ⟨a, dx, n, p, rfl, ha, e1, e2, q⟩ := h
    refine ⟨_, (pss_cons (ps_if (pt_not (pt_chain op_le op_le pe_int (pv 1) (pe_gi T.c_MOST_KEPT (by rfl))))
      (pss_one (ps_raise rfl (takes_of rfl rfl rfl rfl) (pmk_own PySem.F.excBase_ValueError T.x_BadCount.1 T.g_BadCount T.x_BadCount.2.1 (raises_own T.x_BadCount.2.2.1 T.x_BadCount.2.2.2) rfl)))
      pss_nil)
      (pss_cons (ps_if (pt_cmpR (op_notIn_seqK (K := K) rfl) (pv 2) (pe_glob (v := V.ref (He.ga K "POLICIES")) rfl T.g_POLICIES rfl) (by rfl))
      (pss_one (ps_raise rfl (takes_of rfl rfl rfl rfl) (pmk_own PySem.F.excBase_ValueError T.x_BadWord.1 T.g_BadWord T.x_BadWord.2.1 (raises_own T.x_BadWord.2.2.1 T.x_BadWord.2.2.2) rfl)))
      pss_nil)
      (pss_cons (ps_fldC (K := K) rfl (pv 0) (pe_lst pa_nil) T.cls_Net T.n_Net_known)
      (pss_cons (ps_fldC (K := K) rfl (pv 0) (pv 2) T.cls_Net T.n_Net_policy)
      (pss_cons (ps_fldC (K := K) rfl (pv 0) (pv 1) T.cls_Net T.n_Net_most)
      (pss_cons (ps_fldC (K := K) rfl (pv 0) pe_int T.cls_Net T.n_Net_depth)
      (pss_cons (ps_fldC (K := K) rfl (pv 0) pe_int T.cls_Net T.n_Net_locks)
      (pss_cons (ps_fldC (K := K) rfl (pv 0) (pe_lst pa_nil) T.cls_Net T.n_Net_waiting)
      (pss_cons (ps_fldC (K := K) rfl (pv 0) pe_dnewK T.cls_Net T.n_Net_store)
      (pss_one (ps_fldC (K := K) rfl (pv 0) (pe_lst pa_nil) T.cls_Net T.n_Net_faulty))))))))))), ?_⟩
    simp only [ha, upd_same, upd_upd, HO.ins.injEq, tCutE, false_and, exists_false, false_or, or_false, tRet, tRetN, tAndV, tOrV, tNotV, tChain, rI, rI0, rU, tC, tCB, tCons, tNil, tVar, tOp, tUn, tTest, tB, tAnd, tOr, tNot, tIf, tIfS, tSeq, tAsg, tDrop, tNext, gName, gTup_ref, gCons_cons, gNil_nil, and_assoc, tYes, wipe, rEq, rNe, scal_ss, scal_ii, scal_bb, scal_ns, scal_sn, scal_nn, scal_in, scal_ni, tLc_eq, tFor_eq, iList, iTup, iStr, iRng1, iRng2, iZip, iEnum, gSub, tSl, rSetL_ref, rCat_ref, rRep_ref, rJoin_ref, rSlL_ref, rSlS_ref, rMulS_ref, rIxL_ref, rIxT_ref, rLenK_ref, rAll_ref, rIn_ref, tLst, tTup, tPar, tPar3, tAug, tPart, tNoPart, tCall, List.getElem?_cons_zero, List.getElem?_cons_succ, List.set_cons_zero, List.set_cons_succ, List.map_cons, List.map_nil, List.append_nil, List.nil_append, List.cons_append, Option.some.injEq, exists_eq_left', exists_eq_left, exists_eq_right, exists_eq_right', exists_eq', V.int.injEq, V.str.injEq, V.bl.injEq, V.ref.injEq, List.cons.injEq, tM0, tM1, rNewStrs, sgn_eq, split_dot, split_sp, split_nl, dot_len, sp_len, nl_len, cxOf_K, L2.start, List.length_cons, List.length_nil, List.replicate_succ, List.replicate_zero, Nat.reduceSub, Nat.zero_add, and_true, true_and, and_self, exists_and_left, exists_const, Bool.false_eq_true, if_false, if_true, ite_true, ite_false, reduceIte, decide_eq_true_eq, reduceCtorEq, Nat.reduceAdd, Nat.reduceLT, tMseq, tMret, tNdef1, tThru, tCallV, gFldC, tFldC, sFldC, sFldAugC, tMeth, tMethX, tMethS, tMake, tCKw, sDPut, tDGet2, tVeI, tOst, tWhy, tXf, tListZip, tCallX, tCallXU, tCallV, tCallVS, tLam1, tLamD, tCallS, tCls, tClsD, cx_cells, cx_scope, cx_N, cx_prog, cx_w, cx_base, cx_mg, cx_qual]
    by_cases h0 : 0 ≤ n
    rotate_left
    · exact ifN h0 (e1 fun z => h0 z.1)
    refine ifP h0 ?_
    by_cases h1 : n ≤ 20
    rotate_left
    · exact ifP (by simp [h1]) (e1 fun z => h1 z.2)
    refine ifN (by simp [h1]) ⟨_, .inr (T.policies H), rfl, rfl, ?_⟩
    have hin : inV (V.str p) ([("stop" : Str), ("go" : Str)].map V.str) = decide (p ∈ [("stop" : Str), ("go" : Str)]) := inV_strs
    by_cases hp : p = ("stop" : Str) ∨ p = ("go" : Str)
    rotate_left
    · refine ifP ?_ (e2 h0 h1 hp)
      show (!inV (V.str p) ([("stop" : Str), ("go" : Str)].map V.str)) = true
      rw [hin]; simpa using hp
    refine ifN ?_ ⟨Nat.zero_le _, fun kn hkn => ?_⟩
    · show ¬ (!inV (V.str p) ([("stop" : Str), ("go" : Str)].map V.str)) = true
      rw [hin]; rcases hp with z | z <;> simp [z]
    have q := q h0 h1 hp
    have na : a ≠ kn := ne_of_none ha hkn
    refine ⟨dx, [], by rw [upd_ne na]; exact ha, lt1000 rfl, lt1000 rfl, lt1000 rfl, lt1000 rfl, lt1000 rfl, Nat.zero_le _, fun wt hwt => ?_⟩
    generalize hA : upd (upd H kn (.lst [])) a _ = Ha at hwt ⊢
    have fa := (congrFun hA a).symm.trans upd_same
    have fk : Ha kn = some (.lst []) := by rw [← hA, upd_ne na.symm]; exact upd_same
    have fo : ∀ b o, b ≠ a → H b = some o → Ha b = some o := fun b o nb e => by rw [← hA, upd_ne nb, upd_ne (ne_of_none e hkn)]; exact e
    have nw : a ≠ wt := ne_of_none fa hwt
    have nkw : kn ≠ wt := ne_of_none fk hwt
    have hw0 : H wt = none := by
      cases e : H wt with
      | none => rfl
      | some o => rw [fo _ _ nw.symm e] at hwt; cases hwt
    refine ⟨dx, _, by rw [upd_ne nw]; exact fa, lt1000 rfl, fun st hst => ?_⟩
    generalize hB : upd (upd Ha wt (.lst [])) a _ = Hb at hst ⊢
    have fb := (congrFun hB a).symm.trans upd_same
    have fkb : Hb kn = some (.lst []) := by rw [← hB, upd_ne na.symm, upd_ne nkw]; exact fk
    have fwb : Hb wt = some (.lst []) := by rw [← hB, upd_ne nw.symm]; exact upd_same
    have fob : ∀ b o, b ≠ a → H b = some o → Hb b = some o := fun b o nb e => by rw [← hB, upd_ne nb, upd_ne (ne_of_none (fo b o nb e) hwt)]; exact fo b o nb e
    have ns : a ≠ st := ne_of_none fb hst
    have hs0 : H st = none := by
      cases e : H st with
      | none => rfl
      | some o => rw [fob _ _ ns.symm e] at hst; cases hst
    refine ⟨dx, _, by rw [upd_ne ns]; exact fb, lt1000 rfl, Nat.zero_le _, fun fl hfl => ?_⟩
    generalize hC : upd (upd Hb st (.dK [])) a _ = Hc at hfl ⊢
    have fc := (congrFun hC a).symm.trans upd_same
    have fkc : Hc kn = some (.lst []) := by rw [← hC, upd_ne na.symm, upd_ne (ne_of_none fkb hst)]; exact fkb
    have fwc : Hc wt = some (.lst []) := by rw [← hC, upd_ne nw.symm, upd_ne (ne_of_none fwb hst)]; exact fwb
    have fsc : Hc st = some (.dK []) := by rw [← hC, upd_ne ns.symm]; exact upd_same
    have foc : ∀ b o, b ≠ a → H b = some o → Hc b = some o := fun b o nb e => by rw [← hC, upd_ne nb, upd_ne (ne_of_none (fob b o nb e) hst)]; exact fob b o nb e
    have nf : a ≠ fl := ne_of_none fc hfl
    have hf0 : H fl = none := by
      cases e : H fl with
      | none => rfl
      | some o => rw [foc _ _ nf.symm e] at hfl; cases hfl
    refine ⟨dx, _, by rw [upd_ne nf]; exact fc, lt1000 rfl, q _ kn wt st fl (fun b o nb e => ?_) upd_same ?_ ?_ ?_ ?_ nkw (ne_of_none fkc hfl) (ne_of_none fwc hfl) hkn hw0 hs0 hf0⟩
    · rw [upd_ne nb, upd_ne (ne_of_none (foc b o nb e) hfl)]; exact foc b o nb e
    · rw [upd_ne na.symm, upd_ne (ne_of_none fkc hfl)]; exact fkc
    · rw [upd_ne nw.symm, upd_ne (ne_of_none fwc hfl)]; exact fwc
    · rw [upd_ne ns.symm, upd_ne (ne_of_none fsc hfl)]; exact fsc
    · rw [upd_ne nf.symm]; exact upd_same
theorem K_Net_0 (T : Tx K mg) : MakeG P w K mg base (L2.CX P w) (2) (He.ga K "Net") p_Net___init__ (([V.int 0, V.str "stop"] : List V).drop 0) (sp_Net_init K) := by
  obtain ⟨fd, F, ok⟩ := O_Net___init__ T
  obtain ⟨ds, vd, hb⟩ := F.binds1 (ps := p_Net___init__) 1 0 (by simp) rfl (fun T kV doc pm an cdv ct us its h1 h2 => match us, h1, its, h2 with | [_], _, [_, _], _ => ⟨_, rfl, rfl⟩)
  exact ⟨_, fd, ds, T.k_Net, ok, vd, hb⟩
end
end Hk

set_option Elab.async false
set_option linter.all false
set_option maxRecDepth 100000
set_option maxHeartbeats 4000000
namespace Hk
open PySem PySem.Spec PyProof.Rows L2
open LamX NdefX
open TL
section
variable {P : Program} {w : World} {K : PySem.W.Frag} {mg : Str → Option Value} {base : Heap}
/-! ### a net at the heap -/
abbrev LC (K : PySem.W.Frag) : Addr := He.ga K "Listener"
abbrev NC (K : PySem.W.Frag) : Addr := He.ga K "Net"
def liV (l : Lis) : List (Str × V) := liF l.n l.p l.wk l.r l.once l.gate l.group l.muted l.gone
def LisAt (K : PySem.W.Frag) (H : Hp) (l : Lis) : Prop := H l.ad = some (.ins (LC K) l.dx (liV l))
structure NetS where
  dx : Addr
  kn : Addr
  wt : Addr
  st : Addr
  fl : Addr
  pol : Str
  most : Int
  depth : Int
  locks : Int
  ls : List Lis
  wts : List V
  sts : List (Str × Addr × List V)
  fls : List V
/-- what is kept, as the dict holds it -/
def stV (q : List (Str × Addr × List V)) : List (Key × V) := q.map fun x => (Sum.inr x.1, V.ref x.2.1)
def netV (N : NetS) : List (Str × V) := netF N.kn N.pol N.most N.depth N.locks N.wt N.st N.fl
section
variable {l : Lis} {N : NetS} {i : Int} {b : Bool} {z : Str} {p : Addr} {v : V}
theorem lk_number : (liV l).lookup ("number" : Str) = some (.int l.n) := rfl
theorem lk_pattern : (liV l).lookup ("pattern" : Str) = some (.str l.p) := rfl
theorem lk_work : (liV l).lookup ("work" : Str) = some l.wk := rfl
theorem lk_rank : (liV l).lookup ("rank" : Str) = some (.int l.r) := rfl
theorem lk_once : (liV l).lookup ("is_once" : Str) = some (.bl l.once) := rfl
theorem lk_gate : (liV l).lookup ("gate" : Str) = some l.gate := rfl
theorem lk_group : (liV l).lookup ("group" : Str) = some (.str l.group) := rfl
theorem lk_muted : (liV l).lookup ("is_muted" : Str) = some (.bl l.muted) := rfl
theorem lk_gone : (liV l).lookup ("is_gone" : Str) = some (.bl l.gone) := rfl
theorem pt_once : putF ("is_once" : Str) (.bl b) (liV l) = liV { l with once := b } := rfl
theorem pt_gate : putF ("gate" : Str) v (liV l) = liV { l with gate := v } := rfl
theorem pt_group : putF ("group" : Str) (.str z) (liV l) = liV { l with group := z } := rfl
theorem pt_muted : putF ("is_muted" : Str) (.bl b) (liV l) = liV { l with muted := b } := rfl
theorem pt_gone : putF ("is_gone" : Str) (.bl b) (liV l) = liV { l with gone := b } := rfl
theorem li_len : (liV l).length = 9 := rfl
theorem lk_known : (netV N).lookup ("known" : Str) = some (.ref N.kn) := rfl
theorem lk_policy : (netV N).lookup ("policy" : Str) = some (.str N.pol) := rfl
theorem lk_most : (netV N).lookup ("most" : Str) = some (.int N.most) := rfl
theorem lk_depth : (netV N).lookup ("depth" : Str) = some (.int N.depth) := rfl
theorem lk_locks : (netV N).lookup ("locks" : Str) = some (.int N.locks) := rfl
theorem lk_waiting : (netV N).lookup ("waiting" : Str) = some (.ref N.wt) := rfl
theorem lk_store : (netV N).lookup ("store" : Str) = some (.ref N.st) := rfl
theorem lk_faulty : (netV N).lookup ("faulty" : Str) = some (.ref N.fl) := rfl
theorem pt_depth : putF ("depth" : Str) (.int i) (netV N) = netV { N with depth := i } := rfl
theorem pt_locks : putF ("locks" : Str) (.int i) (netV N) = netV { N with locks := i } := rfl
theorem pt_waiting : putF ("waiting" : Str) (.ref p) (netV N) = netV { N with wt := p } := rfl
theorem ne_len : (netV N).length = 8 := rfl
theorem noN {m : Str} (h : m ∉ ([("known" : Str), "policy", "most", "depth", "locks", "waiting", "store", "faulty"] : List Str) := by decide +kernel) : (netV N).lookup m = none := by
  simp only [List.mem_cons, List.not_mem_nil, or_false, not_or] at h
  obtain ⟨h1, h2, h3, h4, h5, h6, h7, h8⟩ := h
  unfold netV netF
  simp only [List.lookup_cons, List.lookup_nil, beq_eq_false_iff_ne.mpr h1, beq_eq_false_iff_ne.mpr h2, beq_eq_false_iff_ne.mpr h3, beq_eq_false_iff_ne.mpr h4, beq_eq_false_iff_ne.mpr h5, beq_eq_false_iff_ne.mpr h6, beq_eq_false_iff_ne.mpr h7, beq_eq_false_iff_ne.mpr h8]
end
structure NetAt (K : PySem.W.Frag) (H : Hp) (a : Addr) (N : NetS) : Prop where
  net : H a = some (.ins (NC K) N.dx (netV N))
  kn : H N.kn = some (.lst (N.ls.map fun l => V.ref l.ad))
  wt : H N.wt = some (.lst N.wts)
  st : H N.st = some (.dK (stV N.sts))
  fl : H N.fl = some (.lst N.fls)
  kw : N.kn ≠ N.wt
  kf : N.kn ≠ N.fl
  wf : N.wt ≠ N.fl
  li : ∀ l ∈ N.ls, LisAt K H l ∧ l.p.length ≤ 1000
  nd : (N.ls.map (·.ad)).Nodup
  ac : NC K ≠ LC K
  few : N.ls.length ≤ 10000
  mo : N.most ≤ 1000
  sf : N.sts.length ≤ 1000
  ss : ∀ q ∈ N.sts, H q.2.1 = some (.lst q.2.2) ∧ q.2.2.length ≤ 1000 ∧ q.2.1 ≠ N.kn ∧ q.2.1 ≠ N.wt ∧ q.2.1 ≠ N.fl
/-- where a net's own objects stand -/
def Foot (a : Addr) (N : NetS) (b : Addr) : Prop := b = a ∨ b = N.kn ∨ b = N.wt ∨ b = N.st ∨ b = N.fl ∨ b ∈ N.ls.map (·.ad) ∨ b ∈ N.sts.map (·.2.1)
theorem NetAt.mono {H H' : Hp} {a : Addr} {N : NetS} (h : NetAt K H a N) (e : ∀ b o, Foot a N b → H b = some o → ¬ Imm o → (∀ ps, o ≠ .tbl ps) → H' b = some o) : NetAt K H' a N :=
  ⟨e _ _ (.inl rfl) h.net (fun z => z) (fun _ z => by cases z), e _ _ (.inr (.inl rfl)) h.kn (fun z => z) (fun _ z => by cases z), e _ _ (.inr (.inr (.inl rfl))) h.wt (fun z => z) (fun _ z => by cases z), e _ _ (.inr (.inr (.inr (.inl rfl)))) h.st (fun z => z) (fun _ z => by cases z),
    e _ _ (.inr (.inr (.inr (.inr (.inl rfl))))) h.fl (fun z => z) (fun _ z => by cases z), h.kw, h.kf, h.wf, fun l hl => ⟨e _ _ (.inr (.inr (.inr (.inr (.inr (.inl (List.mem_map_of_mem (f := (·.ad)) hl))))))) (h.li l hl).1 (fun z => z) (fun _ z => by cases z), (h.li l hl).2⟩, h.nd, h.ac, h.few, h.mo, h.sf,
    fun q hq => ⟨e _ _ (.inr (.inr (.inr (.inr (.inr (.inr (List.mem_map_of_mem (f := (·.2.1)) hq))))))) (h.ss q hq).1 (fun z => z) (fun _ z => by cases z), (h.ss q hq).2⟩⟩
theorem NetAt.fw {H H' : Hp} {a : Addr} {N : NetS} {S : Addr → Prop} {Ts : List Addr} {nm : Nat → Nat → Str} (h : NetAt K H a N) (f : Fw Ts nm S H H') (t : Tabs1 Ts nm H) (n : ∀ b, Foot a N b → ¬ S b) : NetAt K H' a N := h.mono fun b o hb e _ n2 => f.at_ t e n2 (n b hb)
theorem NetAt.same {H H' : Hp} {a : Addr} {N : NetS} (h : NetAt K H a N) (s : Same H H') : NetAt K H' a N := h.mono fun b o _ e _ _ => s b o e
/-- what is tracked in a net is no list of another's -/
theorem NetAt.lst {H : Hp} {a b : Addr} {N : NetS} {xs : List V} (h : NetAt K H a N) (e : H b = some (.lst xs)) (n1 : b ≠ N.kn) (n2 : b ≠ N.wt) (n3 : b ≠ N.fl) (n4 : b ∉ N.sts.map (·.2.1)) : ¬ Foot a N b := by
  rintro (rfl | z | z | rfl | z | z | z)
  · rw [h.net] at e; cases e
  · exact n1 z
  · exact n2 z
  · rw [h.st] at e; cases e
  · exact n3 z
  · obtain ⟨l, hl, rfl⟩ := List.mem_map.mp z
    rw [(h.li l hl).1] at e; cases e
  · exact n4 z
theorem NetAt.dom {H : Hp} {a b : Addr} {N : NetS} (h : NetAt K H a N) (z : Foot a N b) : H b ≠ none := by
  rcases z with rfl | rfl | rfl | rfl | rfl | z | z
  · rw [h.net]; simp
  · rw [h.kn]; simp
  · rw [h.wt]; simp
  · rw [h.st]; simp
  · rw [h.fl]; simp
  · obtain ⟨l, hl, rfl⟩ := List.mem_map.mp z
    rw [(h.li l hl).1]; simp
  · obtain ⟨q, hq, rfl⟩ := List.mem_map.mp z
    rw [(h.ss q hq).1]; simp
/-- the net's own words change, and the lists kn, wt, fl at most -/
theorem NetAt.re {H H' : Hp} {a : Addr} {N N' : NetS} (h : NetAt K H a N) (e : ∀ b o, H b = some o → b ≠ a → b ≠ N.kn → b ≠ N.wt → b ≠ N.fl → ¬ Imm o → (∀ ps, o ≠ .tbl ps) → H' b = some o) (ha : H' a = some (.ins (NC K) N'.dx (netV N')))
    (kn : H' N'.kn = some (.lst (N'.ls.map fun l => V.ref l.ad))) (wt : H' N'.wt = some (.lst N'.wts)) (fl : H' N'.fl = some (.lst N'.fls)) (kw : N'.kn ≠ N'.wt) (kf : N'.kn ≠ N'.fl) (wf : N'.wt ≠ N'.fl) (e1 : N'.st = N.st) (e2 : N'.sts = N.sts) (e3 : N'.ls = N.ls) (e4 : N'.most = N.most)
    (ns : ∀ b, H b ≠ none → (b = N'.kn ∨ b = N'.wt ∨ b = N'.fl) → b = N.kn ∨ b = N.wt ∨ b = N.fl) : NetAt K H' a N' := by
  have k1 : ∀ b, (b = N.kn ∨ b = N.wt ∨ b = N.fl) → ∃ xs, H b = some (.lst xs) := fun b z => by
    rcases z with rfl | rfl | rfl
    · exact ⟨_, h.kn⟩
    · exact ⟨_, h.wt⟩
    · exact ⟨_, h.fl⟩
  have k2 : ∀ b o, H b = some o → (∀ xs, o ≠ .lst xs) → b ≠ a → ¬ Imm o → (∀ ps, o ≠ .tbl ps) → H' b = some o := fun b o hb n na n1 n2 => e b o hb na
    (fun z => by obtain ⟨xs, q⟩ := k1 b (.inl z); rw [hb] at q; exact n xs (Option.some.inj q)) (fun z => by obtain ⟨xs, q⟩ := k1 b (.inr (.inl z)); rw [hb] at q; exact n xs (Option.some.inj q)) (fun z => by obtain ⟨xs, q⟩ := k1 b (.inr (.inr z)); rw [hb] at q; exact n xs (Option.some.inj q)) n1 n2
  refine ⟨ha, kn, wt, ?_, fl, kw, kf, wf, fun l hl => ?_, e3 ▸ h.nd, h.ac, e3 ▸ h.few, e4 ▸ h.mo, e2 ▸ h.sf, fun q hq => ?_⟩
  · rw [e1, e2]
    exact k2 _ _ h.st (fun _ z => by cases z) (fun z => by have := h.st; rw [z, h.net] at this; cases this) (fun z => z) (fun _ z => by cases z)
  · rw [e3] at hl
    refine ⟨k2 _ _ (h.li l hl).1 (fun _ z => by cases z) (fun z => ?_) (fun z => z) (fun _ z => by cases z), (h.li l hl).2⟩
    have := (h.li l hl).1
    unfold LisAt at this
    rw [z, h.net] at this
    exact h.ac (HO.ins.inj (Option.some.inj this)).1
  · rw [e2] at hq
    obtain ⟨s1, s2, s3, s4, s5⟩ := h.ss q hq
    have nn : ¬ (q.2.1 = N'.kn ∨ q.2.1 = N'.wt ∨ q.2.1 = N'.fl) := fun z => (ns _ (by rw [s1]; simp) z).elim s3 fun z => z.elim s4 s5
    simp only [not_or] at nn
    exact ⟨e _ _ s1 (fun z => by rw [z, h.net] at s1; cases s1) s3 s4 s5 (fun z => z) (fun _ z => by cases z), s2, nn.1, nn.2.1, nn.2.2⟩
/-- a new net -/
theorem net_new (T : Tx K mg) {H H' : Hp} {a dx kn wt st fl : Addr} {pol : Str} {most : Int} {Ts : List Addr} {nm : Nat → Nat → Str} (hT : Tabs1 Ts nm H) (na : H a = none) (nd : H dx = none) (k : ∀ b o, b ≠ a → (upd (upd H dx (.own a)) a (.ins (NC K) dx [])) b = some o → H' b = some o)
    (h1 : H' a = some (.ins (NC K) dx (netF kn pol most 0 0 wt st fl))) (h2 : H' kn = some (.lst [])) (h3 : H' wt = some (.lst [])) (h4 : H' st = some (.dK [])) (h5 : H' fl = some (.lst [])) (n1 : kn ≠ wt) (n2 : kn ≠ fl) (n3 : wt ≠ fl) (hmo : most ≤ 20) :
    Same H H' ∧ NetAt K H' a ⟨dx, kn, wt, st, fl, pol, most, 0, 0, [], [], [], []⟩ := by
  have s0 : Same H (upd (upd H dx (.own a)) a (.ins (NC K) dx [])) := same_put (same_put (Same.refl _) nd) na
  exact ⟨fun b o h => k b o (ne_of_none h na) (s0 _ _ h), h1, h2, h3, h4, h5, n1, n2, n3, (fun l hl => nomatch hl), List.nodup_nil, of_decide_eq_true T.e_nl, Nat.zero_le _, Int.le_trans hmo (by decide), Nat.zero_le _, fun q hq => nomatch hq⟩
abbrev Fwd (K : PySem.W.Frag) (S : Addr → Prop) (H H' : Hp) : Prop := Fw (Ts K) nm S H H'
abbrev Tab (K : PySem.W.Frag) (H : Hp) : Prop := Tabs1 (Ts K) nm H
def sp_Net_in_order (K : PySem.W.Frag) : Sp := fun vs H Q _ => ∃ (a : Addr) (N : NetS), vs = [.ref a] ∧ NetAt K H a N ∧ Tab K H ∧
  ∀ H' p, Fwd K No H H' → H p = none → H' p = some (.lst ((orderM N.ls).map fun l => V.ref l.ad)) → Q (.ref p) H'
theorem filt_refs : ∀ ls : List Lis, (ls.filterMap fun l => if (!l.gone) = true then some (V.ref l.ad) else none) = (ls.filter fun l => !l.gone).map fun l => V.ref l.ad
  | [] => rfl
  | l :: r => by
    have ih := filt_refs r
    cases e : l.gone with
    | true => rw [List.filterMap_cons_none (by simp [e]), ih]; simp [e]
    | false => rw [List.filterMap_cons_some (b := V.ref l.ad) (by simp [e]), ih]; simp [e]
def spKey (K : PySem.W.Frag) : List (Option V) → Sp := fun ws vs H Q _ => ws = [] ∧ ∃ l : Lis, vs = [.ref l.ad] ∧ LisAt K H l ∧ ∀ t, H t = none → Q (.ref t) (upd H t (.tup [.int l.r, .int l.n]))
theorem O_Net_in_order (T : Tx K mg) (B : Tb K mg base) : ∃ fd, F_Net_in_order K (He.fAd K ("Net", some "in_order")) fd ∧ FnOk P w K mg base (CX0) (4) (He.fAd K ("Net", some "in_order")) fd p_Net_in_order (sp_Net_in_order K) := by
  obtain ⟨fd, F⟩ := T.f_Net_in_order
  refine ⟨fd, F, okT (p := ("Net", some "in_order")) F sc_Net_in_order (fun vs H Q E h => ?_) (fun A outer s H vs Q E hr h => ?_)⟩
  · obtain ⟨a, N, rfl, _⟩ := h; rfl
  · obtain ⟨a, N, rfl, hN, hT, q⟩ := h
    refine ⟨_, PSs.nox (pss_cons (ps_setLc (i := 1) (own := [("one", 2)]) (g := (gName 2)) rfl sc_Net_in_order.nd rfl rfl (sw_true rfl rfl rfl (by kernel_rfl)) (pi_listK (K := K) rfl (pe_fldC (K := K) rfl (pv 0) T.cls_Net T.n_Net_known)) (blkOk_by (by kernel_rfl)) (fun _ _ _ _ _ => (pg_name (i := 2) sc_Net_in_order.nd rfl (Or.inl rfl))) (fun _ _ _ _ _ => (pts_one (pt_not (pt_val (pe_fldC (K := K) rfl (pv 2) T.cls_Listener T.n_Listener_is_gone))))) (fun _ _ _ _ _ => (pv 2)))
      (pss_one (ps_ret (pe_callBK (cr_sortKey (P := P) (w := w) (K := K) (mg := mg) (base := base) (k := 1) rfl rfl rfl rfl rfl (hr.mono (by first | decide | omega)) hr.units) (by rfl) T.b_sorted (by decide +kernel) (pa_cons (pv 1) pa_nil) (pk_cons (pe_lam (Ts := Ts K) (nm := nm) (B.t_Net_in_order) rfl (m_Net_in_order K) (show nm 131 32 = Str.ofString "Net.in_order.<locals>." ++ Str.ofString "<lambda>" by decide +kernel) (ndef_free (sc := defScope s_Net_in_order) (fr := []) (by decide +kernel)) rfl) pk_nil))))), ?_⟩
    simp only [hN.net, HO.ins.injEq, lk_known, tCutE, false_and, exists_false, false_or, or_false, tRet, tRetN, tAndV, tOrV, tNotV, tChain, rI, rI0, rU, tC, tCB, tCons, tNil, tVar, tOp, tUn, tTest, tB, tAnd, tOr, tNot, tIf, tIfS, tSeq, tAsg, tDrop, tNext, gName, gTup_ref, gCons_cons, gNil_nil, and_assoc, tYes, wipe, rEq, rNe, scal_ss, scal_ii, scal_bb, scal_ns, scal_sn, scal_nn, scal_in, scal_ni, tLc_eq, tFor_eq, iList, iTup, iStr, iRng1, iRng2, iZip, iEnum, gSub, tSl, rSetL_ref, rCat_ref, rRep_ref, rJoin_ref, rSlL_ref, rSlS_ref, rMulS_ref, rIxL_ref, rIxT_ref, rLenK_ref, rAll_ref, rIn_ref, tLst, tTup, tPar, tPar3, tAug, tPart, tNoPart, tCall, List.getElem?_cons_zero, List.getElem?_cons_succ, List.set_cons_zero, List.set_cons_succ, List.map_cons, List.map_nil, List.append_nil, List.nil_append, List.cons_append, Option.some.injEq, exists_eq_left', exists_eq_left, exists_eq_right, exists_eq_right', exists_eq', V.int.injEq, V.str.injEq, V.bl.injEq, V.ref.injEq, List.cons.injEq, tM0, tM1, rNewStrs, sgn_eq, split_dot, split_sp, split_nl, dot_len, sp_len, nl_len, cxOf_K, L2.start, List.length_cons, List.length_nil, List.replicate_succ, List.replicate_zero, Nat.reduceSub, Nat.zero_add, and_true, true_and, and_self, exists_and_left, exists_const, Bool.false_eq_true, if_false, if_true, ite_true, ite_false, reduceIte, decide_eq_true_eq, reduceCtorEq, Nat.reduceAdd, Nat.reduceLT, tMseq, tMret, tNdef1, tThru, tCallV, gFldC, tFldC, sFldC, sFldAugC, tMeth, tMethX, tMethS, tMake, tCKw, sDPut, tDGet2, tVeI, tOst, tWhy, tXf, tListZip, tCallX, tCallXU, tCallV, tCallVS, tLam1, tLamD, tCallS, tCls, tClsD, cx_cells, cx_scope, cx_N, cx_prog, cx_w, cx_base, cx_mg, cx_qual]
    refine ⟨⟨_, .of hN.kn⟩, ?_⟩
    have hfew := hN.few
    refine lc_fil N.ls (fun l => if (!l.gone) = true then some (V.ref l.ad) else none) (walk_listm N.ls fun l => V.ref l.ad) (by omega) (fun H1 s1 => s1.seq (.of hN.kn)) (fun i l x H1 H2 R hl s1 hy r => ?_) (fun D H1 nD s1 hD => ?_)
    · obtain ⟨rfl, u, hu, rfl⟩ := hy
      rw [hl] at hu; cases hu
      have hla := s1 _ _ (hN.li l (List.mem_of_getElem? hl)).1
      simp only [hla, HO.ins.injEq, lk_gone, tCutE, false_and, exists_false, false_or, or_false, tRet, tRetN, tAndV, tOrV, tNotV, tChain, rI, rI0, rU, tC, tCB, tCons, tNil, tVar, tOp, tUn, tTest, tB, tAnd, tOr, tNot, tIf, tIfS, tSeq, tAsg, tDrop, tNext, gName, gTup_ref, gCons_cons, gNil_nil, and_assoc, tYes, wipe, rEq, rNe, scal_ss, scal_ii, scal_bb, scal_ns, scal_sn, scal_nn, scal_in, scal_ni, tLc_eq, tFor_eq, iList, iTup, iStr, iRng1, iRng2, iZip, iEnum, gSub, tSl, rSetL_ref, rCat_ref, rRep_ref, rJoin_ref, rSlL_ref, rSlS_ref, rMulS_ref, rIxL_ref, rIxT_ref, rLenK_ref, rAll_ref, rIn_ref, tLst, tTup, tPar, tPar3, tAug, tPart, tNoPart, tCall, List.getElem?_cons_zero, List.getElem?_cons_succ, List.set_cons_zero, List.set_cons_succ, List.map_cons, List.map_nil, List.append_nil, List.nil_append, List.cons_append, Option.some.injEq, exists_eq_left', exists_eq_left, exists_eq_right, exists_eq_right', exists_eq', V.int.injEq, V.str.injEq, V.bl.injEq, V.ref.injEq, List.cons.injEq, tM0, tM1, rNewStrs, sgn_eq, split_dot, split_sp, split_nl, dot_len, sp_len, nl_len, cxOf_K, L2.start, List.length_cons, List.length_nil, List.replicate_succ, List.replicate_zero, Nat.reduceSub, Nat.zero_add, and_true, true_and, and_self, exists_and_left, exists_const, Bool.false_eq_true, if_false, if_true, ite_true, ite_false, reduceIte, decide_eq_true_eq, reduceCtorEq, Nat.reduceAdd, Nat.reduceLT, tMseq, tMret, tNdef1, tThru, tCallV, gFldC, tFldC, sFldC, sFldAugC, tMeth, tMethX, tMethS, tMake, tCKw, sDPut, tDGet2, tVeI, tOst, tWhy, tXf, tListZip, tCallX, tCallXU, tCallV, tCallVS, tLam1, tLamD, tCallS, tCls, tClsD, cx_cells, cx_scope, cx_N, cx_prog, cx_w, cx_base, cx_mg, cx_qual]
      have := r _ (Same.refl _)
      by_cases e : (!l.gone) = true
      · rw [if_pos e] at this; exact ifP e this
      · rw [if_neg e] at this; exact ifN e this
    · have hD' : H1 D = some (.lst ((N.ls.filter fun l => !l.gone).map fun l => V.ref l.ad)) := by
        rw [hD]
        rw [filt_refs]
      have T1 : Tab K H1 := hT.ext s1
      refine ⟨T1, fun f c H2 e2 n2 T2 f0 f1 c1 => ?_⟩
      have hlen : (N.ls.filter fun l => !l.gone).length ≤ 10000 := Nat.le_trans (List.length_filter_le _ _) hfew
      have w2 : Fwd K No H1 H2 := .of_off T1 e2 n2 T2
      refine sort_lam f1 c1 rfl rfl (act_lam (N := ["one"]) (ps := ["one"]) (fr := []) (spN := spKey K) (nscope_by (by kernel_rfl)) rfl (fun ws vs H Q E h => ?_) (fun pm ctv us hl => ?_) (fun A outer s H vs ws Q E hr hl h => ?_)) (.of (w2.lst T1 hD' (fun z => z))) (by rw [List.length_map]; omega)
        (keyL N.ls) (.inr (fun x _ => keyL_pair _ _)) (fun x hx H3 Q3 E3 s3 q3 => ?_) (fun p H3 s3 np hp => ?_)
      · obtain ⟨_, l, rfl, _⟩ := h; rfl
      · match us, hl with
        | [_], _ => rfl
      · obtain ⟨rfl, l, rfl, hla, hq⟩ := h
        refine ⟨_, (pe_tup (pa_cons (pe_fldC (K := K) rfl (pv 0) T.cls_Listener T.n_Listener_rank) (pa_cons (pe_fldC (K := K) rfl (pv 0) T.cls_Listener T.n_Listener_number) pa_nil))), ?_⟩
        simp only [show H l.ad = some (.ins (LC K) l.dx (liV l)) from hla, HO.ins.injEq, lk_rank, lk_number, startF, List.append_nil, List.length_nil, tCutE, false_and, exists_false, false_or, or_false, tRet, tRetN, tAndV, tOrV, tNotV, tChain, rI, rI0, rU, tC, tCB, tCons, tNil, tVar, tOp, tUn, tTest, tB, tAnd, tOr, tNot, tIf, tIfS, tSeq, tAsg, tDrop, tNext, gName, gTup_ref, gCons_cons, gNil_nil, and_assoc, tYes, wipe, rEq, rNe, scal_ss, scal_ii, scal_bb, scal_ns, scal_sn, scal_nn, scal_in, scal_ni, tLc_eq, tFor_eq, iList, iTup, iStr, iRng1, iRng2, iZip, iEnum, gSub, tSl, rSetL_ref, rCat_ref, rRep_ref, rJoin_ref, rSlL_ref, rSlS_ref, rMulS_ref, rIxL_ref, rIxT_ref, rLenK_ref, rAll_ref, rIn_ref, tLst, tTup, tPar, tPar3, tAug, tPart, tNoPart, tCall, List.getElem?_cons_zero, List.getElem?_cons_succ, List.set_cons_zero, List.set_cons_succ, List.map_cons, List.map_nil, List.append_nil, List.nil_append, List.cons_append, Option.some.injEq, exists_eq_left', exists_eq_left, exists_eq_right, exists_eq_right', exists_eq', V.int.injEq, V.str.injEq, V.bl.injEq, V.ref.injEq, List.cons.injEq, tM0, tM1, rNewStrs, sgn_eq, split_dot, split_sp, split_nl, dot_len, sp_len, nl_len, cxOf_K, L2.start, List.length_cons, List.length_nil, List.replicate_succ, List.replicate_zero, Nat.reduceSub, Nat.zero_add, and_true, true_and, and_self, exists_and_left, exists_const, Bool.false_eq_true, if_false, if_true, ite_true, ite_false, reduceIte, decide_eq_true_eq, reduceCtorEq, Nat.reduceAdd, Nat.reduceLT, tMseq, tMret, tNdef1, tThru, tCallV, gFldC, tFldC, sFldC, sFldAugC, tMeth, tMethX, tMethS, tMake, tCKw, sDPut, tDGet2, tVeI, tOst, tWhy, tXf, tListZip, tCallX, tCallXU, tCallV, tCallVS, tLam1, tLamD, tCallS, tCls, tClsD, cx_cells, cx_scope, cx_N, cx_prog, cx_w, cx_base, cx_mg, cx_qual]
        exact ⟨by decide, hq⟩
      · obtain ⟨l, hl, rfl⟩ := List.mem_map.mp hx
        have hl := (List.mem_filter.mp hl).1
        refine ⟨rfl, l, rfl, s3 _ _ (w2.at_ T1 (s1 _ _ (hN.li l hl).1) (fun _ z => by cases z) (fun z => z)), fun t ht => q3 _ _ (same_new (Same.refl _) ht) (.inr ⟨t, _, _, rfl, upd_same, keyL_at hN.nd hl⟩)⟩
      · rw [order_refs hN.nd fun l hl => (List.mem_filter.mp hl).1] at hp
        exact q H3 p (((Fw.of_same s1 hT).trans w2).same s3) (s1.free (w2.dom _ np)) hp
theorem M_Net_in_order_0 (T : Tx K mg) (B : Tb K mg base) : MethG P w K mg base (CX0) (4) (He.ga K "Net") "in_order" p_Net_in_order ([]) (sp_Net_in_order K) := by
  obtain ⟨fd, F, ok⟩ := O_Net_in_order T B
  
  exact ⟨_, fd, [], T.cls_Net, T.m_Net_in_order, ok, .nil, F.bindsN fun _ _ _ _ _ _ us hl => match us, hl with | [_], _ => rfl⟩
/-! ### listeners, hearing, hearers -/
def hearM (ls : List Lis) (line : Str) : List Lis := (orderM ls).filter fun l => doesFit l.p line
theorem order_mem {ls : List Lis} {l : Lis} (h : l ∈ orderM ls) : l ∈ ls := (List.mem_filter.mp ((List.mergeSort_perm _ _).mem_iff.mp h)).1
theorem order_len {ls : List Lis} : (orderM ls).length ≤ ls.length := by
  unfold orderM
  rw [List.length_mergeSort]; exact List.length_filter_le _ _
def sp_Net_hearing (K : PySem.W.Frag) : Sp := fun vs H Q _ => ∃ (a : Addr) (N : NetS) (line : Str), vs = [.ref a, .str line] ∧ NetAt K H a N ∧ Tab K H ∧ line.length ≤ 1000 ∧
  ∀ H' p, Fwd K No H H' → H p = none → H' p = some (.lst ((hearM N.ls line).map fun l => V.ref l.ad)) → Q (.ref p) H'
theorem filt_map {α : Type} (c : α → Bool) (f : α → V) : ∀ xs : List α, (xs.filterMap fun x => if c x = true then some (f x) else none) = (xs.filter c).map f
  | [] => rfl
  | x :: r => by
    have ih := filt_map c f r
    cases e : c x with
    | false => rw [List.filterMap_cons_none (by simp [e]), ih]; simp [e]
    | true => rw [List.filterMap_cons_some (b := f x) (by simp [e]), ih]; simp [e]
theorem O_Net_hearing (T : Tx K mg) (B : Tb K mg base) : ∃ fd, F_Net_hearing K (He.fAd K ("Net", some "hearing")) fd ∧ FnOk P w K mg base (CX0) (5) (He.fAd K ("Net", some "hearing")) fd p_Net_hearing (sp_Net_hearing K) := by
  obtain ⟨fd, F⟩ := T.f_Net_hearing
  refine ⟨fd, F, F.ok sc_Net_hearing (fun vs H Q E h => ?_) (fun cdv A outer s H vs Q E hr h => ?_)⟩
  · obtain ⟨a, N, line, rfl, _⟩ := h; rfl
  · obtain ⟨a, N, line, rfl, hN, hT, hl, q⟩ := h
    refine ⟨_, PSs.nox (pss_one (ps_ret (pe_lc (own := [("one", 2)]) (g := (gName 2)) rfl sc_Net_hearing.nd (pi_listK (K := K) rfl (pe_methG0 (pv 0) (M_Net_in_order_0 T B) (hr.mono (by first | decide | omega)) pass0)) (blkOk_by (by kernel_rfl)) (fun _ _ _ _ _ => (pg_name (i := 2) sc_Net_hearing.nd rfl (Or.inl rfl))) (fun _ _ _ _ _ => (pts_one (pt_val (pe_callG (G_does_fit T) (hr.mono (by first | decide | omega)) (by rfl) pass0 (pa_cons (pe_fldC (K := K) rfl (pv 2) T.cls_Listener T.n_Listener_pattern) (pa_cons (pv 1) pa_nil)))))) (fun _ _ _ _ _ => (pv 2))))), ?_⟩
    simp only [hN.net, HO.ins.injEq, tCutE, false_and, exists_false, false_or, or_false, tRet, tRetN, tAndV, tOrV, tNotV, tChain, rI, rI0, rU, tC, tCB, tCons, tNil, tVar, tOp, tUn, tTest, tB, tAnd, tOr, tNot, tIf, tIfS, tSeq, tAsg, tDrop, tNext, gName, gTup_ref, gCons_cons, gNil_nil, and_assoc, tYes, wipe, rEq, rNe, scal_ss, scal_ii, scal_bb, scal_ns, scal_sn, scal_nn, scal_in, scal_ni, tLc_eq, tFor_eq, iList, iTup, iStr, iRng1, iRng2, iZip, iEnum, gSub, tSl, rSetL_ref, rCat_ref, rRep_ref, rJoin_ref, rSlL_ref, rSlS_ref, rMulS_ref, rIxL_ref, rIxT_ref, rLenK_ref, rAll_ref, rIn_ref, tLst, tTup, tPar, tPar3, tAug, tPart, tNoPart, tCall, List.getElem?_cons_zero, List.getElem?_cons_succ, List.set_cons_zero, List.set_cons_succ, List.map_cons, List.map_nil, List.append_nil, List.nil_append, List.cons_append, Option.some.injEq, exists_eq_left', exists_eq_left, exists_eq_right, exists_eq_right', exists_eq', V.int.injEq, V.str.injEq, V.bl.injEq, V.ref.injEq, List.cons.injEq, tM0, tM1, rNewStrs, sgn_eq, split_dot, split_sp, split_nl, dot_len, sp_len, nl_len, cxOf_K, L2.start, List.length_cons, List.length_nil, List.replicate_succ, List.replicate_zero, Nat.reduceSub, Nat.zero_add, and_true, true_and, and_self, exists_and_left, exists_const, Bool.false_eq_true, if_false, if_true, ite_true, ite_false, reduceIte, decide_eq_true_eq, reduceCtorEq, Nat.reduceAdd, Nat.reduceLT, tMseq, tMret, tNdef1, tThru, tCallV, gFldC, tFldC, sFldC, sFldAugC, tMeth, tMethX, tMethS, tMake, tCKw, sDPut, tDGet2, tVeI, tOst, tWhy, tXf, tListZip, tCallX, tCallXU, tCallV, tCallVS, tLam1, tLamD, tCallS, tCls, tClsD, cx_cells, cx_scope, cx_N, cx_prog, cx_w, cx_base, cx_mg, cx_qual]
    refine ⟨rfl, a, N, rfl, hN, hT, fun H1 p w1 np hp => ⟨_, rfl, ⟨_, .of hp⟩, ?_⟩⟩
    have N1 := hN.fw w1 hT (fun _ _ z => z)
    have hfew := hN.few
    have hlen := order_len (ls := N.ls)
    refine lc_fil (orderM N.ls) (fun l => if doesFit l.p line = true then some (V.ref l.ad) else none) (walk_listm (orderM N.ls) fun l => V.ref l.ad) (by omega) (fun H2 s2 => s2.seq (.of hp)) (fun i l x H2 H3 R hl' s2 hy r => ?_) (fun D H2 nD s2 hD => ?_)
    · obtain ⟨rfl, u, hu, rfl⟩ := hy
      rw [hl'] at hu; cases hu
      obtain ⟨hla, hpl⟩ := N1.li l (order_mem (List.mem_of_getElem? hl'))
      have hla := s2 _ _ hla
      simp only [hla, HO.ins.injEq, lk_pattern, tCutE, false_and, exists_false, false_or, or_false, tRet, tRetN, tAndV, tOrV, tNotV, tChain, rI, rI0, rU, tC, tCB, tCons, tNil, tVar, tOp, tUn, tTest, tB, tAnd, tOr, tNot, tIf, tIfS, tSeq, tAsg, tDrop, tNext, gName, gTup_ref, gCons_cons, gNil_nil, and_assoc, tYes, wipe, rEq, rNe, scal_ss, scal_ii, scal_bb, scal_ns, scal_sn, scal_nn, scal_in, scal_ni, tLc_eq, tFor_eq, iList, iTup, iStr, iRng1, iRng2, iZip, iEnum, gSub, tSl, rSetL_ref, rCat_ref, rRep_ref, rJoin_ref, rSlL_ref, rSlS_ref, rMulS_ref, rIxL_ref, rIxT_ref, rLenK_ref, rAll_ref, rIn_ref, tLst, tTup, tPar, tPar3, tAug, tPart, tNoPart, tCall, List.getElem?_cons_zero, List.getElem?_cons_succ, List.set_cons_zero, List.set_cons_succ, List.map_cons, List.map_nil, List.append_nil, List.nil_append, List.cons_append, Option.some.injEq, exists_eq_left', exists_eq_left, exists_eq_right, exists_eq_right', exists_eq', V.int.injEq, V.str.injEq, V.bl.injEq, V.ref.injEq, List.cons.injEq, tM0, tM1, rNewStrs, sgn_eq, split_dot, split_sp, split_nl, dot_len, sp_len, nl_len, cxOf_K, L2.start, List.length_cons, List.length_nil, List.replicate_succ, List.replicate_zero, Nat.reduceSub, Nat.zero_add, and_true, true_and, and_self, exists_and_left, exists_const, Bool.false_eq_true, if_false, if_true, ite_true, ite_false, reduceIte, decide_eq_true_eq, reduceCtorEq, Nat.reduceAdd, Nat.reduceLT, tMseq, tMret, tNdef1, tThru, tCallV, gFldC, tFldC, sFldC, sFldAugC, tMeth, tMethX, tMethS, tMake, tCKw, sDPut, tDGet2, tVeI, tOst, tWhy, tXf, tListZip, tCallX, tCallXU, tCallV, tCallVS, tLam1, tLamD, tCallS, tCls, tClsD, cx_cells, cx_scope, cx_N, cx_prog, cx_w, cx_base, cx_mg, cx_qual]
      refine ⟨l.p, line, rfl, by omega, by omega, fun H4 s4 => ⟨_, rfl, ?_⟩⟩
      have := r _ s4
      by_cases e : doesFit l.p line = true
      · rw [if_pos e] at this; exact ifP e this
      · rw [if_neg e] at this; exact ifN e this
    · rw [filt_map] at hD
      exact q H2 D (w1.same s2) (w1.dom _ nD) hD
theorem M_Net_hearing_1 (T : Tx K mg) (B : Tb K mg base) : MethG P w K mg base (CX0) (5) (He.ga K "Net") "hearing" p_Net_hearing ([]) (sp_Net_hearing K) := by
  obtain ⟨fd, F, ok⟩ := O_Net_hearing T B
  
  exact ⟨_, fd, [], T.cls_Net, T.m_Net_hearing, ok, .nil, F.bindsN fun _ _ _ _ _ _ us hl => match us, hl with | [_, _], _ => rfl⟩
def sp_Net_listeners (K : PySem.W.Frag) : Sp := fun vs H Q _ => ∃ (a : Addr) (N : NetS), vs = [.ref a] ∧ NetAt K H a N ∧ Tab K H ∧
  ∀ H' p ts, Fwd K No H H' → H p = none → H' p = some (.lst (ts.map V.ref)) → TupsAt H' ts ((orderM N.ls).map fun l => [.int l.n, .str l.p, .int l.r, .bl l.muted]) → Q (.ref p) H'
theorem O_Net_listeners (T : Tx K mg) (B : Tb K mg base) : ∃ fd, F_Net_listeners K (He.fAd K ("Net", some "listeners")) fd ∧ FnOk P w K mg base (CX0) (5) (He.fAd K ("Net", some "listeners")) fd p_Net_listeners (sp_Net_listeners K) := by
  obtain ⟨fd, F⟩ := T.f_Net_listeners
  refine ⟨fd, F, F.ok sc_Net_listeners (fun vs H Q E h => ?_) (fun cdv A outer s H vs Q E hr h => ?_)⟩
  · obtain ⟨a, N, rfl, _⟩ := h; rfl
  · obtain ⟨a, N, rfl, hN, hT, q⟩ := h
    refine ⟨_, PSs.nox (pss_one (ps_ret (pe_lc (own := [("one", 1)]) (g := (gName 1)) (tt := tYes) rfl sc_Net_listeners.nd (pi_listK (K := K) rfl (pe_methG0 (pv 0) (M_Net_in_order_0 T B) (hr.mono (by first | decide | omega)) pass0)) (blkOk_by (by kernel_rfl)) (fun _ _ _ _ _ => (pg_name (i := 1) sc_Net_listeners.nd rfl (Or.inl rfl))) (fun _ _ _ _ _ => pts_nil) (fun _ _ _ _ _ => (pe_tup (pa_cons (pe_fldC (K := K) rfl (pv 1) T.cls_Listener T.n_Listener_number) (pa_cons (pe_fldC (K := K) rfl (pv 1) T.cls_Listener T.n_Listener_pattern) (pa_cons (pe_fldC (K := K) rfl (pv 1) T.cls_Listener T.n_Listener_rank) (pa_cons (pe_fldC (K := K) rfl (pv 1) T.cls_Listener T.n_Listener_is_muted) pa_nil))))))))), ?_⟩
    simp only [hN.net, HO.ins.injEq, tCutE, false_and, exists_false, false_or, or_false, tRet, tRetN, tAndV, tOrV, tNotV, tChain, rI, rI0, rU, tC, tCB, tCons, tNil, tVar, tOp, tUn, tTest, tB, tAnd, tOr, tNot, tIf, tIfS, tSeq, tAsg, tDrop, tNext, gName, gTup_ref, gCons_cons, gNil_nil, and_assoc, tYes, wipe, rEq, rNe, scal_ss, scal_ii, scal_bb, scal_ns, scal_sn, scal_nn, scal_in, scal_ni, tLc_eq, tFor_eq, iList, iTup, iStr, iRng1, iRng2, iZip, iEnum, gSub, tSl, rSetL_ref, rCat_ref, rRep_ref, rJoin_ref, rSlL_ref, rSlS_ref, rMulS_ref, rIxL_ref, rIxT_ref, rLenK_ref, rAll_ref, rIn_ref, tLst, tTup, tPar, tPar3, tAug, tPart, tNoPart, tCall, List.getElem?_cons_zero, List.getElem?_cons_succ, List.set_cons_zero, List.set_cons_succ, List.map_cons, List.map_nil, List.append_nil, List.nil_append, List.cons_append, Option.some.injEq, exists_eq_left', exists_eq_left, exists_eq_right, exists_eq_right', exists_eq', V.int.injEq, V.str.injEq, V.bl.injEq, V.ref.injEq, List.cons.injEq, tM0, tM1, rNewStrs, sgn_eq, split_dot, split_sp, split_nl, dot_len, sp_len, nl_len, cxOf_K, L2.start, List.length_cons, List.length_nil, List.replicate_succ, List.replicate_zero, Nat.reduceSub, Nat.zero_add, and_true, true_and, and_self, exists_and_left, exists_const, Bool.false_eq_true, if_false, if_true, ite_true, ite_false, reduceIte, decide_eq_true_eq, reduceCtorEq, Nat.reduceAdd, Nat.reduceLT, tMseq, tMret, tNdef1, tThru, tCallV, gFldC, tFldC, sFldC, sFldAugC, tMeth, tMethX, tMethS, tMake, tCKw, sDPut, tDGet2, tVeI, tOst, tWhy, tXf, tListZip, tCallX, tCallXU, tCallV, tCallVS, tLam1, tLamD, tCallS, tCls, tClsD, cx_cells, cx_scope, cx_N, cx_prog, cx_w, cx_base, cx_mg, cx_qual]
    refine ⟨rfl, a, N, rfl, hN, hT, fun H1 p w1 np hp => ⟨_, rfl, ⟨_, .of hp⟩, ?_⟩⟩
    have N1 := hN.fw w1 hT (fun _ _ z => z)
    have hfew := hN.few
    have hlen := order_len (ls := N.ls)
    refine lc_tups (orderM N.ls) (fun l => [.int l.n, .str l.p, .int l.r, .bl l.muted]) (walk_listm (orderM N.ls) fun l => V.ref l.ad) (by omega) (fun H2 s2 => s2.seq (.of hp)) (fun i l x H2 H3 R hl' s2 hy r => ?_) (fun D H2 ts nD s2 hD ht => ?_)
    · obtain ⟨rfl, u, hu, rfl⟩ := hy
      rw [hl'] at hu; cases hu
      obtain ⟨hla, hpl⟩ := N1.li l (order_mem (List.mem_of_getElem? hl'))
      have hla := s2 _ _ hla
      simp only [hla, HO.ins.injEq, lk_pattern, lk_number, lk_rank, lk_muted, tCutE, false_and, exists_false, false_or, or_false, tRet, tRetN, tAndV, tOrV, tNotV, tChain, rI, rI0, rU, tC, tCB, tCons, tNil, tVar, tOp, tUn, tTest, tB, tAnd, tOr, tNot, tIf, tIfS, tSeq, tAsg, tDrop, tNext, gName, gTup_ref, gCons_cons, gNil_nil, and_assoc, tYes, wipe, rEq, rNe, scal_ss, scal_ii, scal_bb, scal_ns, scal_sn, scal_nn, scal_in, scal_ni, tLc_eq, tFor_eq, iList, iTup, iStr, iRng1, iRng2, iZip, iEnum, gSub, tSl, rSetL_ref, rCat_ref, rRep_ref, rJoin_ref, rSlL_ref, rSlS_ref, rMulS_ref, rIxL_ref, rIxT_ref, rLenK_ref, rAll_ref, rIn_ref, tLst, tTup, tPar, tPar3, tAug, tPart, tNoPart, tCall, List.getElem?_cons_zero, List.getElem?_cons_succ, List.set_cons_zero, List.set_cons_succ, List.map_cons, List.map_nil, List.append_nil, List.nil_append, List.cons_append, Option.some.injEq, exists_eq_left', exists_eq_left, exists_eq_right, exists_eq_right', exists_eq', V.int.injEq, V.str.injEq, V.bl.injEq, V.ref.injEq, List.cons.injEq, tM0, tM1, rNewStrs, sgn_eq, split_dot, split_sp, split_nl, dot_len, sp_len, nl_len, cxOf_K, L2.start, List.length_cons, List.length_nil, List.replicate_succ, List.replicate_zero, Nat.reduceSub, Nat.zero_add, and_true, true_and, and_self, exists_and_left, exists_const, Bool.false_eq_true, if_false, if_true, ite_true, ite_false, reduceIte, decide_eq_true_eq, reduceCtorEq, Nat.reduceAdd, Nat.reduceLT, tMseq, tMret, tNdef1, tThru, tCallV, gFldC, tFldC, sFldC, sFldAugC, tMeth, tMethX, tMethS, tMake, tCKw, sDPut, tDGet2, tVeI, tOst, tWhy, tXf, tListZip, tCallX, tCallXU, tCallV, tCallVS, tLam1, tLamD, tCallS, tCls, tClsD, cx_cells, cx_scope, cx_N, cx_prog, cx_w, cx_base, cx_mg, cx_qual]
      exact ⟨by decide, fun t ht => r _ _ ht (Same.refl _)⟩
    · exact q H2 D ts (w1.same s2) (w1.dom _ nD) hD ht
theorem M_Net_listeners_0 (T : Tx K mg) (B : Tb K mg base) : MethG P w K mg base (CX0) (5) (He.ga K "Net") "listeners" p_Net_listeners ([]) (sp_Net_listeners K) := by
  obtain ⟨fd, F, ok⟩ := O_Net_listeners T B
  
  exact ⟨_, fd, [], T.cls_Net, T.m_Net_listeners, ok, .nil, F.bindsN fun _ _ _ _ _ _ us hl => match us, hl with | [_], _ => rfl⟩
end
end Hk

set_option Elab.async false
set_option linter.all false
set_option maxRecDepth 100000
set_option maxHeartbeats 4000000
namespace Hk
open PySem PySem.Spec PyProof.Rows L2
open LamX NdefX
open TL
section
variable {P : Program} {w : World} {K : PySem.W.Frag} {mg : Str → Option Value} {base : Heap}
/-! ### closures that work on the net, and may be called again within -/
section
variable {cl : List (Str × Addr)} {H H' : Hp} {S : Addr → Prop}
theorem cells_out (hcl : ∀ b, InC cl b → ∃ v ob, H b = some (CellO b v ob)) {b : Addr} {o : HO} (h : H b = some o) (n : ∀ ob u, o ≠ .frz ob u) : ¬ InC cl b := fun z => by
  obtain ⟨v, ob, e⟩ := hcl b z
  rw [h] at e
  exact n _ _ (Option.some.inj e)
theorem Tab.del (hcl : ∀ b, InC cl b → ∃ v ob, H b = some (CellO b v ob)) (t : Tab K H) : Tab K (delC cl H) := fun P hP => by
  obtain ⟨ps, e, r1, r2⟩ := t P hP
  refine ⟨ps, by rw [delC_out (cells_out hcl e fun _ _ z => by cases z)]; exact e, r1, fun pos cv h => ?_⟩
  obtain ⟨c, e1, e2⟩ := r2 pos cv h
  exact ⟨c, e1, by rw [delC_out (cells_out hcl e2 codeO_nf)]; exact e2⟩
theorem Fwd.putC (hcl : ∀ b, InC cl b → ∃ v ob, H b = some (CellO b v ob)) (hz : ∀ b, InC cl b → H' b = none) (w : Fwd K S (delC cl H) H') : Fwd K S H (putC cl H H') := by
  refine ⟨fun b o h z => ?_, fun b h => ?_, fun P hP => ?_⟩
  · by_cases i : InC cl b
    · rw [putC_in i]; exact h
    · rw [putC_out i]; exact w.keep b o (by rw [delC_out i]; exact h) z
  · by_cases i : InC cl b
    · rw [putC_in i] at h; exact h
    · rw [putC_out i] at h
      have := w.dom b h
      rw [delC_out i] at this; exact this
  · obtain ⟨ps, e, r1, r2⟩ := w.tab P hP
    have o : ∀ {b o}, H' b = some o → Hk.putC cl H H' b = some o := fun {b o} h => by rw [putC_out fun z => by rw [hz b z] at h; cases h]; exact h
    refine ⟨ps, o e, r1, fun pos cv h => ?_⟩
    obtain ⟨c, e1, e2⟩ := r2 pos cv h
    exact ⟨c, e1, o e2⟩
theorem NetAt.putC {a : Addr} {N : NetS} (hz : ∀ b, InC cl b → H' b = none) (h : NetAt K H' a N) : NetAt K (putC cl H H') a N := h.mono fun b o _ e _ _ => by
  rw [putC_out fun z => by rw [hz b z] at e; cases e]; exact e
theorem NetAt.delC {a : Addr} {N : NetS} (hcl : ∀ b, InC cl b → ∃ v ob, H b = some (CellO b v ob)) (h : NetAt K H a N) : NetAt K (delC cl H) a N := h.mono fun b o _ e n _ => by
  rw [delC_out (cells_out hcl e fun ob u z => n (by rw [z]; trivial))]; exact e
theorem del_lst {xs : List V} {b : Addr} (hcl : ∀ b, InC cl b → ∃ v ob, H b = some (CellO b v ob)) (h : H b = some (.lst xs)) : Hk.delC cl H b = some (.lst xs) := by
  rw [delC_out (cells_out hcl h fun _ _ z => by cases z)]; exact h
end
theorem Fwd.after {S Z : Addr → Prop} {H H1 H2 : Hp} (w1 : Fwd K S H H1) (w2 : Fwd K Z H1 H2) (hz : ∀ b, Z b → H b = none ∨ S b) : Fwd K S H H2 :=
  ⟨fun b o h z => w2.keep b o (w1.keep b o h z) (z.imp id fun y => ⟨fun q => (hz b q).elim (fun n => by rw [n] at h; cases h) y.1, y.2⟩), fun b h => w1.dom b (w2.dom b h), w2.tab⟩
/-- the cells cl shown: they hold ws -/
structure Expo (cl : List (Str × Addr)) (fr : List Str) (ws : List V) (H Hx : Hp) : Prop where
  caps : CapsAt cl fr ws Hx
  out : ∀ b, ¬ InC cl b → Hx b = H b
section
variable {cl : List (Str × Addr)} {fr : List Str} {ws : List V} {H Hx H2 : Hp} {S : Addr → Prop}
theorem Expo.same (X : Expo cl fr ws H Hx) (hz : ∀ b, InC cl b → H b = none) : Same H Hx := fun b o e => by
  rw [X.out b fun z => by rw [hz b z] at e; cases e]; exact e
theorem Expo.cells (X : Expo cl fr ws H Hx) (w : Fwd K S Hx H2) : ∀ b, InC cl b → ∃ v ob, H2 b = some (CellO b v ob) := fun b z => by
  obtain ⟨v, ob, e⟩ := X.caps.tr z
  exact ⟨v, ob, w.imm e imm_cell⟩
theorem Fwd.expo (hz : ∀ b, InC cl b → H b = none) (X : Expo cl fr ws H Hx) (w : Fwd K S Hx H2) : Fwd K S H (delC cl H2) := by
  refine ⟨fun b o h z => ?_, fun b h => ?_, Tab.del (X.cells w) w.tab⟩
  · have nb : ¬ InC cl b := fun y => by rw [hz b y] at h; cases h
    rw [delC_out nb]
    exact w.keep b o (X.same hz _ _ h) z
  · by_cases y : InC cl b
    · exact hz b y
    · rw [delC_out y] at h
      have := w.dom b h
      rw [X.out b y] at this; exact this
theorem expo_of {sc : Scope} {N ps : List Str} {σ : L2.St} {obs : Addr → Obj} {H0 : Hp} (C : CapsAt cl fr ws H0) (S : NScope N ps fr sc) (hσ : ∀ (i : Nat) v, ws[i]? = some v → σ[ps.length + i]? = some (some v)) : Expo cl fr ws H (exC cl sc N σ obs H) :=
  ⟨caps_ex S C.len C.inj C.only (fun y hy => (List.mem_iff_getElem?.mp hy).elim fun i hi => (C.has i y hi).elim fun c z => ⟨c, z.choose_spec.1⟩) hσ, fun b nb => exC_out nb⟩
end
theorem isC_re {H Hx : Hp} {b : Addr} {u v : V} (h : IsC H b u) (h' : IsC H b v) (hx : IsC Hx b v) : IsC Hx b u := by
  obtain ⟨o, e⟩ := h
  obtain ⟨o', e'⟩ := h'
  obtain ⟨ox, ex⟩ := hx
  rw [e] at e'
  have e2 := Option.some.inj e'
  unfold CellO at e2 ex
  have e3 := (HO.frz.inj e2).2
  rw [← e3] at ex
  exact ⟨ox, ex⟩
/-- another closure, within a call of this one: its cells are there again -/
theorem CloAt.expo {cl : List (Str × Addr)} {fr fr2 : List Str} {ws ws2 : List V} {H H1 Hx : Hp} {S : Addr → Prop} {g : Addr} {mk : List (Str × Addr) → Addr → NF} (h : CloAt H g mk fr2 ws2) (C : CapsAt cl fr ws H) (w : Fwd K S (delC cl H) H1) (hz : ∀ b, InC cl b → H1 b = none) (X : Expo cl fr ws H1 Hx) : CloAt Hx g mk fr2 ws2 := by
  obtain ⟨cl2, c, h1, h2, h3, h4, h5⟩ := h
  have hcl : ∀ b, InC cl b → ∃ v ob, H b = some (CellO b v ob) := fun b z => C.tr z
  have sx := X.same hz
  have kp : ∀ b o, H b = some o → Imm o → ¬ InC cl b → Hx b = some o := fun b o e i n => sx _ _ (w.imm (by rw [delC_out n]; exact e) i)
  refine ⟨cl2, c, kp _ _ h1 imm_fn (cells_out hcl h1 fnO_nf), h2, h3, kp _ _ h4 imm_code (cells_out hcl h4 codeO_nf), ⟨h5.len, h5.inj, h5.only, fun i y hi => ?_⟩⟩
  obtain ⟨c2, v, e1, e2, e3⟩ := h5.has i y hi
  refine ⟨c2, v, e1, e2, ?_⟩
  by_cases z : InC cl c2
  · obtain ⟨y3, e4⟩ := z
    obtain ⟨j, hj⟩ := List.mem_iff_getElem?.mp (C.only y3 c2 e4)
    obtain ⟨c3, v3, a1, a2, a3⟩ := C.has j y3 hj
    obtain ⟨c4, v4, b1, b2, b3⟩ := X.caps.has j y3 hj
    rw [e4] at a1 b1
    cases a1; cases b1
    rw [a2] at b2
    cases b2
    exact isC_re e3 a3 b3
  · obtain ⟨ob, e5⟩ := e3
    exact ⟨ob, kp _ _ e5 imm_cell z⟩
/-- a closure is called; its body may call what calls it again -/
theorem clo_runsE {k : Nat} {H : Hp} {f : Addr} {mk : List (Str × Addr) → Addr → NF} {ps fr : List Str} {ws vs : List V} {spN : List (Str × Addr) → Hp → List (Option V) → Sp} {R : VK} {RE : XK} (C : CloAt H f mk fr ws) (hmk : ∀ cl c, (mk cl c).cl = cl) (nok : ∀ f cl c, CapsAt cl fr ws H → NOkE P w K mg base k f (mk cl c) ps fr (spN cl H))
    (body : ∀ cl, CapsAt cl fr ws H → (∀ H2, (∀ b o, H b = some o → Imm o → (∀ ob u, o ≠ .frz ob u) → H2 b = some o) → CapsAt cl fr ws H2 → CloAt H2 f mk fr ws) → Runs (spN cl H (ws.map some)) vs (delC cl H) (fun v H' => (∀ b, InC cl b → H' b = none) → R v (putC cl H H')) (fun c d H' => (∀ b, InC cl b → H' b = none) → RE c d (putC cl H H'))) : ∃ sp, Act P w K mg base k f sp ∧ Runs sp vs H R RE := by
  obtain ⟨cl, c, h1, h2, h3, h4, h5⟩ := C
  refine ⟨_, act_cloE (nok f cl c h5), fun Q E hq he => ⟨ws, h1, by rw [h3]; exact h4, by rw [h2]; exact h5, ?_⟩⟩
  rw [h2]
  exact body cl h5 (fun H2 k c2 => ⟨cl, c, k _ _ h1 imm_fn fnO_nf, h2, h3, k _ _ h4 imm_code codeO_nf, c2⟩) _ _ (fun v H' r z => hq _ _ (r z)) (fun c d H' r z => he _ _ _ (r z))
end
end Hk

set_option Elab.async false
set_option linter.all false
set_option maxRecDepth 100000
set_option maxHeartbeats 4000000
namespace Hk
open PySem PySem.Spec PyProof.Rows L2
open LamX NdefX
open TL
section
variable {P : Program} {w : World} {K : PySem.W.Frag} {mg : Str → Option Value} {base : Heap}
/-- refused by what this package refuses with -/
def Ex (K : PySem.W.Frag) (c : Value) : Prop := PySem.W.exmOne K c (.ref (He.ga K "HearError")) = some true
/-! ### is_due, answer -/
/-- behind the gate -/
def dueFin (K : PySem.W.Frag) (l : Lis) (H : Hp) (Q : VK) : Prop := if l.once = true then Q (.bl true) (upd H l.ad (.ins (LC K) l.dx (liV { l with gone := true }))) else Q (.bl true) H
def sp_is_due (P : Program) (w : World) (K : PySem.W.Frag) (mg : Str → Option Value) (base : Heap) (k : Nat) : Sp := fun vs H Q E => ∃ (a : Addr) (l : Lis) (line : Str) (th : V), vs = [.ref a, .ref l.ad, .str line, th] ∧ LisAt K H l ∧
  ((l.gone || l.muted) = true → Q (.bl false) H) ∧
  ((l.gone || l.muted) = false → l.gate = .non → dueFin K l H Q) ∧
  ((l.gone || l.muted) = false → l.gate ≠ .non → ∃ g sp, l.gate = .ref g ∧ Act P w K mg base (k + 3) g sp ∧ Runs sp [.str line, th] H (fun v H1 => ∃ (b : Bool) (l1 : Lis), v = .bl b ∧ l1.ad = l.ad ∧ LisAt K H1 l1 ∧
    ((!b || l1.gone) = true → Q (.bl false) H1) ∧ ((!b || l1.gone) = false → dueFin K l1 H1 Q)) E)
theorem O_Net_is_due (T : Tx K mg) (B : Tb K mg base) (k : Nat) : ∃ fd, F_Net_is_due K (He.fAd K ("Net", some "is_due")) fd ∧ FnOk P w K mg base (L2.CX P w) (k + 4) (He.fAd K ("Net", some "is_due")) fd p_Net_is_due (sp_is_due P w K mg base k) := by
  obtain ⟨fd, F⟩ := T.f_Net_is_due
  refine ⟨fd, F, F.ok sc_Net_is_due (fun vs H Q E h => ?_) (fun cdv A outer s H vs Q E hr h => ?_)⟩
  · obtain ⟨a, l, line, th, rfl, _⟩ := h; rfl
  · obtain ⟨a, l, line, th, rfl, hl, q1, q2, q3⟩ := h
    refine ⟨_, (pss_cons (ps_if (PW.pt (pw_or (pt_val (pe_fldC (K := K) rfl (pv 1) T.cls_Listener T.n_Listener_is_gone)) (pw_or1 (pt_val (pe_fldC (K := K) rfl (pv 1) T.cls_Listener T.n_Listener_is_muted)))))
      (pss_one (ps_ret pe_bl))
      pss_nil)
      (pss_cons (ps_if (pt_cmpR op_notN (pe_fldC (K := K) rfl (pv 1) T.cls_Listener T.n_Listener_gate) pe_non (nomark _))
      (pss_cons (ps_set (i := 4) sc_Net_is_due.nd rfl (Or.inl rfl) (pe_fldC (K := K) rfl (pv 1) T.cls_Listener T.n_Listener_gate))
      (pss_one (ps_if (PW.pt (pw_or (pt_not (pt_val (pe_callVK (P := P) (w := w) (K := K) (mg := mg) (base := base) rfl rfl rfl rfl rfl (k := (k + 3)) (i := 4) (hr.mono (by first | decide | omega)) (passes_call (takes_of rfl rfl rfl rfl) (fun _ _ _ _ h => h)) rfl (Or.inl rfl) (pa_cons (pv 2) (pa_cons (pv 3) pa_nil))))) (pw_or1 (pt_val (pe_fldC (K := K) rfl (pv 1) T.cls_Listener T.n_Listener_is_gone)))))
      (pss_one (ps_ret pe_bl))
      pss_nil)))
      pss_nil)
      (pss_cons (ps_if (pt_val (pe_fldC (K := K) rfl (pv 1) T.cls_Listener T.n_Listener_is_once))
      (pss_one (ps_fldC (K := K) rfl (pv 1) pe_bl T.cls_Listener T.n_Listener_is_gone))
      pss_nil)
      (pss_one (ps_ret pe_bl))))), ?_⟩
    have hl : H l.ad = _ := hl
    simp only [hl, tCutE, false_and, exists_false, false_or, or_false, tRet, tRetN, tAndV, tOrV, tNotV, tChain, rI, rI0, rU, tC, tCB, tCons, tNil, tVar, tOp, tUn, tTest, tB, tAnd, tOr, tNot, tIf, tIfS, tSeq, tAsg, tDrop, tNext, gName, gTup_ref, gCons_cons, gNil_nil, and_assoc, tYes, wipe, rEq, rNe, scal_ss, scal_ii, scal_bb, scal_ns, scal_sn, scal_nn, scal_in, scal_ni, tLc_eq, tFor_eq, iList, iTup, iStr, iRng1, iRng2, iZip, iEnum, gSub, tSl, rSetL_ref, rCat_ref, rRep_ref, rJoin_ref, rSlL_ref, rSlS_ref, rMulS_ref, rIxL_ref, rIxT_ref, rLenK_ref, rAll_ref, rIn_ref, tLst, tTup, tPar, tPar3, tAug, tPart, tNoPart, tCall, List.getElem?_cons_zero, List.getElem?_cons_succ, List.set_cons_zero, List.set_cons_succ, List.map_cons, List.map_nil, List.append_nil, List.nil_append, List.cons_append, Option.some.injEq, exists_eq_left', exists_eq_left, exists_eq_right, exists_eq_right', exists_eq', V.int.injEq, V.str.injEq, V.bl.injEq, V.ref.injEq, List.cons.injEq, tM0, tM1, rNewStrs, sgn_eq, split_dot, split_sp, split_nl, dot_len, sp_len, nl_len, cxOf_K, L2.start, List.length_cons, List.length_nil, List.replicate_succ, List.replicate_zero, Nat.reduceSub, Nat.zero_add, and_true, true_and, and_self, exists_and_left, exists_const, Bool.false_eq_true, if_false, if_true, ite_true, ite_false, reduceIte, decide_eq_true_eq, reduceCtorEq, Nat.reduceAdd, Nat.reduceLT, tMseq, tMret, tNdef1, tThru, tCallV, gFldC, tFldC, sFldC, sFldAugC, tMeth, tMethX, tMethS, tMake, tCKw, sDPut, tDGet2, tVeI, tOst, tWhy, tXf, tListZip, tCallX, tCallXU, tCallV, tCallVS, tLam1, tLamD, tCallS, tCls, tClsD, cx_cells, cx_scope, cx_N, cx_prog, cx_w, cx_base, cx_mg, cx_qual, tLstRg, tRg1, tRg2, HO.ins.injEq, HO.lst.injEq, HO.tup.injEq, HO.dK.injEq, upd_same, upd_upd, tBM, tBM0, tyV_lst, isL_lst, rAppend_ref, rExtend_ref, rClear_ref, rAdd_int, rSub_int, li_len, ne_len, Nat.reduceLT, Nat.reduceLeDiff, lk_number, lk_pattern, lk_work, lk_rank, lk_once, lk_gate, lk_group, lk_muted, lk_gone, pt_once, pt_gate, pt_group, pt_muted, pt_gone, lk_known, lk_policy, lk_most, lk_depth, lk_locks, lk_waiting, lk_store, lk_faulty, pt_depth, pt_locks, pt_waiting]
    have fin : ∀ (l1 : Lis) (H1 : Hp), l1.ad = l.ad → dueFin K l1 H1 Q → if l1.once = true then Q (V.bl true) (upd H1 l.ad (.ins (LC K) l1.dx (liV { l1 with gone := true }))) else Q (V.bl true) H1 := fun l1 H1 e h => by
      unfold dueFin at h
      rw [e] at h
      exact h
    by_cases hg : l.gone = true
    · exact ifP hg (q1 (by rw [hg]; rfl))
    refine ifN hg ?_
    by_cases hm : l.muted = true
    · exact ifP hm (q1 (by rw [hm]; simp))
    refine ifN hm ?_
    have hgm : (l.gone || l.muted) = false := by simp only [Bool.eq_false_iff.mpr hg, Bool.eq_false_iff.mpr hm, Bool.or_false]
    by_cases hn : l.gate = .non
    · exact ifN (by simp [hn]) (fin l H rfl (q2 hgm hn))
    refine ifP (by simp [hn]) ?_
    obtain ⟨g, sp, e, ac, r⟩ := q3 hgm hn
    refine ⟨g, e, sp, ac, r _ _ (fun v H1 hv => ?_) (fun _ _ _ z => z)⟩
    obtain ⟨b, l1, rfl, el, h1, r1, r2⟩ := hv
    refine ⟨b, rfl, ?_⟩
    have h1 : H1 l1.ad = _ := h1
    rw [el] at h1
    simp only [h1, tCutE, false_and, exists_false, false_or, or_false, tRet, tRetN, tAndV, tOrV, tNotV, tChain, rI, rI0, rU, tC, tCB, tCons, tNil, tVar, tOp, tUn, tTest, tB, tAnd, tOr, tNot, tIf, tIfS, tSeq, tAsg, tDrop, tNext, gName, gTup_ref, gCons_cons, gNil_nil, and_assoc, tYes, wipe, rEq, rNe, scal_ss, scal_ii, scal_bb, scal_ns, scal_sn, scal_nn, scal_in, scal_ni, tLc_eq, tFor_eq, iList, iTup, iStr, iRng1, iRng2, iZip, iEnum, gSub, tSl, rSetL_ref, rCat_ref, rRep_ref, rJoin_ref, rSlL_ref, rSlS_ref, rMulS_ref, rIxL_ref, rIxT_ref, rLenK_ref, rAll_ref, rIn_ref, tLst, tTup, tPar, tPar3, tAug, tPart, tNoPart, tCall, List.getElem?_cons_zero, List.getElem?_cons_succ, List.set_cons_zero, List.set_cons_succ, List.map_cons, List.map_nil, List.append_nil, List.nil_append, List.cons_append, Option.some.injEq, exists_eq_left', exists_eq_left, exists_eq_right, exists_eq_right', exists_eq', V.int.injEq, V.str.injEq, V.bl.injEq, V.ref.injEq, List.cons.injEq, tM0, tM1, rNewStrs, sgn_eq, split_dot, split_sp, split_nl, dot_len, sp_len, nl_len, cxOf_K, L2.start, List.length_cons, List.length_nil, List.replicate_succ, List.replicate_zero, Nat.reduceSub, Nat.zero_add, and_true, true_and, and_self, exists_and_left, exists_const, Bool.false_eq_true, if_false, if_true, ite_true, ite_false, reduceIte, decide_eq_true_eq, reduceCtorEq, Nat.reduceAdd, Nat.reduceLT, tMseq, tMret, tNdef1, tThru, tCallV, gFldC, tFldC, sFldC, sFldAugC, tMeth, tMethX, tMethS, tMake, tCKw, sDPut, tDGet2, tVeI, tOst, tWhy, tXf, tListZip, tCallX, tCallXU, tCallV, tCallVS, tLam1, tLamD, tCallS, tCls, tClsD, cx_cells, cx_scope, cx_N, cx_prog, cx_w, cx_base, cx_mg, cx_qual, tLstRg, tRg1, tRg2, HO.ins.injEq, HO.lst.injEq, HO.tup.injEq, HO.dK.injEq, upd_same, upd_upd, tBM, tBM0, tyV_lst, isL_lst, rAppend_ref, rExtend_ref, rClear_ref, rAdd_int, rSub_int, li_len, ne_len, Nat.reduceLT, Nat.reduceLeDiff, lk_number, lk_pattern, lk_work, lk_rank, lk_once, lk_gate, lk_group, lk_muted, lk_gone, pt_once, pt_gate, pt_group, pt_muted, pt_gone, lk_known, lk_policy, lk_most, lk_depth, lk_locks, lk_waiting, lk_store, lk_faulty, pt_depth, pt_locks, pt_waiting]
    cases b with
    | false => exact ifP rfl (r1 rfl)
    | true =>
      refine ifN (by simp) ?_
      by_cases hg1 : l1.gone = true
      · exact ifP hg1 (r1 (by rw [hg1]; rfl))
      exact ifN hg1 (fin l1 H1 el (r2 (by simp only [Bool.eq_false_iff.mpr hg1]; rfl)))
theorem M_Net_is_due_3 (T : Tx K mg) (B : Tb K mg base) (k : Nat) : MethG P w K mg base (L2.CX P w) (k + 4) (He.ga K "Net") "is_due" p_Net_is_due ([]) (sp_is_due P w K mg base k) := by
  obtain ⟨fd, F, ok⟩ := O_Net_is_due T B k
  
  exact ⟨_, fd, [], T.cls_Net, T.m_Net_is_due, ok, .nil, F.bindsN fun _ _ _ _ _ _ us hl => match us, hl with | [_, _, _, _], _ => rfl⟩
theorem dueFin_mono {l : Lis} {H : Hp} {Q Q' : VK} (h : dueFin K l H Q) (m : ∀ v H', Q v H' → Q' v H') : dueFin K l H Q' := by
  unfold dueFin at h ⊢
  split
  · rename_i e; rw [if_pos e] at h; exact m _ _ h
  · rename_i e; rw [if_neg e] at h; exact m _ _ h
theorem is_due_mono {k : Nat} {vs : List V} {H : Hp} {Q Q' : VK} {E E' : XK} (h : sp_is_due P w K mg base k vs H Q E) (m : ∀ v H', Q v H' → Q' v H') (n : ∀ c d H', E c d H' → E' c d H') : sp_is_due P w K mg base k vs H Q' E' := by
  obtain ⟨a, l, line, th, rfl, hl, q1, q2, q3⟩ := h
  refine ⟨a, l, line, th, rfl, hl, fun e => m _ _ (q1 e), fun e1 e2 => dueFin_mono (q2 e1 e2) m, fun e1 e2 => ?_⟩
  obtain ⟨g, sp, e, ac, r⟩ := q3 e1 e2
  exact ⟨g, sp, e, ac, r.mono (fun v H1 ⟨b, l1, x1, x2, x3, x4, x5⟩ => ⟨b, l1, x1, x2, x3, fun z => m _ _ (x4 z), fun z => dueFin_mono (x5 z) m⟩) n⟩
/-- a gate or a work refused -/
def faultV (K : PySem.W.Frag) (a la : Addr) (line : Str) (Q : VK) (E : XK) : XK := fun c d H1 => Ex K c ∧ ∃ N : NetS, H1 a = some (.ins (NC K) N.dx (netV N)) ∧ (N.pol = "stop" → E c d H1) ∧
  (N.pol ≠ "stop" → ∃ l1 xs, l1.ad = la ∧ LisAt K H1 l1 ∧ H1 N.fl = some (.lst xs) ∧ xs.length ≤ 100000 ∧ ∀ t D, H1 t = none → H1 D = none → t ≠ D → Q (.ref D) (upd (upd (upd H1 t (.tup [.int l1.n, .str line])) N.fl (.lst (xs ++ [.ref t]))) D (.lst [])))
theorem faultV_mono {a la : Addr} {line : Str} {Q Q' : VK} {E E' : XK} (m : ∀ v H', Q v H' → Q' v H') (n : ∀ c d H', E c d H' → E' c d H') (c : Value) (d : Option Addr) (H1 : Hp) (h : faultV K a la line Q E c d H1) : faultV K a la line Q' E' c d H1 := by
  obtain ⟨x, N, h1, h2, h3⟩ := h
  refine ⟨x, N, h1, fun e => n _ _ _ (h2 e), fun e => ?_⟩
  obtain ⟨l1, xs, y1, y2, y3, y4, y5⟩ := h3 e
  exact ⟨l1, xs, y1, y2, y3, y4, fun t D a1 a2 a3 => m _ _ (y5 t D a1 a2 a3)⟩
/-- [what a listener tells] -/
def sp_answer (P : Program) (w : World) (K : PySem.W.Frag) (mg : Str → Option Value) (base : Heap) (k : Nat) : Sp := fun vs H Q E => ∃ (a : Addr) (l : Lis) (line : Str) (th : V), vs = [.ref a, .ref l.ad, .str line, th] ∧ LisAt K H l ∧ (∃ dx fs, H a = some (.ins (NC K) dx fs) ∧ fs.lookup ("is_due" : Str) = none) ∧
  sp_is_due P w K mg base k vs H (fun v H1 => (v = .bl false ∧ ∀ D, H1 D = none → Q (.ref D) (upd H1 D (.lst []))) ∨
    (v = .bl true ∧ ∃ l1 f sp, l1.ad = l.ad ∧ LisAt K H1 l1 ∧ l1.wk = .ref f ∧ Act P w K mg base (k + 3) f sp ∧ Runs sp [.str line, th] H1 (fun v H2 => ∀ D, H2 D = none → Q (.ref D) (upd H2 D (.lst [v]))) (faultV K a l.ad line Q E))) (faultV K a l.ad line Q E)
theorem O_Net_answer (T : Tx K mg) (B : Tb K mg base) (k : Nat) : ∃ fd, F_Net_answer K (He.fAd K ("Net", some "answer")) fd ∧ FnOk P w K mg base (L2.CX P w) (k + 5) (He.fAd K ("Net", some "answer")) fd p_Net_answer (sp_answer P w K mg base k) := by
  obtain ⟨fd, F⟩ := T.f_Net_answer
  refine ⟨fd, F, F.ok sc_Net_answer (fun vs H Q E h => ?_) (fun cdv A outer s H vs Q E hr h => ?_)⟩
  · obtain ⟨a, l, line, th, rfl, _⟩ := h; rfl
  · obtain ⟨a, l, line, th, rfl, hl, ⟨dx, fs, ha, hfs⟩, q⟩ := h
    refine ⟨_, (pss_one (ps_try_bare pss_nil rfl rfl rfl ⟨rfl, by decide, .inl T.g_HearError⟩ (fun hd => L2H.passesAt_of rfl hd) (takes_of rfl rfl rfl rfl) (fun W pn xe tk _ => (pss_cons (ps_if (pt_not (pt_val (pe_methGS (k := k + 4) (pv 0) (M_Net_is_due_3 (P := P) (w := w) T B k) (hr.mono (by first | decide | omega)) (fun σ => passAt tk σ) (pa_cons (pv 1) (pa_cons (pv 2) (pa_cons (pv 3) pa_nil))))))
      (pss_one (ps_ret (pe_lst pa_nil)))
      pss_nil)
      (pss_cons (ps_set (i := 4) sc_Net_answer.nd rfl (Or.inl rfl) (pe_fldC (K := K) rfl (pv 1) T.cls_Listener T.n_Listener_work))
      (pss_one (ps_ret (pe_lst (pa_cons (pe_callVS (P := P) (w := w) (K := K) (mg := mg) (base := base) rfl rfl rfl rfl rfl (k := (k + 3)) (i := 4) (hr.mono (by first | decide | omega)) (fun σ => passAt tk σ) rfl (Or.inl rfl) (pa_cons (pv 2) (pa_cons (pv 3) pa_nil))) pa_nil)))))))
      (fun a cls d pn rz => (pss_cons (ps_if (pt_cmpR op_eq (pe_fldC (K := K) rfl (pv 0) T.cls_Net T.n_Net_policy) pe_str (nomark _))
      (pss_one (rz _))
      pss_nil)
      (pss_cons (ps_expr (pe_bmK (K := K) rfl PySem.F.plainAttrs_list PySem.F.slot_list_append PySem.F.type_list_append mt_append (pe_fldC (K := K) rfl (pv 0) T.cls_Net T.n_Net_faulty) (pa_cons (pe_tup (pa_cons (pe_fldC (K := K) rfl (pv 1) T.cls_Listener T.n_Listener_number) (pa_cons (pv 2) pa_nil))) pa_nil)))
      (pss_one (ps_ret (pe_lst pa_nil)))))))), ?_⟩
    simp only [ha, hfs, tCutE, false_and, exists_false, false_or, or_false, tRet, tRetN, tAndV, tOrV, tNotV, tChain, rI, rI0, rU, tC, tCB, tCons, tNil, tVar, tOp, tUn, tTest, tB, tAnd, tOr, tNot, tIf, tIfS, tSeq, tAsg, tDrop, tNext, gName, gTup_ref, gCons_cons, gNil_nil, and_assoc, tYes, wipe, rEq, rNe, scal_ss, scal_ii, scal_bb, scal_ns, scal_sn, scal_nn, scal_in, scal_ni, tLc_eq, tFor_eq, iList, iTup, iStr, iRng1, iRng2, iZip, iEnum, gSub, tSl, rSetL_ref, rCat_ref, rRep_ref, rJoin_ref, rSlL_ref, rSlS_ref, rMulS_ref, rIxL_ref, rIxT_ref, rLenK_ref, rAll_ref, rIn_ref, tLst, tTup, tPar, tPar3, tAug, tPart, tNoPart, tCall, List.getElem?_cons_zero, List.getElem?_cons_succ, List.set_cons_zero, List.set_cons_succ, List.map_cons, List.map_nil, List.append_nil, List.nil_append, List.cons_append, Option.some.injEq, exists_eq_left', exists_eq_left, exists_eq_right, exists_eq_right', exists_eq', V.int.injEq, V.str.injEq, V.bl.injEq, V.ref.injEq, List.cons.injEq, tM0, tM1, rNewStrs, sgn_eq, split_dot, split_sp, split_nl, dot_len, sp_len, nl_len, cxOf_K, L2.start, List.length_cons, List.length_nil, List.replicate_succ, List.replicate_zero, Nat.reduceSub, Nat.zero_add, and_true, true_and, and_self, exists_and_left, exists_const, Bool.false_eq_true, if_false, if_true, ite_true, ite_false, reduceIte, decide_eq_true_eq, reduceCtorEq, Nat.reduceAdd, Nat.reduceLT, tMseq, tMret, tNdef1, tThru, tCallV, gFldC, tFldC, sFldC, sFldAugC, tMeth, tMethX, tMethS, tMake, tCKw, sDPut, tDGet2, tVeI, tOst, tWhy, tXf, tListZip, tCallX, tCallXU, tCallV, tCallVS, tLam1, tLamD, tCallS, tCls, tClsD, cx_cells, cx_scope, cx_N, cx_prog, cx_w, cx_base, cx_mg, cx_qual, tLstRg, tRg1, tRg2, HO.ins.injEq, HO.lst.injEq, HO.tup.injEq, HO.dK.injEq, upd_same, upd_upd, tBM, tBM0, tyV_lst, isL_lst, rAppend_ref, rExtend_ref, rClear_ref, rAdd_int, rSub_int, li_len, ne_len, Nat.reduceLT, Nat.reduceLeDiff, lk_number, lk_pattern, lk_work, lk_rank, lk_once, lk_gate, lk_group, lk_muted, lk_gone, pt_once, pt_gate, pt_group, pt_muted, pt_gone, lk_known, lk_policy, lk_most, lk_depth, lk_locks, lk_waiting, lk_store, lk_faulty, pt_depth, pt_locks, pt_waiting]
    refine is_due_mono q (fun v H1 hv => ?_) (fun c d H1 hf => ?_)
    · rcases hv with ⟨rfl, h1⟩ | ⟨rfl, l1, f, sp, el, hl1, ew, ac, r⟩
      · exact ⟨_, rfl, ifP rfl ⟨Nat.zero_le _, h1⟩⟩
      · have h1 : H1 l1.ad = _ := hl1
        rw [el] at h1
        refine ⟨_, rfl, ifN (by simp) ?_⟩
        simp only [h1, tCutE, false_and, exists_false, false_or, or_false, tRet, tRetN, tAndV, tOrV, tNotV, tChain, rI, rI0, rU, tC, tCB, tCons, tNil, tVar, tOp, tUn, tTest, tB, tAnd, tOr, tNot, tIf, tIfS, tSeq, tAsg, tDrop, tNext, gName, gTup_ref, gCons_cons, gNil_nil, and_assoc, tYes, wipe, rEq, rNe, scal_ss, scal_ii, scal_bb, scal_ns, scal_sn, scal_nn, scal_in, scal_ni, tLc_eq, tFor_eq, iList, iTup, iStr, iRng1, iRng2, iZip, iEnum, gSub, tSl, rSetL_ref, rCat_ref, rRep_ref, rJoin_ref, rSlL_ref, rSlS_ref, rMulS_ref, rIxL_ref, rIxT_ref, rLenK_ref, rAll_ref, rIn_ref, tLst, tTup, tPar, tPar3, tAug, tPart, tNoPart, tCall, List.getElem?_cons_zero, List.getElem?_cons_succ, List.set_cons_zero, List.set_cons_succ, List.map_cons, List.map_nil, List.append_nil, List.nil_append, List.cons_append, Option.some.injEq, exists_eq_left', exists_eq_left, exists_eq_right, exists_eq_right', exists_eq', V.int.injEq, V.str.injEq, V.bl.injEq, V.ref.injEq, List.cons.injEq, tM0, tM1, rNewStrs, sgn_eq, split_dot, split_sp, split_nl, dot_len, sp_len, nl_len, cxOf_K, L2.start, List.length_cons, List.length_nil, List.replicate_succ, List.replicate_zero, Nat.reduceSub, Nat.zero_add, and_true, true_and, and_self, exists_and_left, exists_const, Bool.false_eq_true, if_false, if_true, ite_true, ite_false, reduceIte, decide_eq_true_eq, reduceCtorEq, Nat.reduceAdd, Nat.reduceLT, tMseq, tMret, tNdef1, tThru, tCallV, gFldC, tFldC, sFldC, sFldAugC, tMeth, tMethX, tMethS, tMake, tCKw, sDPut, tDGet2, tVeI, tOst, tWhy, tXf, tListZip, tCallX, tCallXU, tCallV, tCallVS, tLam1, tLamD, tCallS, tCls, tClsD, cx_cells, cx_scope, cx_N, cx_prog, cx_w, cx_base, cx_mg, cx_qual, tLstRg, tRg1, tRg2, HO.ins.injEq, HO.lst.injEq, HO.tup.injEq, HO.dK.injEq, upd_same, upd_upd, tBM, tBM0, tyV_lst, isL_lst, rAppend_ref, rExtend_ref, rClear_ref, rAdd_int, rSub_int, li_len, ne_len, Nat.reduceLT, Nat.reduceLeDiff, lk_number, lk_pattern, lk_work, lk_rank, lk_once, lk_gate, lk_group, lk_muted, lk_gone, pt_once, pt_gate, pt_group, pt_muted, pt_gone, lk_known, lk_policy, lk_most, lk_depth, lk_locks, lk_waiting, lk_store, lk_faulty, pt_depth, pt_locks, pt_waiting]
        refine ⟨f, ew, sp, ac, r _ _ (fun v H2 h => ⟨by decide, h⟩) (fun c d H1 hf => ?_)⟩
        obtain ⟨hx, N, hn, g1, g2⟩ := hf
        refine ⟨true, hx, fun _ a0 na => ?_, (fun z => by cases z)⟩
        simp only [hn, tCutE, false_and, exists_false, false_or, or_false, tRet, tRetN, tAndV, tOrV, tNotV, tChain, rI, rI0, rU, tC, tCB, tCons, tNil, tVar, tOp, tUn, tTest, tB, tAnd, tOr, tNot, tIf, tIfS, tSeq, tAsg, tDrop, tNext, gName, gTup_ref, gCons_cons, gNil_nil, and_assoc, tYes, wipe, rEq, rNe, scal_ss, scal_ii, scal_bb, scal_ns, scal_sn, scal_nn, scal_in, scal_ni, tLc_eq, tFor_eq, iList, iTup, iStr, iRng1, iRng2, iZip, iEnum, gSub, tSl, rSetL_ref, rCat_ref, rRep_ref, rJoin_ref, rSlL_ref, rSlS_ref, rMulS_ref, rIxL_ref, rIxT_ref, rLenK_ref, rAll_ref, rIn_ref, tLst, tTup, tPar, tPar3, tAug, tPart, tNoPart, tCall, List.getElem?_cons_zero, List.getElem?_cons_succ, List.set_cons_zero, List.set_cons_succ, List.map_cons, List.map_nil, List.append_nil, List.nil_append, List.cons_append, Option.some.injEq, exists_eq_left', exists_eq_left, exists_eq_right, exists_eq_right', exists_eq', V.int.injEq, V.str.injEq, V.bl.injEq, V.ref.injEq, List.cons.injEq, tM0, tM1, rNewStrs, sgn_eq, split_dot, split_sp, split_nl, dot_len, sp_len, nl_len, cxOf_K, L2.start, List.length_cons, List.length_nil, List.replicate_succ, List.replicate_zero, Nat.reduceSub, Nat.zero_add, and_true, true_and, and_self, exists_and_left, exists_const, Bool.false_eq_true, if_false, if_true, ite_true, ite_false, reduceIte, decide_eq_true_eq, reduceCtorEq, Nat.reduceAdd, Nat.reduceLT, tMseq, tMret, tNdef1, tThru, tCallV, gFldC, tFldC, sFldC, sFldAugC, tMeth, tMethX, tMethS, tMake, tCKw, sDPut, tDGet2, tVeI, tOst, tWhy, tXf, tListZip, tCallX, tCallXU, tCallV, tCallVS, tLam1, tLamD, tCallS, tCls, tClsD, cx_cells, cx_scope, cx_N, cx_prog, cx_w, cx_base, cx_mg, cx_qual, tLstRg, tRg1, tRg2, HO.ins.injEq, HO.lst.injEq, HO.tup.injEq, HO.dK.injEq, upd_same, upd_upd, tBM, tBM0, tyV_lst, isL_lst, rAppend_ref, rExtend_ref, rClear_ref, rAdd_int, rSub_int, li_len, ne_len, Nat.reduceLT, Nat.reduceLeDiff, lk_number, lk_pattern, lk_work, lk_rank, lk_once, lk_gate, lk_group, lk_muted, lk_gone, pt_once, pt_gate, pt_group, pt_muted, pt_gone, lk_known, lk_policy, lk_most, lk_depth, lk_locks, lk_waiting, lk_store, lk_faulty, pt_depth, pt_locks, pt_waiting]
        by_cases hp : N.pol = "stop"
        · exact ifP hp (g1 hp)
        obtain ⟨l2, xs, e2, hl2, hfl, hlen, g3⟩ := g2 hp
        have h2 : _ = _ := hl2
        rw [e2] at h2
        refine ifN hp ?_
        simp only [h2, hfl, tCutE, false_and, exists_false, false_or, or_false, tRet, tRetN, tAndV, tOrV, tNotV, tChain, rI, rI0, rU, tC, tCB, tCons, tNil, tVar, tOp, tUn, tTest, tB, tAnd, tOr, tNot, tIf, tIfS, tSeq, tAsg, tDrop, tNext, gName, gTup_ref, gCons_cons, gNil_nil, and_assoc, tYes, wipe, rEq, rNe, scal_ss, scal_ii, scal_bb, scal_ns, scal_sn, scal_nn, scal_in, scal_ni, tLc_eq, tFor_eq, iList, iTup, iStr, iRng1, iRng2, iZip, iEnum, gSub, tSl, rSetL_ref, rCat_ref, rRep_ref, rJoin_ref, rSlL_ref, rSlS_ref, rMulS_ref, rIxL_ref, rIxT_ref, rLenK_ref, rAll_ref, rIn_ref, tLst, tTup, tPar, tPar3, tAug, tPart, tNoPart, tCall, List.getElem?_cons_zero, List.getElem?_cons_succ, List.set_cons_zero, List.set_cons_succ, List.map_cons, List.map_nil, List.append_nil, List.nil_append, List.cons_append, Option.some.injEq, exists_eq_left', exists_eq_left, exists_eq_right, exists_eq_right', exists_eq', V.int.injEq, V.str.injEq, V.bl.injEq, V.ref.injEq, List.cons.injEq, tM0, tM1, rNewStrs, sgn_eq, split_dot, split_sp, split_nl, dot_len, sp_len, nl_len, cxOf_K, L2.start, List.length_cons, List.length_nil, List.replicate_succ, List.replicate_zero, Nat.reduceSub, Nat.zero_add, and_true, true_and, and_self, exists_and_left, exists_const, Bool.false_eq_true, if_false, if_true, ite_true, ite_false, reduceIte, decide_eq_true_eq, reduceCtorEq, Nat.reduceAdd, Nat.reduceLT, tMseq, tMret, tNdef1, tThru, tCallV, gFldC, tFldC, sFldC, sFldAugC, tMeth, tMethX, tMethS, tMake, tCKw, sDPut, tDGet2, tVeI, tOst, tWhy, tXf, tListZip, tCallX, tCallXU, tCallV, tCallVS, tLam1, tLamD, tCallS, tCls, tClsD, cx_cells, cx_scope, cx_N, cx_prog, cx_w, cx_base, cx_mg, cx_qual, tLstRg, tRg1, tRg2, HO.ins.injEq, HO.lst.injEq, HO.tup.injEq, HO.dK.injEq, upd_same, upd_upd, tBM, tBM0, tyV_lst, isL_lst, rAppend_ref, rExtend_ref, rClear_ref, rAdd_int, rSub_int, li_len, ne_len, Nat.reduceLT, Nat.reduceLeDiff, lk_number, lk_pattern, lk_work, lk_rank, lk_once, lk_gate, lk_group, lk_muted, lk_gone, pt_once, pt_gate, pt_group, pt_muted, pt_gone, lk_known, lk_policy, lk_most, lk_depth, lk_locks, lk_waiting, lk_store, lk_faulty, pt_depth, pt_locks, pt_waiting]
        refine ⟨by decide, fun t nt => ⟨_, by rw [upd_ne (ne_of_none hfl nt)]; exact hfl, smallLt hlen, Nat.zero_le _, fun D nD => ?_⟩⟩
        have nDf : D ≠ N.fl := fun z => by rw [z, upd_same] at nD; cases nD
        rw [upd_ne nDf] at nD
        have nDt : t ≠ D := fun z => by rw [← z, upd_same] at nD; cases nD
        rw [upd_ne nDt.symm] at nD
        exact g3 t D nt nD nDt
    · obtain ⟨hx, N, hn, g1, g2⟩ := hf
      refine ⟨true, hx, fun _ a0 na => ?_, (fun z => by cases z)⟩
      simp only [hn, tCutE, false_and, exists_false, false_or, or_false, tRet, tRetN, tAndV, tOrV, tNotV, tChain, rI, rI0, rU, tC, tCB, tCons, tNil, tVar, tOp, tUn, tTest, tB, tAnd, tOr, tNot, tIf, tIfS, tSeq, tAsg, tDrop, tNext, gName, gTup_ref, gCons_cons, gNil_nil, and_assoc, tYes, wipe, rEq, rNe, scal_ss, scal_ii, scal_bb, scal_ns, scal_sn, scal_nn, scal_in, scal_ni, tLc_eq, tFor_eq, iList, iTup, iStr, iRng1, iRng2, iZip, iEnum, gSub, tSl, rSetL_ref, rCat_ref, rRep_ref, rJoin_ref, rSlL_ref, rSlS_ref, rMulS_ref, rIxL_ref, rIxT_ref, rLenK_ref, rAll_ref, rIn_ref, tLst, tTup, tPar, tPar3, tAug, tPart, tNoPart, tCall, List.getElem?_cons_zero, List.getElem?_cons_succ, List.set_cons_zero, List.set_cons_succ, List.map_cons, List.map_nil, List.append_nil, List.nil_append, List.cons_append, Option.some.injEq, exists_eq_left', exists_eq_left, exists_eq_right, exists_eq_right', exists_eq', V.int.injEq, V.str.injEq, V.bl.injEq, V.ref.injEq, List.cons.injEq, tM0, tM1, rNewStrs, sgn_eq, split_dot, split_sp, split_nl, dot_len, sp_len, nl_len, cxOf_K, L2.start, List.length_cons, List.length_nil, List.replicate_succ, List.replicate_zero, Nat.reduceSub, Nat.zero_add, and_true, true_and, and_self, exists_and_left, exists_const, Bool.false_eq_true, if_false, if_true, ite_true, ite_false, reduceIte, decide_eq_true_eq, reduceCtorEq, Nat.reduceAdd, Nat.reduceLT, tMseq, tMret, tNdef1, tThru, tCallV, gFldC, tFldC, sFldC, sFldAugC, tMeth, tMethX, tMethS, tMake, tCKw, sDPut, tDGet2, tVeI, tOst, tWhy, tXf, tListZip, tCallX, tCallXU, tCallV, tCallVS, tLam1, tLamD, tCallS, tCls, tClsD, cx_cells, cx_scope, cx_N, cx_prog, cx_w, cx_base, cx_mg, cx_qual, tLstRg, tRg1, tRg2, HO.ins.injEq, HO.lst.injEq, HO.tup.injEq, HO.dK.injEq, upd_same, upd_upd, tBM, tBM0, tyV_lst, isL_lst, rAppend_ref, rExtend_ref, rClear_ref, rAdd_int, rSub_int, li_len, ne_len, Nat.reduceLT, Nat.reduceLeDiff, lk_number, lk_pattern, lk_work, lk_rank, lk_once, lk_gate, lk_group, lk_muted, lk_gone, pt_once, pt_gate, pt_group, pt_muted, pt_gone, lk_known, lk_policy, lk_most, lk_depth, lk_locks, lk_waiting, lk_store, lk_faulty, pt_depth, pt_locks, pt_waiting]
      by_cases hp : N.pol = "stop"
      · exact ifP hp (g1 hp)
      obtain ⟨l2, xs, e2, hl2, hfl, hlen, g3⟩ := g2 hp
      have h2 : _ = _ := hl2
      rw [e2] at h2
      refine ifN hp ?_
      simp only [h2, hfl, tCutE, false_and, exists_false, false_or, or_false, tRet, tRetN, tAndV, tOrV, tNotV, tChain, rI, rI0, rU, tC, tCB, tCons, tNil, tVar, tOp, tUn, tTest, tB, tAnd, tOr, tNot, tIf, tIfS, tSeq, tAsg, tDrop, tNext, gName, gTup_ref, gCons_cons, gNil_nil, and_assoc, tYes, wipe, rEq, rNe, scal_ss, scal_ii, scal_bb, scal_ns, scal_sn, scal_nn, scal_in, scal_ni, tLc_eq, tFor_eq, iList, iTup, iStr, iRng1, iRng2, iZip, iEnum, gSub, tSl, rSetL_ref, rCat_ref, rRep_ref, rJoin_ref, rSlL_ref, rSlS_ref, rMulS_ref, rIxL_ref, rIxT_ref, rLenK_ref, rAll_ref, rIn_ref, tLst, tTup, tPar, tPar3, tAug, tPart, tNoPart, tCall, List.getElem?_cons_zero, List.getElem?_cons_succ, List.set_cons_zero, List.set_cons_succ, List.map_cons, List.map_nil, List.append_nil, List.nil_append, List.cons_append, Option.some.injEq, exists_eq_left', exists_eq_left, exists_eq_right, exists_eq_right', exists_eq', V.int.injEq, V.str.injEq, V.bl.injEq, V.ref.injEq, List.cons.injEq, tM0, tM1, rNewStrs, sgn_eq, split_dot, split_sp, split_nl, dot_len, sp_len, nl_len, cxOf_K, L2.start, List.length_cons, List.length_nil, List.replicate_succ, List.replicate_zero, Nat.reduceSub, Nat.zero_add, and_true, true_and, and_self, exists_and_left, exists_const, Bool.false_eq_true, if_false, if_true, ite_true, ite_false, reduceIte, decide_eq_true_eq, reduceCtorEq, Nat.reduceAdd, Nat.reduceLT, tMseq, tMret, tNdef1, tThru, tCallV, gFldC, tFldC, sFldC, sFldAugC, tMeth, tMethX, tMethS, tMake, tCKw, sDPut, tDGet2, tVeI, tOst, tWhy, tXf, tListZip, tCallX, tCallXU, tCallV, tCallVS, tLam1, tLamD, tCallS, tCls, tClsD, cx_cells, cx_scope, cx_N, cx_prog, cx_w, cx_base, cx_mg, cx_qual, tLstRg, tRg1, tRg2, HO.ins.injEq, HO.lst.injEq, HO.tup.injEq, HO.dK.injEq, upd_same, upd_upd, tBM, tBM0, tyV_lst, isL_lst, rAppend_ref, rExtend_ref, rClear_ref, rAdd_int, rSub_int, li_len, ne_len, Nat.reduceLT, Nat.reduceLeDiff, lk_number, lk_pattern, lk_work, lk_rank, lk_once, lk_gate, lk_group, lk_muted, lk_gone, pt_once, pt_gate, pt_group, pt_muted, pt_gone, lk_known, lk_policy, lk_most, lk_depth, lk_locks, lk_waiting, lk_store, lk_faulty, pt_depth, pt_locks, pt_waiting]
      refine ⟨by decide, fun t nt => ⟨_, by rw [upd_ne (ne_of_none hfl nt)]; exact hfl, smallLt hlen, Nat.zero_le _, fun D nD => ?_⟩⟩
      have nDf : D ≠ N.fl := fun z => by rw [z, upd_same] at nD; cases nD
      rw [upd_ne nDf] at nD
      have nDt : t ≠ D := fun z => by rw [← z, upd_same] at nD; cases nD
      rw [upd_ne nDt.symm] at nD
      exact g3 t D nt nD nDt
theorem M_Net_answer_3 (T : Tx K mg) (B : Tb K mg base) (k : Nat) : MethG P w K mg base (L2.CX P w) (k + 5) (He.ga K "Net") "answer" p_Net_answer ([]) (sp_answer P w K mg base k) := by
  obtain ⟨fd, F, ok⟩ := O_Net_answer T B k
  
  exact ⟨_, fd, [], T.cls_Net, T.m_Net_answer, ok, .nil, F.bindsN fun _ _ _ _ _ _ us hl => match us, hl with | [_, _, _, _], _ => rfl⟩
theorem answer_mono {k : Nat} {vs : List V} {H : Hp} {Q Q' : VK} {E E' : XK} (h : sp_answer P w K mg base k vs H Q E) (m : ∀ v H', Q v H' → Q' v H') (n : ∀ c d H', E c d H' → E' c d H') : sp_answer P w K mg base k vs H Q' E' := by
  obtain ⟨a, l, line, th, rfl, hl, hx, q⟩ := h
  refine ⟨a, l, line, th, rfl, hl, hx, is_due_mono q (fun v H1 hv => ?_) (faultV_mono m n)⟩
  rcases hv with ⟨e, h1⟩ | ⟨e, l1, f, sp, el, hl1, ew, ac, r⟩
  · exact .inl ⟨e, fun D hD => m _ _ (h1 D hD)⟩
  · exact .inr ⟨e, l1, f, sp, el, hl1, ew, ac, r.mono (fun v H2 h D hD => m _ _ (h D hD)) (faultV_mono m n)⟩
/-! ### what is kept -/
def putS (q : List (Str × Addr × List V)) (z : Str) (p : Addr) (xs : List V) : List (Str × Addr × List V) :=
  if (q.any fun x => decide (x.1 = z)) = true then q.map (fun x => if x.1 = z then (x.1, p, xs) else x) else q ++ [(z, p, xs)]
def getS (q : List (Str × Addr × List V)) (z : Str) : List V := ((q.find? fun x => decide (x.1 = z)).map (·.2.2)).getD []
theorem stV_put (q : List (Str × Addr × List V)) (z : Str) (p : Addr) (xs : List V) : stV (putS q z p xs) = putK (stV q) (.inr z) (.ref p) := by
  have e : ((stV q).any fun kv => decide (kv.1 = (Sum.inr z : Key))) = q.any fun x => decide (x.1 = z) := by
    unfold stV
    rw [List.any_map]
    exact congrArg (List.any q) (funext fun x => by simp)
  unfold putS putK
  rw [e]
  split
  · unfold stV
    rw [List.map_map, List.map_map]
    refine List.map_congr_left fun x _ => ?_
    by_cases h : x.1 = z <;> simp [h]
  · unfold stV
    rw [List.map_append]; rfl
theorem stV_get (q : List (Str × Addr × List V)) (z : Str) : valV (stV q) (.inr z) = (q.find? fun x => decide (x.1 = z)).map fun x => V.ref x.2.1 := by
  unfold valV stV
  rw [List.find?_map]
  have e : ((fun kv : Key × V => decide (kv.1 = (Sum.inr z : Key))) ∘ fun x : Str × Addr × List V => ((Sum.inr x.1 : Key), V.ref x.2.1)) = fun x => decide (x.1 = z) := funext fun x => by simp
  rw [e]
  cases q.find? fun x => decide (x.1 = z) <;> rfl
theorem putS_mem {q : List (Str × Addr × List V)} {z : Str} {p : Addr} {xs : List V} {x : Str × Addr × List V} (h : x ∈ putS q z p xs) : x ∈ q ∨ x = (z, p, xs) := by
  unfold putS at h
  split at h
  · obtain ⟨y, hy, e⟩ := List.mem_map.mp h
    by_cases e2 : y.1 = z
    · rw [if_pos e2, e2] at e; exact .inr e.symm
    · rw [if_neg e2] at e; exact .inl (e ▸ hy)
  · rcases List.mem_append.mp h with h | h
    · exact .inl h
    · exact .inr (List.mem_singleton.mp h)
theorem putS_len {q : List (Str × Addr × List V)} {z : Str} {p : Addr} {xs : List V} : (putS q z p xs).length ≤ q.length + 1 := by
  unfold putS
  split
  · rw [List.length_map]; exact Nat.le_succ _
  · rw [List.length_append]; exact Nat.le_refl _
theorem cut_end (ys : List V) {m : Int} (h : 0 < m) : cutV ys (some (0 - m)) none = ys.drop (ys.length - m.toNat) := by
  unfold cutV
  have e1 : HT.sIx ys.length 0 (some (0 - m)) = ys.length - m.toNat := by
    unfold HT.sIx
    simp only
    split <;> omega
  have e2 : HT.sIx ys.length ys.length none = ys.length := rfl
  rw [e1, e2]
  exact List.take_of_length_le (by rw [List.length_drop]; omega)
/-- the net behind the begin of a round that tells th -/
structure Kept (K : PySem.W.Frag) (a : Addr) (N : NetS) (line : Str) (th : V) (H H1 : Hp) (N1 : NetS) : Prop where
  fw : Fwd K (fun b => b = N.st ∧ 0 < N.most) H H1
  net : NetAt K H1 a N1
  no : N.most ≤ 0 → N1 = N
  yes : 0 < N.most → ∃ p, H p = none ∧ N1 = { N with sts := putS N.sts line p (cutV (getS N.sts line ++ [th]) (some (0 - N.most)) none) }
/-! ### tell_round -/
/-- new tuples (number, thing) -/
def pairV (q : Int × V) : List V := [.int q.1, q.2]
/-- a round: Pv i acc: behind i listeners, acc told; Z: lists of the round's own -/
structure Round (P : Program) (w : World) (K : PySem.W.Frag) (mg : Str → Option Value) (base : Heap) (k : Nat) (a : Addr) (hs : List Lis) (line : Str) (th : V) (Z : Addr → Prop) (Pv : Nat → List (Int × V) → Hp → Prop) (E : XK) : Prop where
  fr : ∀ i acc H1 H2, Pv i acc H1 → Fwd K Z H1 H2 → Pv i acc H2
  tab : ∀ i acc H1, Pv i acc H1 → Tab K H1
  net : ∀ i acc H1, Pv i acc H1 → ∃ dx fs, H1 a = some (.ins (NC K) dx fs) ∧ fs.lookup ("answer" : Str) = none
  step : ∀ i l acc H1, hs[i]? = some l → Pv i acc H1 → sp_answer P w K mg base k [.ref a, .ref l.ad, .str line, th] H1 (fun r H2 => ∃ (D : Addr) (vs : List V) (l2 : Lis), r = .ref D ∧ H2 D = some (.lst vs) ∧ vs.length ≤ 1 ∧ ¬ Z D ∧ (∀ b o, Z b → H1 b = some o → H2 b = some o) ∧ (∀ t ys, H1 t = some (.tup ys) → H2 t = some (.tup ys)) ∧
    l2.ad = l.ad ∧ l2.n = l.n ∧ LisAt K H2 l2 ∧ Pv (i + 1) (acc ++ vs.map fun v => (l.n, v)) H2) E
def sp_tell_round (P : Program) (w : World) (K : PySem.W.Frag) (mg : Str → Option Value) (base : Heap) (k : Nat) : Sp := fun vs H Q E => ∃ (a : Addr) (N : NetS) (line : Str) (th : V), vs = [.ref a, .str line, th] ∧ NetAt K H a N ∧ Tab K H ∧ line.length ≤ 1000 ∧ N.sts.length < 1000 ∧
  ∀ Z : Addr → Prop, (∀ b, Z b → H b = none) → ∃ Pv, Round P w K mg base k a (hearM N.ls line) line th Z Pv E ∧ (∀ H1 N1, Kept K a N line th H H1 N1 → (∀ b, Z b → H1 b ≠ none ∧ ¬ Foot a N1 b) → Pv 0 [] H1) ∧
    ∀ acc H1 ts D, Pv (hearM N.ls line).length acc H1 → Z D → H1 D = some (.lst (ts.map V.ref)) → TupsAt H1 ts (acc.map pairV) → Q (.ref D) H1
theorem O_Net_tell_round (T : Tx K mg) (B : Tb K mg base) (k : Nat) : ∃ fd, F_Net_tell_round K (He.fAd K ("Net", some "tell_round")) fd ∧ FnOk P w K mg base (L2.CX P w) (k + 6) (He.fAd K ("Net", some "tell_round")) fd p_Net_tell_round (sp_tell_round P w K mg base k) := by
  obtain ⟨fd, F⟩ := T.f_Net_tell_round
  refine ⟨fd, F, F.ok sc_Net_tell_round (fun vs H Q E h => ?_) (fun cdv A outer s H vs Q E hr h => ?_)⟩
  · obtain ⟨a, N, line, th, rfl, _⟩ := h; rfl
  · obtain ⟨a, N, line, th, rfl, hN, hT, hl, hsl, q⟩ := h
    refine ⟨_, (pss_cutE (ps_if (pt_cmpR op_gt (pe_fldC (K := K) rfl (pv 0) T.cls_Net T.n_Net_most) pe_int (nomark _))
      (pss_one (ps_dput (hu_of hr) (pe_fldC (K := K) rfl (pv 0) T.cls_Net T.n_Net_store) (pv 1) (pe_slice (sl_listK (K := K) rfl) (pe_op op_cat (pe_dget2 (Nat.lt_of_le_of_lt (Nat.add_le_add_left (by decide : 1 ≤ 64) _) hr.units) (pe_fldC (K := K) rfl (pv 0) T.cls_Net T.n_Net_store) (pv 1) (pe_lst pa_nil) ⟨rfl, rfl, rfl, rfl⟩) (pe_lst (pa_cons (pv 2) pa_nil))) (po_some (pe_op op_sub pe_int (pe_fldC (K := K) rfl (pv 0) T.cls_Net T.n_Net_most))) po_none) rfl))
      pss_nil)
      (pss_cons (ps_set (i := 3) sc_Net_tell_round.nd rfl (Or.inl rfl) (pe_lst pa_nil))
      (pss_cons (ps_for (passes_of rfl) rfl (pi_listK (K := K) rfl (pe_methG (pv 0) (M_Net_hearing_1 T B) (hr.mono (by first | decide | omega)) pass0 (pa_cons (pv 1) pa_nil))) (pg_name (i := 4) sc_Net_tell_round.nd rfl (Or.inr rfl))
      (pss_one (ps_expr (pe_bmK (K := K) rfl PySem.F.plainAttrs_list PySem.F.slot_list_extend PySem.F.type_list_extend mt_extend (pv 3) (pa_cons (pe_lc (own := [("told", 5)]) (g := (gName 5)) (tt := tYes) rfl sc_Net_tell_round.nd (pi_listK (K := K) rfl (pe_methG (pv 0) (M_Net_answer_3 T B k) (hr.mono (by first | decide | omega)) (passes_call (takes_of rfl rfl rfl rfl) (fun _ _ _ _ h => h)) (pa_cons (pv 4) (pa_cons (pv 1) (pa_cons (pv 2) pa_nil))))) (blkOk_by (by kernel_rfl)) (fun _ _ _ _ _ => (pg_name (i := 5) sc_Net_tell_round.nd rfl (Or.inl rfl))) (fun _ _ _ _ _ => pts_nil) (fun _ _ _ _ _ => (pe_tup (pa_cons (pe_fldC (K := K) rfl (pv 4) T.cls_Listener T.n_Listener_number) (pa_cons (pv 5) pa_nil))))) pa_nil)))))
      (pss_one (ps_ret (pv 3)))))), ?_⟩
    simp only [hN.net, tCutE, false_and, exists_false, false_or, or_false, tRet, tRetN, tAndV, tOrV, tNotV, tChain, rI, rI0, rU, tC, tCB, tCons, tNil, tVar, tOp, tUn, tTest, tB, tAnd, tOr, tNot, tIf, tIfS, tSeq, tAsg, tDrop, tNext, gName, gTup_ref, gCons_cons, gNil_nil, and_assoc, tYes, wipe, rEq, rNe, scal_ss, scal_ii, scal_bb, scal_ns, scal_sn, scal_nn, scal_in, scal_ni, tLc_eq, tFor_eq, iList, iTup, iStr, iRng1, iRng2, iZip, iEnum, gSub, tSl, rSetL_ref, rCat_ref, rRep_ref, rJoin_ref, rSlL_ref, rSlS_ref, rMulS_ref, rIxL_ref, rIxT_ref, rLenK_ref, rAll_ref, rIn_ref, tLst, tTup, tPar, tPar3, tAug, tPart, tNoPart, tCall, List.getElem?_cons_zero, List.getElem?_cons_succ, List.set_cons_zero, List.set_cons_succ, List.map_cons, List.map_nil, List.append_nil, List.nil_append, List.cons_append, Option.some.injEq, exists_eq_left', exists_eq_left, exists_eq_right, exists_eq_right', exists_eq', V.int.injEq, V.str.injEq, V.bl.injEq, V.ref.injEq, List.cons.injEq, tM0, tM1, rNewStrs, sgn_eq, split_dot, split_sp, split_nl, dot_len, sp_len, nl_len, cxOf_K, L2.start, List.length_cons, List.length_nil, List.replicate_succ, List.replicate_zero, Nat.reduceSub, Nat.zero_add, and_true, true_and, and_self, exists_and_left, exists_const, Bool.false_eq_true, if_false, if_true, ite_true, ite_false, reduceIte, decide_eq_true_eq, reduceCtorEq, Nat.reduceAdd, Nat.reduceLT, tMseq, tMret, tNdef1, tThru, tCallV, gFldC, tFldC, sFldC, sFldAugC, tMeth, tMethX, tMethS, tMake, tCKw, sDPut, tDGet2, tVeI, tOst, tWhy, tXf, tListZip, tCallX, tCallXU, tCallV, tCallVS, tLam1, tLamD, tCallS, tCls, tClsD, cx_cells, cx_scope, cx_N, cx_prog, cx_w, cx_base, cx_mg, cx_qual, tLstRg, tRg1, tRg2, HO.ins.injEq, HO.lst.injEq, HO.tup.injEq, HO.dK.injEq, upd_same, upd_upd, tBM, tBM0, tyV_lst, isL_lst, rAppend_ref, rExtend_ref, rClear_ref, rAdd_int, rSub_int, li_len, ne_len, Nat.reduceLT, Nat.reduceLeDiff, lk_number, lk_pattern, lk_work, lk_rank, lk_once, lk_gate, lk_group, lk_muted, lk_gone, pt_once, pt_gate, pt_group, pt_muted, pt_gone, lk_known, lk_policy, lk_most, lk_depth, lk_locks, lk_waiting, lk_store, lk_faulty, pt_depth, pt_locks, pt_waiting]
    obtain ⟨R, hR⟩ : ∃ R : L2.St → Hp → Prop, ∀ σ H', R σ H' ↔ σ = [some (V.ref a), some (V.str line), some th, none, none, none] ∧ ∃ N1, Kept K a N line th H H' N1 := ⟨_, fun _ _ => Iff.rfl⟩
    refine ⟨R, ?_, fun σ H0 hR0 => ?_⟩
    · by_cases hm : 0 < N.most
      rotate_left
      · exact ifN (by omega) ((hR _ _).mpr ⟨rfl, N, .refl hT, hN, fun _ => rfl, fun z => absurd z hm⟩)
      refine ifP (by omega) ?_
      refine ⟨.inl ⟨_, .inl hN.st⟩, Nat.zero_le _, fun p0 np0 => ?_⟩
      obtain ⟨sa, ha0⟩ := newF (H := H) (o := .lst []) rfl np0
      generalize upd H p0 _ = Ha at sa ha0 ⊢
      refine ⟨_, .k (k := .inr line) (sa _ _ hN.st), by decide, fun p1 np1 => ?_⟩
      obtain ⟨sb, hb1⟩ := newF (H := Ha) (o := .lst [th]) rfl np1
      generalize upd Ha p1 _ = Hb at sb hb1 ⊢
      obtain ⟨g, eg, hg, hgl⟩ : ∃ g, (valV (stV N.sts) (.inr line)).getD (.ref p0) = .ref g ∧ Hb g = some (.lst (getS N.sts line)) ∧ (getS N.sts line).length ≤ 1000 := by
        rw [stV_get]
        unfold getS
        cases e : N.sts.find? fun x => decide (x.1 = line) with
        | none => exact ⟨p0, rfl, sb _ _ ha0, Nat.zero_le _⟩
        | some x =>
          have hx := hN.ss x (List.mem_of_find?_eq_some e)
          exact ⟨x.2.1, rfl, sb _ _ (sa _ _ hx.1), hx.2.1⟩
      rw [eg, rCat_ref]
      refine ⟨_, _, hg, hb1, small (by simp; omega), fun p2 np2 => ?_⟩
      obtain ⟨sc, hc2⟩ := newF (H := Hb) (o := .lst (getS N.sts line ++ [th])) rfl np2
      generalize upd Hb p2 _ = Hc at sc hc2 ⊢
      have s3 : Same H Hc := (sa.trans sb).trans sc
      refine ⟨_, _, s3 _ _ hN.net, _, lk_most, _, rfl, ?_⟩
      rw [rSlL_ref]
      refine ⟨_, .of hc2, fun p3 np3 => ?_⟩
      obtain ⟨sd, hd3⟩ := newF (H := Hc) (o := .lst (cutV (getS N.sts line ++ [th]) (some (0 - N.most)) none)) rfl np3
      generalize upd Hc p3 _ = Hd at sd hd3 ⊢
      have s4 : Same H Hd := s3.trans sd
      have N4 := hN.same s4
      refine ⟨_, _, N4.net, _, lk_store, _, rfl, _, .k (k := .inr line) N4.st (Nat.lt_of_le_of_lt (Nat.le_of_lt (by unfold stV; rw [List.length_map]; exact hsl)) (by decide)), (hR _ _).mpr ⟨rfl, { N with sts := putS N.sts line p3 (cutV (getS N.sts line ++ [th]) (some (0 - N.most)) none) }, ?_, ?_, fun z => absurd hm (by omega), fun _ => ⟨p3, s3.free np3, rfl⟩⟩⟩
      · exact (Fw.of_same s4 hT).put N4.st (fun _ z => by cases z) (fun z => z) (.inl ⟨rfl, hm⟩)
      · have k : ∀ b o, Hd b = some o → (∀ kv, o ≠ .dK kv) → upd Hd N.st (.dK (putK (stV N.sts) (.inr line) (V.ref p3))) b = some o := fun b o h n => by rw [upd_ne (fun z => by rw [z, N4.st] at h; exact n _ (Option.some.inj h).symm)]; exact h
        refine ⟨k _ _ N4.net (fun _ z => by cases z), k _ _ N4.kn (fun _ z => by cases z), k _ _ N4.wt (fun _ z => by cases z), ?_, k _ _ N4.fl (fun _ z => by cases z), N4.kw, N4.kf, N4.wf, fun l hl => ⟨k _ _ (N4.li l hl).1 (fun _ z => by cases z), (N4.li l hl).2⟩, N4.nd, N4.ac, N4.few, N4.mo, Nat.le_trans putS_len hsl, fun x hx => ?_⟩
        · rw [stV_put]; exact upd_same
        · rcases putS_mem hx with hx | rfl
          · obtain ⟨y1, y2, y3⟩ := N4.ss x hx
            exact ⟨k _ _ y1 (fun _ z => by cases z), y2, y3⟩
          · refine ⟨k _ _ hd3 (fun _ z => by cases z), ?_, ?_, ?_, ?_⟩
            · show (cutV (getS N.sts line ++ [th]) (some (0 - N.most)) none).length ≤ 1000
              have := hN.mo
              rw [cut_end _ hm, List.length_drop]; omega
            · exact (ne_of_none (s3 _ _ hN.kn) np3).symm
            · exact (ne_of_none (s3 _ _ hN.wt) np3).symm
            · exact (ne_of_none (s3 _ _ hN.fl) np3).symm
    obtain ⟨rfl, N1, kp⟩ := (hR _ _).mp hR0
    clear hR hR0
    have hK1 : N1.ls = N.ls := by
      by_cases hm : 0 < N.most
      · obtain ⟨p, _, e⟩ := kp.yes hm; rw [e]
      · rw [kp.no (by omega)]
    have hN0 := kp.net
    have hT0 : Tab K H0 := kp.fw.tab
    simp only [hN0.net, tCutE, false_and, exists_false, false_or, or_false, tRet, tRetN, tAndV, tOrV, tNotV, tChain, rI, rI0, rU, tC, tCB, tCons, tNil, tVar, tOp, tUn, tTest, tB, tAnd, tOr, tNot, tIf, tIfS, tSeq, tAsg, tDrop, tNext, gName, gTup_ref, gCons_cons, gNil_nil, and_assoc, tYes, wipe, rEq, rNe, scal_ss, scal_ii, scal_bb, scal_ns, scal_sn, scal_nn, scal_in, scal_ni, tLc_eq, tFor_eq, iList, iTup, iStr, iRng1, iRng2, iZip, iEnum, gSub, tSl, rSetL_ref, rCat_ref, rRep_ref, rJoin_ref, rSlL_ref, rSlS_ref, rMulS_ref, rIxL_ref, rIxT_ref, rLenK_ref, rAll_ref, rIn_ref, tLst, tTup, tPar, tPar3, tAug, tPart, tNoPart, tCall, List.getElem?_cons_zero, List.getElem?_cons_succ, List.set_cons_zero, List.set_cons_succ, List.map_cons, List.map_nil, List.append_nil, List.nil_append, List.cons_append, Option.some.injEq, exists_eq_left', exists_eq_left, exists_eq_right, exists_eq_right', exists_eq', V.int.injEq, V.str.injEq, V.bl.injEq, V.ref.injEq, List.cons.injEq, tM0, tM1, rNewStrs, sgn_eq, split_dot, split_sp, split_nl, dot_len, sp_len, nl_len, cxOf_K, L2.start, List.length_cons, List.length_nil, List.replicate_succ, List.replicate_zero, Nat.reduceSub, Nat.zero_add, and_true, true_and, and_self, exists_and_left, exists_const, Bool.false_eq_true, if_false, if_true, ite_true, ite_false, reduceIte, decide_eq_true_eq, reduceCtorEq, Nat.reduceAdd, Nat.reduceLT, tMseq, tMret, tNdef1, tThru, tCallV, gFldC, tFldC, sFldC, sFldAugC, tMeth, tMethX, tMethS, tMake, tCKw, sDPut, tDGet2, tVeI, tOst, tWhy, tXf, tListZip, tCallX, tCallXU, tCallV, tCallVS, tLam1, tLamD, tCallS, tCls, tClsD, cx_cells, cx_scope, cx_N, cx_prog, cx_w, cx_base, cx_mg, cx_qual, tLstRg, tRg1, tRg2, HO.ins.injEq, HO.lst.injEq, HO.tup.injEq, HO.dK.injEq, upd_same, upd_upd, tBM, tBM0, tyV_lst, isL_lst, rAppend_ref, rExtend_ref, rClear_ref, rAdd_int, rSub_int, li_len, ne_len, Nat.reduceLT, Nat.reduceLeDiff, lk_number, lk_pattern, lk_work, lk_rank, lk_once, lk_gate, lk_group, lk_muted, lk_gone, pt_once, pt_gate, pt_group, pt_muted, pt_gone, lk_known, lk_policy, lk_most, lk_depth, lk_locks, lk_waiting, lk_store, lk_faulty, pt_depth, pt_locks, pt_waiting]
    refine ⟨Nat.zero_le _, fun D0 nD => ?_⟩
    have s0 : Same H0 (upd H0 D0 (.lst [])) := same_put (Same.refl _) nD
    have N0 := hN0.same s0
    have T0 : Tab K _ := hT0.ext s0
    refine ⟨_, _, N0.net, rfl, a, N1, line, rfl, N0, T0, hl, fun H1 p w1 np hp => ⟨_, rfl, ⟨_, .of hp⟩, ?_⟩⟩
    rw [hK1] at hp
    have nZ : ∀ b, (b = D0 ∨ b = p) → H0 b = none := fun b z => by
      rcases z with rfl | rfl
      · exact nD
      · exact s0.free np
    obtain ⟨Pv, R, p0, pq⟩ := q (fun b => b = D0 ∨ b = p) (fun b z => kp.fw.dom _ (nZ b z))
    have nDp : D0 ≠ p := fun z => by rw [← z, upd_same] at np; cases np
    have hlen : (hearM N.ls line).length ≤ 10000 := Nat.le_trans (List.length_filter_le _ _) (Nat.le_trans order_len hN.few)
    have N1' := N0.fw w1 T0 (fun _ _ z => z)
    have kp1 : Kept K a N line th H H1 N1 := ⟨(kp.fw.same s0).trans (w1.mono fun _ z => z.elim), N1', kp.no, kp.yes⟩
    refine forG (walk_listm (hearM N.ls line) (fun l => V.ref l.ad)) (fun i σ H2 => ∃ x4 x5 acc ts, σ = [some (V.ref a), some (V.str line), some th, some (V.ref D0), x4, x5] ∧ Pv i acc H2 ∧ H2 D0 = some (.lst (ts.map V.ref)) ∧ TupsAt H2 ts (acc.map pairV) ∧ H2 p = some (.lst ((hearM N.ls line).map fun l => V.ref l.ad)) ∧ acc.length ≤ i)
      ⟨none, none, [], [], rfl, p0 _ N1 kp1 (fun b z => ⟨by
        rcases z with rfl | rfl
        · rw [w1.lst T0 upd_same (fun z => z)]; simp
        · rw [hp]; simp, fun f => hN0.dom f (nZ b z)⟩), w1.lst T0 upd_same (fun z => z), trivial, hp, Nat.le_refl _⟩ (fun i σ H2 hi ⟨_, _, _, _, _, _, _, _, h, _⟩ => .of h) (fun i x σ H2 H3 hi hP hy => ?_) (fun σ H2 hP => ?_)
    · obtain ⟨x4, x5, acc, ts, rfl, hPv, hD, ht, hpp, hacc⟩ := hP
      obtain ⟨rfl, l, hl', rfl⟩ := hy
      obtain ⟨dx, fs, ha, hfs⟩ := R.net _ _ _ hPv
      simp only [hD, ha, hfs, tCutE, false_and, exists_false, false_or, or_false, tRet, tRetN, tAndV, tOrV, tNotV, tChain, rI, rI0, rU, tC, tCB, tCons, tNil, tVar, tOp, tUn, tTest, tB, tAnd, tOr, tNot, tIf, tIfS, tSeq, tAsg, tDrop, tNext, gName, gTup_ref, gCons_cons, gNil_nil, and_assoc, tYes, wipe, rEq, rNe, scal_ss, scal_ii, scal_bb, scal_ns, scal_sn, scal_nn, scal_in, scal_ni, tLc_eq, tFor_eq, iList, iTup, iStr, iRng1, iRng2, iZip, iEnum, gSub, tSl, rSetL_ref, rCat_ref, rRep_ref, rJoin_ref, rSlL_ref, rSlS_ref, rMulS_ref, rIxL_ref, rIxT_ref, rLenK_ref, rAll_ref, rIn_ref, tLst, tTup, tPar, tPar3, tAug, tPart, tNoPart, tCall, List.getElem?_cons_zero, List.getElem?_cons_succ, List.set_cons_zero, List.set_cons_succ, List.map_cons, List.map_nil, List.append_nil, List.nil_append, List.cons_append, Option.some.injEq, exists_eq_left', exists_eq_left, exists_eq_right, exists_eq_right', exists_eq', V.int.injEq, V.str.injEq, V.bl.injEq, V.ref.injEq, List.cons.injEq, tM0, tM1, rNewStrs, sgn_eq, split_dot, split_sp, split_nl, dot_len, sp_len, nl_len, cxOf_K, L2.start, List.length_cons, List.length_nil, List.replicate_succ, List.replicate_zero, Nat.reduceSub, Nat.zero_add, and_true, true_and, and_self, exists_and_left, exists_const, Bool.false_eq_true, if_false, if_true, ite_true, ite_false, reduceIte, decide_eq_true_eq, reduceCtorEq, Nat.reduceAdd, Nat.reduceLT, tMseq, tMret, tNdef1, tThru, tCallV, gFldC, tFldC, sFldC, sFldAugC, tMeth, tMethX, tMethS, tMake, tCKw, sDPut, tDGet2, tVeI, tOst, tWhy, tXf, tListZip, tCallX, tCallXU, tCallV, tCallVS, tLam1, tLamD, tCallS, tCls, tClsD, cx_cells, cx_scope, cx_N, cx_prog, cx_w, cx_base, cx_mg, cx_qual, tLstRg, tRg1, tRg2, HO.ins.injEq, HO.lst.injEq, HO.tup.injEq, HO.dK.injEq, upd_same, upd_upd, tBM, tBM0, tyV_lst, isL_lst, rAppend_ref, rExtend_ref, rClear_ref, rAdd_int, rSub_int, li_len, ne_len, Nat.reduceLT, Nat.reduceLeDiff, lk_number, lk_pattern, lk_work, lk_rank, lk_once, lk_gate, lk_group, lk_muted, lk_gone, pt_once, pt_gate, pt_group, pt_muted, pt_gone, lk_known, lk_policy, lk_most, lk_depth, lk_locks, lk_waiting, lk_store, lk_faulty, pt_depth, pt_locks, pt_waiting]
      refine answer_mono (R.step i l acc H3 hl' hPv) (fun r H4 hr4 => ?_) (fun _ _ _ z => z)
      obtain ⟨D, vs, l2, rfl, hDv, hv1, nZ, kZ, kt, el, en, hl2, hP2⟩ := hr4
      have T4 := R.tab _ _ _ hP2
      refine ⟨D, rfl, ⟨_, .of hDv⟩, lc_tups vs (fun v => [.int l.n, v]) (walk_list (xs := vs)) (by omega) (fun H5 s5 => s5.seq (.of hDv)) (fun j v x H5 H6 R' hv s5 hy r => ?_) (fun D5 H5 us nD5 s5 hD5 htD => ?_)⟩
      · obtain ⟨rfl, hx⟩ := hy
        rw [hv] at hx; cases hx
        have h2 : H6 l2.ad = _ := s5 _ _ hl2
        rw [el] at h2
        simp only [h2, en, tCutE, false_and, exists_false, false_or, or_false, tRet, tRetN, tAndV, tOrV, tNotV, tChain, rI, rI0, rU, tC, tCB, tCons, tNil, tVar, tOp, tUn, tTest, tB, tAnd, tOr, tNot, tIf, tIfS, tSeq, tAsg, tDrop, tNext, gName, gTup_ref, gCons_cons, gNil_nil, and_assoc, tYes, wipe, rEq, rNe, scal_ss, scal_ii, scal_bb, scal_ns, scal_sn, scal_nn, scal_in, scal_ni, tLc_eq, tFor_eq, iList, iTup, iStr, iRng1, iRng2, iZip, iEnum, gSub, tSl, rSetL_ref, rCat_ref, rRep_ref, rJoin_ref, rSlL_ref, rSlS_ref, rMulS_ref, rIxL_ref, rIxT_ref, rLenK_ref, rAll_ref, rIn_ref, tLst, tTup, tPar, tPar3, tAug, tPart, tNoPart, tCall, List.getElem?_cons_zero, List.getElem?_cons_succ, List.set_cons_zero, List.set_cons_succ, List.map_cons, List.map_nil, List.append_nil, List.nil_append, List.cons_append, Option.some.injEq, exists_eq_left', exists_eq_left, exists_eq_right, exists_eq_right', exists_eq', V.int.injEq, V.str.injEq, V.bl.injEq, V.ref.injEq, List.cons.injEq, tM0, tM1, rNewStrs, sgn_eq, split_dot, split_sp, split_nl, dot_len, sp_len, nl_len, cxOf_K, L2.start, List.length_cons, List.length_nil, List.replicate_succ, List.replicate_zero, Nat.reduceSub, Nat.zero_add, and_true, true_and, and_self, exists_and_left, exists_const, Bool.false_eq_true, if_false, if_true, ite_true, ite_false, reduceIte, decide_eq_true_eq, reduceCtorEq, Nat.reduceAdd, Nat.reduceLT, tMseq, tMret, tNdef1, tThru, tCallV, gFldC, tFldC, sFldC, sFldAugC, tMeth, tMethX, tMethS, tMake, tCKw, sDPut, tDGet2, tVeI, tOst, tWhy, tXf, tListZip, tCallX, tCallXU, tCallV, tCallVS, tLam1, tLamD, tCallS, tCls, tClsD, cx_cells, cx_scope, cx_N, cx_prog, cx_w, cx_base, cx_mg, cx_qual, tLstRg, tRg1, tRg2, HO.ins.injEq, HO.lst.injEq, HO.tup.injEq, HO.dK.injEq, upd_same, upd_upd, tBM, tBM0, tyV_lst, isL_lst, rAppend_ref, rExtend_ref, rClear_ref, rAdd_int, rSub_int, li_len, ne_len, Nat.reduceLT, Nat.reduceLeDiff, lk_number, lk_pattern, lk_work, lk_rank, lk_once, lk_gate, lk_group, lk_muted, lk_gone, pt_once, pt_gate, pt_group, pt_muted, pt_gone, lk_known, lk_policy, lk_most, lk_depth, lk_locks, lk_waiting, lk_store, lk_faulty, pt_depth, pt_locks, pt_waiting]
        exact ⟨by decide, fun t ht => r _ _ ht (Same.refl _)⟩
      · have hD0 := s5 _ _ (kZ D0 _ (.inl rfl) hD)
        have hlt := ht.len
        have hlu := htD.len
        rw [List.length_map] at hlt hlu
        have nDE : D5 ≠ D0 := fun z => by rw [z, kZ D0 _ (.inl rfl) hD] at nD5; cases nD5
        rw [rExtend_ref]
        refine ⟨_, _, hD0, hD5, by simp only [List.length_map]; exact small (by omega), acc ++ vs.map (fun v => (l.n, v)), ?_, ts ++ us, by rw [upd_same, List.map_append], ?_, ?_, ?_⟩
        · exact R.fr _ _ _ _ hP2 ((Fw.of_same s5 T4).put hD0 (fun _ z => by cases z) (fun z => z) (.inl (.inl rfl)))
        · rw [List.map_append, List.map_map]
          exact TupsAt.put (TupsAt.app (ht.mono fun t x h => s5 _ _ (kt _ _ h)) htD) hD0 (fun _ z => by cases z)
        · rw [upd_ne nDp.symm]
          exact s5 _ _ (kZ p _ (.inr rfl) hpp)
        · simp only [List.length_append, List.length_map]; omega
    · obtain ⟨x4, x5, acc, ts, rfl, hPv, hD, ht, hpp, hacc⟩ := hP
      simp only [tCutE, false_and, exists_false, false_or, or_false, tRet, tRetN, tAndV, tOrV, tNotV, tChain, rI, rI0, rU, tC, tCB, tCons, tNil, tVar, tOp, tUn, tTest, tB, tAnd, tOr, tNot, tIf, tIfS, tSeq, tAsg, tDrop, tNext, gName, gTup_ref, gCons_cons, gNil_nil, and_assoc, tYes, wipe, rEq, rNe, scal_ss, scal_ii, scal_bb, scal_ns, scal_sn, scal_nn, scal_in, scal_ni, tLc_eq, tFor_eq, iList, iTup, iStr, iRng1, iRng2, iZip, iEnum, gSub, tSl, rSetL_ref, rCat_ref, rRep_ref, rJoin_ref, rSlL_ref, rSlS_ref, rMulS_ref, rIxL_ref, rIxT_ref, rLenK_ref, rAll_ref, rIn_ref, tLst, tTup, tPar, tPar3, tAug, tPart, tNoPart, tCall, List.getElem?_cons_zero, List.getElem?_cons_succ, List.set_cons_zero, List.set_cons_succ, List.map_cons, List.map_nil, List.append_nil, List.nil_append, List.cons_append, Option.some.injEq, exists_eq_left', exists_eq_left, exists_eq_right, exists_eq_right', exists_eq', V.int.injEq, V.str.injEq, V.bl.injEq, V.ref.injEq, List.cons.injEq, tM0, tM1, rNewStrs, sgn_eq, split_dot, split_sp, split_nl, dot_len, sp_len, nl_len, cxOf_K, L2.start, List.length_cons, List.length_nil, List.replicate_succ, List.replicate_zero, Nat.reduceSub, Nat.zero_add, and_true, true_and, and_self, exists_and_left, exists_const, Bool.false_eq_true, if_false, if_true, ite_true, ite_false, reduceIte, decide_eq_true_eq, reduceCtorEq, Nat.reduceAdd, Nat.reduceLT, tMseq, tMret, tNdef1, tThru, tCallV, gFldC, tFldC, sFldC, sFldAugC, tMeth, tMethX, tMethS, tMake, tCKw, sDPut, tDGet2, tVeI, tOst, tWhy, tXf, tListZip, tCallX, tCallXU, tCallV, tCallVS, tLam1, tLamD, tCallS, tCls, tClsD, cx_cells, cx_scope, cx_N, cx_prog, cx_w, cx_base, cx_mg, cx_qual, tLstRg, tRg1, tRg2, HO.ins.injEq, HO.lst.injEq, HO.tup.injEq, HO.dK.injEq, upd_same, upd_upd, tBM, tBM0, tyV_lst, isL_lst, rAppend_ref, rExtend_ref, rClear_ref, rAdd_int, rSub_int, li_len, ne_len, Nat.reduceLT, Nat.reduceLeDiff, lk_number, lk_pattern, lk_work, lk_rank, lk_once, lk_gate, lk_group, lk_muted, lk_gone, pt_once, pt_gate, pt_group, pt_muted, pt_gone, lk_known, lk_policy, lk_most, lk_depth, lk_locks, lk_waiting, lk_store, lk_faulty, pt_depth, pt_locks, pt_waiting]
      exact pq acc H2 ts D0 hPv (.inl rfl) hD ht
theorem M_Net_tell_round_2 (T : Tx K mg) (B : Tb K mg base) (k : Nat) : MethG P w K mg base (L2.CX P w) (k + 6) (He.ga K "Net") "tell_round" p_Net_tell_round ([]) (sp_tell_round P w K mg base k) := by
  obtain ⟨fd, F, ok⟩ := O_Net_tell_round T B k
  
  exact ⟨_, fd, [], T.cls_Net, T.m_Net_tell_round, ok, .nil, F.bindsN fun _ _ _ _ _ _ us hl => match us, hl with | [_, _, _], _ => rfl⟩
end
end Hk

set_option Elab.async false
set_option linter.all false
set_option maxRecDepth 100000
set_option maxHeartbeats 4000000
namespace Hk
open PySem PySem.Spec PyProof.Rows L2
open LamX NdefX
open TL
section
variable {P : Program} {w : World} {K : PySem.W.Frag} {mg : Str → Option Value} {base : Heap}
/-! ### within -/
theorem upd_comm {H : Hp} {a p : Addr} {o o' : HO} (n : a ≠ p) : upd (upd H a o) p o' = upd (upd H p o') a o := funext fun b => by
  unfold upd
  by_cases z1 : b = a
  · subst z1; simp [n]
  · simp [z1]
def sp_within (P : Program) (w : World) (K : PySem.W.Frag) (mg : Str → Option Value) (base : Heap) (k : Nat) : Sp := fun vs H Q E => ∃ (a f : Addr) (N : NetS), vs = [.ref a, .ref f] ∧ H a = some (.ins (NC K) N.dx (netV N)) ∧
  (N.depth = 20 → E (.ref (He.ga K "TooDeep")) none H) ∧
  (N.depth ≠ 20 → ∃ sp, Act P w K mg base k f sp ∧ Runs sp [] (upd H a (.ins (NC K) N.dx (netV { N with depth := N.depth + 1 }))) (fun v H2 => ∃ N2 : NetS, H2 a = some (.ins (NC K) N2.dx (netV N2)) ∧ Q v (upd H2 a (.ins (NC K) N2.dx (netV { N2 with depth := N2.depth - 1 }))))
    (fun c d H2 => Ex K c ∧ ∃ N2 : NetS, H2 a = some (.ins (NC K) N2.dx (netV N2)) ∧ (N2.depth ≠ 1 → E c d (upd H2 a (.ins (NC K) N2.dx (netV { N2 with depth := N2.depth - 1 })))) ∧
      (N2.depth = 1 → ∀ p, H2 p = none → E c d (upd (upd H2 p (.lst [])) a (.ins (NC K) N2.dx (netV { N2 with depth := N2.depth - 1, wt := p }))))))
theorem O_Net_within (T : Tx K mg) (B : Tb K mg base) (k : Nat) : ∃ fd, F_Net_within K (He.fAd K ("Net", some "within")) fd ∧ FnOk P w K mg base (L2.CX P w) (k + 1) (He.fAd K ("Net", some "within")) fd p_Net_within (sp_within P w K mg base k) := by
  obtain ⟨fd, F⟩ := T.f_Net_within
  refine ⟨fd, F, F.ok sc_Net_within (fun vs H Q E h => ?_) (fun cdv A outer s H vs Q E hr h => ?_)⟩
  · obtain ⟨a, f, N, rfl, _⟩ := h; rfl
  · obtain ⟨a, f, N, rfl, ha, q1, q2⟩ := h
    refine ⟨_, (pss_cons (ps_if (pt_cmpR op_eq (pe_fldC (K := K) rfl (pv 0) T.cls_Net T.n_Net_depth) (pe_gi T.c_MOST_DEEP (by rfl)) (nomark _))
      (pss_one (ps_raise rfl (takes_of rfl rfl rfl rfl) (pmk_own PySem.F.excBase_ValueError T.x_TooDeep.1 T.g_TooDeep T.x_TooDeep.2.1 (raises_own T.x_TooDeep.2.2.1 T.x_TooDeep.2.2.2) rfl)))
      pss_nil)
      (pss_cons (ps_fldaugC (K := K) rfl (pv 0) pe_int T.cls_Net T.n_Net_depth in_add)
      (pss_cons (ps_try_bare (pss_one (ps_fldaugC (K := K) rfl (pv 0) pe_int T.cls_Net T.n_Net_depth in_sub)) rfl rfl rfl ⟨rfl, by decide, .inl T.g_HearError⟩ (fun hd => L2H.passesAt_of rfl hd) (takes_of rfl rfl rfl rfl) (fun W pn xe tk _ => (pss_one (ps_set (i := 2) sc_Net_within.nd rfl (Or.inl rfl) (pe_callVS0K (P := P) (w := w) (K := K) (mg := mg) (base := base) rfl rfl rfl rfl rfl (k := k) (i := 1) (hr.mono (by first | decide | omega)) (fun σ => passAt tk σ) rfl (Or.inl rfl)))))
      (fun a cls d pn rz => (pss_cons (ps_fldaugC (K := K) rfl (pv 0) pe_int T.cls_Net T.n_Net_depth in_sub)
      (pss_cons (ps_if (pt_cmpR op_eq (pe_fldC (K := K) rfl (pv 0) T.cls_Net T.n_Net_depth) pe_int (nomark _))
      (pss_one (ps_fldC (K := K) rfl (pv 0) (pe_lst pa_nil) T.cls_Net T.n_Net_waiting))
      pss_nil)
      (pss_one (rz _))))))
      (pss_one (ps_ret (pv 2)))))), ?_⟩
    simp only [ha, tCutE, false_and, exists_false, false_or, or_false, tRet, tRetN, tAndV, tOrV, tNotV, tChain, rI, rI0, rU, tC, tCB, tCons, tNil, tVar, tOp, tUn, tTest, tB, tAnd, tOr, tNot, tIf, tIfS, tSeq, tAsg, tDrop, tNext, gName, gTup_ref, gCons_cons, gNil_nil, and_assoc, tYes, wipe, rEq, rNe, scal_ss, scal_ii, scal_bb, scal_ns, scal_sn, scal_nn, scal_in, scal_ni, tLc_eq, tFor_eq, iList, iTup, iStr, iRng1, iRng2, iZip, iEnum, gSub, tSl, rSetL_ref, rCat_ref, rRep_ref, rJoin_ref, rSlL_ref, rSlS_ref, rMulS_ref, rIxL_ref, rIxT_ref, rLenK_ref, rAll_ref, rIn_ref, tLst, tTup, tPar, tPar3, tAug, tPart, tNoPart, tCall, List.getElem?_cons_zero, List.getElem?_cons_succ, List.set_cons_zero, List.set_cons_succ, List.map_cons, List.map_nil, List.append_nil, List.nil_append, List.cons_append, Option.some.injEq, exists_eq_left', exists_eq_left, exists_eq_right, exists_eq_right', exists_eq', V.int.injEq, V.str.injEq, V.bl.injEq, V.ref.injEq, List.cons.injEq, tM0, tM1, rNewStrs, sgn_eq, split_dot, split_sp, split_nl, dot_len, sp_len, nl_len, cxOf_K, L2.start, List.length_cons, List.length_nil, List.replicate_succ, List.replicate_zero, Nat.reduceSub, Nat.zero_add, and_true, true_and, and_self, exists_and_left, exists_const, Bool.false_eq_true, if_false, if_true, ite_true, ite_false, reduceIte, decide_eq_true_eq, reduceCtorEq, Nat.reduceAdd, Nat.reduceLT, tMseq, tMret, tNdef1, tThru, tCallV, gFldC, tFldC, sFldC, sFldAugC, tMeth, tMethX, tMethS, tMake, tCKw, sDPut, tDGet2, tVeI, tOst, tWhy, tXf, tListZip, tCallX, tCallXU, tCallV, tCallVS, tLam1, tLamD, tCallS, tCls, tClsD, cx_cells, cx_scope, cx_N, cx_prog, cx_w, cx_base, cx_mg, cx_qual, tLstRg, tRg1, tRg2, HO.ins.injEq, HO.lst.injEq, HO.tup.injEq, HO.dK.injEq, upd_same, upd_upd, tBM, tBM0, tyV_lst, isL_lst, rAppend_ref, rExtend_ref, rClear_ref, rAdd_int, rSub_int, li_len, ne_len, Nat.reduceLT, Nat.reduceLeDiff, lk_number, lk_pattern, lk_work, lk_rank, lk_once, lk_gate, lk_group, lk_muted, lk_gone, pt_once, pt_gate, pt_group, pt_muted, pt_gone, lk_known, lk_policy, lk_most, lk_depth, lk_locks, lk_waiting, lk_store, lk_faulty, pt_depth, pt_locks, pt_waiting]
    by_cases hd : N.depth = 20
    · exact ifP hd (q1 hd)
    refine ifN hd ?_
    obtain ⟨sp, ac, r⟩ := q2 hd
    refine ⟨sp, ac, r _ _ (fun v H2 hv => ?_) (fun c d H2 hx => ?_)⟩
    · obtain ⟨N2, h2, q⟩ := hv
      simp only [h2, tCutE, false_and, exists_false, false_or, or_false, tRet, tRetN, tAndV, tOrV, tNotV, tChain, rI, rI0, rU, tC, tCB, tCons, tNil, tVar, tOp, tUn, tTest, tB, tAnd, tOr, tNot, tIf, tIfS, tSeq, tAsg, tDrop, tNext, gName, gTup_ref, gCons_cons, gNil_nil, and_assoc, tYes, wipe, rEq, rNe, scal_ss, scal_ii, scal_bb, scal_ns, scal_sn, scal_nn, scal_in, scal_ni, tLc_eq, tFor_eq, iList, iTup, iStr, iRng1, iRng2, iZip, iEnum, gSub, tSl, rSetL_ref, rCat_ref, rRep_ref, rJoin_ref, rSlL_ref, rSlS_ref, rMulS_ref, rIxL_ref, rIxT_ref, rLenK_ref, rAll_ref, rIn_ref, tLst, tTup, tPar, tPar3, tAug, tPart, tNoPart, tCall, List.getElem?_cons_zero, List.getElem?_cons_succ, List.set_cons_zero, List.set_cons_succ, List.map_cons, List.map_nil, List.append_nil, List.nil_append, List.cons_append, Option.some.injEq, exists_eq_left', exists_eq_left, exists_eq_right, exists_eq_right', exists_eq', V.int.injEq, V.str.injEq, V.bl.injEq, V.ref.injEq, List.cons.injEq, tM0, tM1, rNewStrs, sgn_eq, split_dot, split_sp, split_nl, dot_len, sp_len, nl_len, cxOf_K, L2.start, List.length_cons, List.length_nil, List.replicate_succ, List.replicate_zero, Nat.reduceSub, Nat.zero_add, and_true, true_and, and_self, exists_and_left, exists_const, Bool.false_eq_true, if_false, if_true, ite_true, ite_false, reduceIte, decide_eq_true_eq, reduceCtorEq, Nat.reduceAdd, Nat.reduceLT, tMseq, tMret, tNdef1, tThru, tCallV, gFldC, tFldC, sFldC, sFldAugC, tMeth, tMethX, tMethS, tMake, tCKw, sDPut, tDGet2, tVeI, tOst, tWhy, tXf, tListZip, tCallX, tCallXU, tCallV, tCallVS, tLam1, tLamD, tCallS, tCls, tClsD, cx_cells, cx_scope, cx_N, cx_prog, cx_w, cx_base, cx_mg, cx_qual, tLstRg, tRg1, tRg2, HO.ins.injEq, HO.lst.injEq, HO.tup.injEq, HO.dK.injEq, upd_same, upd_upd, tBM, tBM0, tyV_lst, isL_lst, rAppend_ref, rExtend_ref, rClear_ref, rAdd_int, rSub_int, li_len, ne_len, Nat.reduceLT, Nat.reduceLeDiff, lk_number, lk_pattern, lk_work, lk_rank, lk_once, lk_gate, lk_group, lk_muted, lk_gone, pt_once, pt_gate, pt_group, pt_muted, pt_gone, lk_known, lk_policy, lk_most, lk_depth, lk_locks, lk_waiting, lk_store, lk_faulty, pt_depth, pt_locks, pt_waiting]
      exact q
    · obtain ⟨hx, N2, h2, e1, e2⟩ := hx
      refine ⟨true, hx, fun _ a0 na => ?_, (fun z => by cases z)⟩
      simp only [h2, tCutE, false_and, exists_false, false_or, or_false, tRet, tRetN, tAndV, tOrV, tNotV, tChain, rI, rI0, rU, tC, tCB, tCons, tNil, tVar, tOp, tUn, tTest, tB, tAnd, tOr, tNot, tIf, tIfS, tSeq, tAsg, tDrop, tNext, gName, gTup_ref, gCons_cons, gNil_nil, and_assoc, tYes, wipe, rEq, rNe, scal_ss, scal_ii, scal_bb, scal_ns, scal_sn, scal_nn, scal_in, scal_ni, tLc_eq, tFor_eq, iList, iTup, iStr, iRng1, iRng2, iZip, iEnum, gSub, tSl, rSetL_ref, rCat_ref, rRep_ref, rJoin_ref, rSlL_ref, rSlS_ref, rMulS_ref, rIxL_ref, rIxT_ref, rLenK_ref, rAll_ref, rIn_ref, tLst, tTup, tPar, tPar3, tAug, tPart, tNoPart, tCall, List.getElem?_cons_zero, List.getElem?_cons_succ, List.set_cons_zero, List.set_cons_succ, List.map_cons, List.map_nil, List.append_nil, List.nil_append, List.cons_append, Option.some.injEq, exists_eq_left', exists_eq_left, exists_eq_right, exists_eq_right', exists_eq', V.int.injEq, V.str.injEq, V.bl.injEq, V.ref.injEq, List.cons.injEq, tM0, tM1, rNewStrs, sgn_eq, split_dot, split_sp, split_nl, dot_len, sp_len, nl_len, cxOf_K, L2.start, List.length_cons, List.length_nil, List.replicate_succ, List.replicate_zero, Nat.reduceSub, Nat.zero_add, and_true, true_and, and_self, exists_and_left, exists_const, Bool.false_eq_true, if_false, if_true, ite_true, ite_false, reduceIte, decide_eq_true_eq, reduceCtorEq, Nat.reduceAdd, Nat.reduceLT, tMseq, tMret, tNdef1, tThru, tCallV, gFldC, tFldC, sFldC, sFldAugC, tMeth, tMethX, tMethS, tMake, tCKw, sDPut, tDGet2, tVeI, tOst, tWhy, tXf, tListZip, tCallX, tCallXU, tCallV, tCallVS, tLam1, tLamD, tCallS, tCls, tClsD, cx_cells, cx_scope, cx_N, cx_prog, cx_w, cx_base, cx_mg, cx_qual, tLstRg, tRg1, tRg2, HO.ins.injEq, HO.lst.injEq, HO.tup.injEq, HO.dK.injEq, upd_same, upd_upd, tBM, tBM0, tyV_lst, isL_lst, rAppend_ref, rExtend_ref, rClear_ref, rAdd_int, rSub_int, li_len, ne_len, Nat.reduceLT, Nat.reduceLeDiff, lk_number, lk_pattern, lk_work, lk_rank, lk_once, lk_gate, lk_group, lk_muted, lk_gone, pt_once, pt_gate, pt_group, pt_muted, pt_gone, lk_known, lk_policy, lk_most, lk_depth, lk_locks, lk_waiting, lk_store, lk_faulty, pt_depth, pt_locks, pt_waiting]
      by_cases h1 : N2.depth = 1
      · refine ifP (by omega) ⟨Nat.zero_le _, fun p np => ?_⟩
        have nap : a ≠ p := fun z => by rw [← z, upd_same] at np; cases np
        rw [upd_ne nap.symm] at np
        have e3 := e2 h1 p np
        rw [upd_comm nap]
        simp only [tCutE, false_and, exists_false, false_or, or_false, tRet, tRetN, tAndV, tOrV, tNotV, tChain, rI, rI0, rU, tC, tCB, tCons, tNil, tVar, tOp, tUn, tTest, tB, tAnd, tOr, tNot, tIf, tIfS, tSeq, tAsg, tDrop, tNext, gName, gTup_ref, gCons_cons, gNil_nil, and_assoc, tYes, wipe, rEq, rNe, scal_ss, scal_ii, scal_bb, scal_ns, scal_sn, scal_nn, scal_in, scal_ni, tLc_eq, tFor_eq, iList, iTup, iStr, iRng1, iRng2, iZip, iEnum, gSub, tSl, rSetL_ref, rCat_ref, rRep_ref, rJoin_ref, rSlL_ref, rSlS_ref, rMulS_ref, rIxL_ref, rIxT_ref, rLenK_ref, rAll_ref, rIn_ref, tLst, tTup, tPar, tPar3, tAug, tPart, tNoPart, tCall, List.getElem?_cons_zero, List.getElem?_cons_succ, List.set_cons_zero, List.set_cons_succ, List.map_cons, List.map_nil, List.append_nil, List.nil_append, List.cons_append, Option.some.injEq, exists_eq_left', exists_eq_left, exists_eq_right, exists_eq_right', exists_eq', V.int.injEq, V.str.injEq, V.bl.injEq, V.ref.injEq, List.cons.injEq, tM0, tM1, rNewStrs, sgn_eq, split_dot, split_sp, split_nl, dot_len, sp_len, nl_len, cxOf_K, L2.start, List.length_cons, List.length_nil, List.replicate_succ, List.replicate_zero, Nat.reduceSub, Nat.zero_add, and_true, true_and, and_self, exists_and_left, exists_const, Bool.false_eq_true, if_false, if_true, ite_true, ite_false, reduceIte, decide_eq_true_eq, reduceCtorEq, Nat.reduceAdd, Nat.reduceLT, tMseq, tMret, tNdef1, tThru, tCallV, gFldC, tFldC, sFldC, sFldAugC, tMeth, tMethX, tMethS, tMake, tCKw, sDPut, tDGet2, tVeI, tOst, tWhy, tXf, tListZip, tCallX, tCallXU, tCallV, tCallVS, tLam1, tLamD, tCallS, tCls, tClsD, cx_cells, cx_scope, cx_N, cx_prog, cx_w, cx_base, cx_mg, cx_qual, tLstRg, tRg1, tRg2, HO.ins.injEq, HO.lst.injEq, HO.tup.injEq, HO.dK.injEq, upd_same, upd_upd, tBM, tBM0, tyV_lst, isL_lst, rAppend_ref, rExtend_ref, rClear_ref, rAdd_int, rSub_int, li_len, ne_len, Nat.reduceLT, Nat.reduceLeDiff, lk_number, lk_pattern, lk_work, lk_rank, lk_once, lk_gate, lk_group, lk_muted, lk_gone, pt_once, pt_gate, pt_group, pt_muted, pt_gone, lk_known, lk_policy, lk_most, lk_depth, lk_locks, lk_waiting, lk_store, lk_faulty, pt_depth, pt_locks, pt_waiting]
        exact e3
      · exact ifN (by omega) (e1 h1)
theorem M_Net_within_1 (T : Tx K mg) (B : Tb K mg base) (k : Nat) : MethG P w K mg base (L2.CX P w) (k + 1) (He.ga K "Net") "within" p_Net_within ([]) (sp_within P w K mg base k) := by
  obtain ⟨fd, F, ok⟩ := O_Net_within T B k
  
  exact ⟨_, fd, [], T.cls_Net, T.m_Net_within, ok, .nil, F.bindsN fun _ _ _ _ _ _ us hl => match us, hl with | [_, _], _ => rfl⟩
theorem within_mono {k : Nat} {vs : List V} {H : Hp} {Q Q' : VK} {E E' : XK} (h : sp_within P w K mg base k vs H Q E) (m : ∀ v H', Q v H' → Q' v H') (n : ∀ c d H', E c d H' → E' c d H') : sp_within P w K mg base k vs H Q' E' := by
  obtain ⟨a, f, N, rfl, ha, q1, q2⟩ := h
  refine ⟨a, f, N, rfl, ha, fun e => n _ _ _ (q1 e), fun e => ?_⟩
  obtain ⟨sp, ac, r⟩ := q2 e
  exact ⟨sp, ac, r.mono (fun v H2 ⟨N2, h2, q⟩ => ⟨N2, h2, m _ _ q⟩) fun c d H2 ⟨x, N2, h2, e1, e2⟩ => ⟨x, N2, h2, fun z => n _ _ _ (e1 z), fun z p hp => n _ _ _ (e2 z p hp)⟩⟩
/-! ### the depth, the waiting list -/
theorem NetAt.depth {H H' : Hp} {a : Addr} {N : NetS} {d : Int} (h : NetAt K H a N) (e : ∀ b o, b ≠ a → H b = some o → ¬ Imm o → (∀ ps, o ≠ .tbl ps) → H' b = some o) (ha : H' a = some (.ins (NC K) N.dx (netV { N with depth := d }))) : NetAt K H' a { N with depth := d } := by
  have na : ∀ {b xs}, H b = some (.lst xs) → b ≠ a := fun {b xs} hb z => by rw [z, h.net] at hb; cases hb
  exact h.re (N' := { N with depth := d }) (fun b o hb n _ _ _ n1 n2 => e b o n hb n1 n2) ha (e _ _ (na h.kn) h.kn (fun z => z) (fun _ z => by cases z)) (e _ _ (na h.wt) h.wt (fun z => z) (fun _ z => by cases z)) (e _ _ (na h.fl) h.fl (fun z => z) (fun _ z => by cases z)) h.kw h.kf h.wf rfl rfl rfl rfl (fun _ _ z => z)
theorem NetAt.nowait {H H' : Hp} {a p : Addr} {N : NetS} {d : Int} (h : NetAt K H a N) (np : H p = none) (e : ∀ b o, b ≠ a → H b = some o → ¬ Imm o → (∀ ps, o ≠ .tbl ps) → H' b = some o) (hp : H' p = some (.lst [])) (ha : H' a = some (.ins (NC K) N.dx (netV { N with depth := d, wt := p }))) : NetAt K H' a { N with depth := d, wt := p, wts := [] } := by
  have na : ∀ {b xs}, H b = some (.lst xs) → b ≠ a := fun {b xs} hb z => by rw [z, h.net] at hb; cases hb
  exact h.re (N' := { N with depth := d, wt := p, wts := [] }) (fun b o hb n _ _ _ n1 n2 => e b o n hb n1 n2) ha (e _ _ (na h.kn) h.kn (fun z => z) (fun _ z => by cases z)) hp (e _ _ (na h.fl) h.fl (fun z => z) (fun _ z => by cases z)) (ne_of_none h.kn np) h.kf (ne_of_none h.fl np).symm rfl rfl rfl rfl
    (fun b hb z => by
      rcases z with z | z | z
      · exact .inl z
      · exact absurd (z ▸ np) hb
      · exact .inr (.inr z))
/-- what the round's end by an exception asks: E behind it -/
def excV (K : PySem.W.Frag) (a : Addr) (E : XK) : XK := fun c d H2 => Ex K c ∧ Tab K H2 ∧ ∃ N2, NetAt K H2 a N2 ∧ (N2.depth ≠ 1 → ∀ H3, Fwd K (fun b => b = a) H2 H3 → NetAt K H3 a { N2 with depth := N2.depth - 1 } → E c d H3) ∧
  (N2.depth = 1 → ∀ H3 p, Fwd K (fun b => b = a) H2 H3 → H2 p = none → NetAt K H3 a { N2 with depth := N2.depth - 1, wt := p, wts := [] } → E c d H3)
theorem excV_mono {a : Addr} {E E' : XK} (n : ∀ c d H', E c d H' → E' c d H') (c : Value) (d : Option Addr) (H' : Hp) (h : excV K a E c d H') : excV K a E' c d H' := by
  obtain ⟨x, t, N2, h2, e1, e2⟩ := h
  exact ⟨x, t, N2, h2, fun z H3 w3 N3 => n _ _ _ (e1 z H3 w3 N3), fun z H3 p w3 hp N3 => n _ _ _ (e2 z H3 p w3 hp N3)⟩
/-- what the round's end asks -/
def endV (K : PySem.W.Frag) (a : Addr) (R : VK) : VK := fun v H2 => Tab K H2 ∧ ∃ N2, NetAt K H2 a N2 ∧ ∀ H3, Fwd K (fun b => b = a) H2 H3 → NetAt K H3 a { N2 with depth := N2.depth - 1 } → R v H3
theorem endV_mono {a : Addr} {R R' : VK} (n : ∀ v H', R v H' → R' v H') (v : V) (H' : Hp) (h : endV K a R v H') : endV K a R' v H' := by
  obtain ⟨t, N2, h2, e1⟩ := h
  exact ⟨t, N2, h2, fun H3 w3 N3 => n _ _ (e1 H3 w3 N3)⟩
theorem inC_all {cm : List (Str × Addr)} {sc scope : Scope} {N fr : List Str} {H : Hp} (C : CEnv cm sc N H) (hb : ndefB sc scope fr = true) (ha : (cm.map (·.1)).all (fun y => scope.names.contains (y, NameKind.free)) = true) {b : Addr} (h : InC cm b) : InC (cloFrom cm scope.names []) b := by
  obtain ⟨y, e⟩ := h
  have hm : y ∈ cm.map (·.1) := List.mem_map_of_mem (f := (·.1)) (PySem.mem_of_lookup e)
  have := List.all_eq_true.mp ha y hm
  exact ⟨y, clo_has (fun y hy e => C.has y.1 (ndef_free hb y hy e)) (List.contains_iff_mem.mp this) e⟩
/-- the heap but for the net's own words, and new things -/
theorem fwd_at {H2 G : Hp} {a : Addr} {N2 : NetS} (T2 : Tab K H2) (h2 : NetAt K H2 a N2) (kb : ∀ b o, H2 b = some o → b ≠ a → G b = some o) (dm : ∀ b, G b = none → H2 b = none) : Fwd K (fun b => b = a) H2 G := by
  have n2 : ∀ {b o}, H2 b = some o → Imm o → b ≠ a := fun {b o} h i z => by rw [z, h2.net] at h; cases h; exact i
  exact ⟨fun b o h z => kb b o h (z.elim (n2 h) fun n => n.1), dm, T2.ext2 (fun b ps h => kb b _ h (fun z => by rw [z, h2.net] at h; cases h)) (fun c q h => kb c _ h (n2 h imm_code))⟩
/-- self.within(lambda: ..) -/
theorem within_lam {cm : List (Str × Addr)} {sc : Scope} {N_ : List Str} {σ : L2.St} {obs : Addr → Obj} {H : Hp} {a f : Addr} {L : LF} {fr : List Str} {spN : List (Option V) → Sp} {ws : List V} {N' ps' : List Str} {R : VK} {RE : XK} {N : NetS} {k : Nat} (C : CEnv cm sc N_ H) (hf : H f = some (LamO f L)) (hc : H L.c = some (CodeO L.c L.qual)) (hd : L.dT = none)
    (ac : Act P w K mg base k f (spLam f L fr [] spN)) (js : List Nat) (hL : L.cl = cloFrom cm L.scope.names []) (hb : ndefB sc L.scope fr = true) (hall : (cm.map (·.1)).all (fun y => L.scope.names.contains (y, NameKind.free)) = true) (S : NScope N' ps' fr L.scope) (hjs : js.map (fun j => N_[j]?) = fr.map some) (hws : js.map (fun j => σ[j]?) = ws.map (fun v => some (some v)))
    (hN : NetAt K H a N) (hT : Tab K H) (hdeep : N.depth = 20 → RE (.ref (He.ga K "TooDeep")) none H)
    (body : N.depth ≠ 20 → ∀ B, Fwd K (fun b => b = a) H B → NetAt K B a { N with depth := N.depth + 1 } → Runs (spN (ws.map some)) [] B (endV K a R) (excV K a RE)) :
    sp_within P w K mg base k [.ref a, .ref f] (exC cm sc N_ σ obs H) (fun v H' => CapsAt L.cl fr ws H' ∧ (∀ b, InC cm b ↔ InC L.cl b) ∧ R v (delC cm H')) (fun c d H' => RE c d (delC cm H')) := by
  have sX : Same H (exC cm sc N_ σ obs H) := C.same
  have caps1 : CapsAt L.cl fr ws (exC cm sc N_ σ obs H) := by rw [hL]; exact C.caps hb S.free hjs hws (fun a o h _ => h)
  have hcl : ∀ b, InC cm b → InC L.cl b := fun b h => by rw [hL]; exact inC_all C hb hall h
  have hcm : ∀ b, InC L.cl b → InC cm b := fun b ⟨y, e⟩ => ⟨y, by rw [hL] at e; exact clo_sub C hb y b e⟩
  refine ⟨a, f, N, rfl, sX _ _ hN.net, fun z => show RE _ _ (delC cm (exC cm sc N_ σ obs H)) from by rw [del_ex C]; exact hdeep z, fun hd0 => ⟨_, ac, fun Qs Es hq he => ?_⟩⟩
  generalize hX : exC cm sc N_ σ obs H = X1 at sX caps1
  have X1a := sX _ _ hN.net
  have naf : ∀ {b o}, X1 b = some o → Imm o → b ≠ a := fun {b o} h i z => by rw [z, X1a] at h; cases h; exact i
  have caps2 : CapsAt L.cl fr ws (upd X1 a (.ins (NC K) N.dx (netV { N with depth := N.depth + 1 }))) := caps1.mono fun b _ v ⟨ob, h⟩ => ⟨ob, by rw [upd_ne (naf h imm_cell)]; exact h⟩
  have nCa : ¬ InC L.cl a := fun z => C.out hN.net (hcm a z)
  have bB : ∀ b o, H b = some o → b ≠ a → delC L.cl (upd X1 a (.ins (NC K) N.dx (netV { N with depth := N.depth + 1 }))) b = some o := fun b o h n => by
    rw [delC_out (fun z => C.out h (hcm b z)), upd_ne n]; exact sX _ _ h
  have aB : delC L.cl (upd X1 a (.ins (NC K) N.dx (netV { N with depth := N.depth + 1 }))) a = some (.ins (NC K) N.dx (netV { N with depth := N.depth + 1 })) := by rw [delC_out nCa]; exact upd_same
  have nNa : ∀ {b o}, H b = some o → Imm o → b ≠ a := fun {b o} h i z => by rw [z, hN.net] at h; cases h; exact i
  have wB : Fwd K (fun b => b = a) H (delC L.cl (upd X1 a (.ins (NC K) N.dx (netV { N with depth := N.depth + 1 })))) := fwd_at hT hN bB fun b h => by
    by_cases z : InC L.cl b
    · exact C.free b (hcm b z)
    · rw [delC_out z] at h
      exact sX.free (upd_dom (e := h))
  have NB := hN.depth (d := N.depth + 1) (fun b o n h _ _ => bB b o h n) aB
  generalize hX2 : upd X1 a (.ins (NC K) N.dx (netV { N with depth := N.depth + 1 })) = X2 at caps2 bB aB wB NB
  refine ⟨ws, by rw [← hX2, upd_ne (nNa hf imm_lam)]; exact sX _ _ hf, by rw [← hX2, upd_ne (nNa hc imm_code)]; exact sX _ _ hc, caps2, by rw [hd]; rfl, body hd0 _ wB NB _ _ (fun v H2 hR hz => hq v _ ?_) (fun c d H2 hR hz => he c d _ ?_)⟩
  · obtain ⟨T2, N2, h2, q⟩ := hR
    have nz : ∀ {b o}, H2 b = some o → ¬ InC L.cl b := fun {b o} h z => by rw [hz b z] at h; cases h
    have pa : putC L.cl X2 H2 a = some (.ins (NC K) N2.dx (netV N2)) := by rw [putC_out (nz h2.net)]; exact h2.net
    refine ⟨N2, pa, ?_, fun b => ⟨hcl b, hcm b⟩, ?_⟩
    · refine caps2.mono fun b z v ⟨ob, h⟩ => ⟨ob, ?_⟩
      rw [upd_ne (fun e => nCa (by rw [← e]; exact z)), putC_in z]; exact h
    · have kb : ∀ b o, H2 b = some o → b ≠ a → delC cm (upd (putC L.cl X2 H2) a (.ins (NC K) N2.dx (netV { N2 with depth := N2.depth - 1 }))) b = some o := fun b o h n => by
        rw [delC_out (fun z => nz h (hcl b z)), upd_ne n, putC_out (nz h)]; exact h
      refine q _ (fwd_at T2 h2 kb fun b h => ?_) (h2.depth (fun b o n h _ _ => kb b o h n) ?_)
      · by_cases z : InC cm b
        · exact hz b (hcl b z)
        · rw [delC_out z] at h
          have h := upd_dom (e := h)
          rw [putC_out (fun y => z (hcm b y))] at h
          exact h
      · rw [delC_out (fun z => nCa (hcl a z))]
        exact upd_same
  · obtain ⟨hx, T2, N2, h2, q1, q2⟩ := hR
    have nz : ∀ {b o}, H2 b = some o → ¬ InC L.cl b := fun {b o} h z => by rw [hz b z] at h; cases h
    have pa : putC L.cl X2 H2 a = some (.ins (NC K) N2.dx (netV N2)) := by rw [putC_out (nz h2.net)]; exact h2.net
    refine ⟨hx, N2, pa, fun z => ?_, fun z p np => ?_⟩
    · have kb : ∀ b o, H2 b = some o → b ≠ a → delC cm (upd (putC L.cl X2 H2) a (.ins (NC K) N2.dx (netV { N2 with depth := N2.depth - 1 }))) b = some o := fun b o h n => by
        rw [delC_out (fun z => nz h (hcl b z)), upd_ne n, putC_out (nz h)]; exact h
      refine q1 z _ (fwd_at T2 h2 kb fun b h => ?_) (h2.depth (fun b o n h _ _ => kb b o h n) ?_)
      · by_cases z : InC cm b
        · exact hz b (hcl b z)
        · rw [delC_out z] at h
          have h := upd_dom (e := h)
          rw [putC_out (fun y => z (hcm b y))] at h
          exact h
      · rw [delC_out (fun z => nCa (hcl a z))]
        exact upd_same
    · have npC : ¬ InC L.cl p := fun y => by
        rw [putC_in y] at np
        obtain ⟨v, ob, e⟩ := caps2.tr y
        rw [np] at e; cases e
      rw [putC_out npC] at np
      have npa : p ≠ a := fun e => by rw [e, h2.net] at np; cases np
      have kb : ∀ b o, H2 b = some o → b ≠ a → delC cm (upd (upd (putC L.cl X2 H2) p (.lst [])) a (.ins (NC K) N2.dx (netV { N2 with depth := N2.depth - 1, wt := p }))) b = some o := fun b o h n => by
        rw [delC_out (fun z => nz h (hcl b z)), upd_ne n, upd_ne (ne_of_none h np), putC_out (nz h)]; exact h
      refine q2 z _ p (fwd_at T2 h2 kb fun b h => ?_) np (h2.nowait (d := N2.depth - 1) np (fun b o n h _ _ => kb b o h n) ?_ ?_)
      · by_cases z : InC cm b
        · exact hz b (hcl b z)
        · rw [delC_out z] at h
          have h := upd_dom (e := upd_dom (e := h))
          rw [putC_out (fun y => z (hcm b y))] at h
          exact h
      · rw [delC_out (fun z => npC (hcl p z)), upd_ne npa]
        exact upd_same
      · rw [delC_out (fun z => nCa (hcl a z))]
        exact upd_same
/-! ### clear -/
def spTR (sp : Sp) : List (Option V) → Sp := fun ws vs H Q E => ∃ (a : Addr) (line : Str) (th : V) (N : NetS), ws = [some (.str line), some (.ref a), some th] ∧ vs = [] ∧ H a = some (.ins (NC K) N.dx (netV N)) ∧ sp [.ref a, .str line, th] H Q E
theorem tell_round_mono {k : Nat} {vs : List V} {H : Hp} {Q Q' : VK} {E E' : XK} (h : sp_tell_round P w K mg base k vs H Q E) (m : ∀ v H', Q v H' → Q' v H') (n : ∀ c d H', E c d H' → E' c d H') : sp_tell_round P w K mg base k vs H Q' E' := by
  obtain ⟨a, N, line, th, rfl, hN, hT, hl, hm, q⟩ := h
  refine ⟨a, N, line, th, rfl, hN, hT, hl, hm, fun Z hZ => ?_⟩
  obtain ⟨Pv, R, p0, pq⟩ := q Z hZ
  exact ⟨Pv, ⟨R.fr, R.tab, R.net, fun i l acc H1 hi hP => answer_mono (R.step i l acc H1 hi hP) (fun _ _ z => z) n⟩, p0, fun acc H1 ts D h1 h2 h3 h4 => m _ _ (pq acc H1 ts D h1 h2 h3 h4)⟩
/-- one look at what waits -/
def ClearS (P : Program) (w : World) (K : PySem.W.Frag) (mg : Str → Option Value) (base : Heap) (k : Nat) (a : Addr) (Cv : Nat → Hp → Prop) (m : Nat) (H1 : Hp) (Q : VK) (E : XK) : Prop := ∃ N ds, NetAt K H1 a N ∧ Tab K H1 ∧ DpAll K H1 N.wts ds ∧ SeqAt.shaped (.list ds) = true ∧
  (N.wts = [] ∨ N.depth ≠ 0 ∨ N.locks ≠ 0 → ∀ H2, Same H1 H2 → Q .non H2) ∧
  (N.depth = 0 → N.locks = 0 → ∀ v r, N.wts = v :: r → ∃ t line th, v = .ref t ∧ H1 t = some (.tup [.str line, th]) ∧ ∀ H2, Fwd K (fun b => b = a ∨ b = N.wt) H1 H2 → NetAt K H2 a { N with wts := r, depth := N.depth + 1 } →
    sp_tell_round P w K mg base k [.ref a, .str line, th] H2 (endV K a fun _ H4 => ∃ m', m' < m ∧ Cv m' H4) (excV K a E))
def sp_clear (P : Program) (w : World) (K : PySem.W.Frag) (mg : Str → Option Value) (base : Heap) (k : Nat) : Sp := fun vs H Q E => ∃ (a : Addr) (Cv : Nat → Hp → Prop) (m0 : Nat), vs = [.ref a] ∧ Cv m0 H ∧ ∀ m H1, Cv m H1 → ClearS P w K mg base k a Cv m H1 Q E
theorem clear_mono {k : Nat} {vs : List V} {H : Hp} {Q Q' : VK} {E E' : XK} (h : sp_clear P w K mg base k vs H Q E) (m : ∀ v H', Q v H' → Q' v H') (n : ∀ c d H', E c d H' → E' c d H') : sp_clear P w K mg base k vs H Q' E' := by
  obtain ⟨a, Cv, m0, e, h0, q⟩ := h
  refine ⟨a, Cv, m0, e, h0, fun j H1 hj => ?_⟩
  obtain ⟨N, ds, h1, h2, h3, h4, h5, h6⟩ := q j H1 hj
  refine ⟨N, ds, h1, h2, h3, h4, fun z H2 s2 => m _ _ (h5 z H2 s2), fun z1 z2 v r e => ?_⟩
  obtain ⟨t, line, th, e1, e2, e3⟩ := h6 z1 z2 v r e
  exact ⟨t, line, th, e1, e2, fun H2 w2 N2 => tell_round_mono (e3 H2 w2 N2) (fun _ _ z => z) (excV_mono n)⟩
theorem seqIndex0 {n : Nat} : seqIndex? 0 (n + 1) = some 0 := by
  unfold seqIndex?
  simp
theorem O_Net_clear (T : Tx K mg) (B : Tb K mg base) (k : Nat) : ∃ fd, F_Net_clear K (He.fAd K ("Net", some "clear")) fd ∧ FnOk P w K mg base (L2.CX P w) (k + 9) (He.fAd K ("Net", some "clear")) fd p_Net_clear (sp_clear P w K mg base k) := by
  obtain ⟨fd, F⟩ := T.f_Net_clear
  refine ⟨fd, F, okT (p := ("Net", some "clear")) F sc_Net_clear (fun vs H Q E h => ?_) (fun A outer s H vs Q E hr h => ?_)⟩
  · obtain ⟨a, Cv, m0, rfl, _⟩ := h; rfl
  · obtain ⟨a, Cv, m0, rfl, h0, q⟩ := h
    refine ⟨_, (pss_one (ps_while (passes_of rfl) (PW.pt (pw_and (pt_cmpR (op_neDK (K := K) rfl hr.units) (pe_fldC (K := K) rfl (pv 0) T.cls_Net T.n_Net_waiting) (pe_lst pa_nil) (nomark _)) (pw_and (pt_cmpR op_eq (pe_fldC (K := K) rfl (pv 0) T.cls_Net T.n_Net_depth) pe_int (nomark _)) (pw_and1 (pt_cmpR op_eq (pe_fldC (K := K) rfl (pv 0) T.cls_Net T.n_Net_locks) pe_int (nomark _))))))
      (pss_cons (ps_asg (pe_bmK (K := K) rfl PySem.F.plainAttrs_list PySem.F.slot_list_pop PySem.F.type_list_pop mt_popAt (pe_fldC (K := K) rfl (pv 0) T.cls_Net T.n_Net_waiting) (pa_cons pe_int pa_nil)) (pg_tupK (K := K) rfl rfl (pgs_cons (pg_name (i := 1) sc_Net_clear.nd rfl (Or.inr rfl)) (pgs_cons (pg_name (i := 2) sc_Net_clear.nd rfl (Or.inr rfl)) pgs_nil))))
      (pss_one (ps_expr (pe_methXG (pv 0) (M_Net_within_1 T B (k + 7)) (hr.mono (by first | decide | omega)) (passes_call (takes_of rfl rfl rfl rfl) (fun _ _ _ _ h => h)) sc_Net_clear.nd (fun _ _ _ => rfl) (pa_cons (pe_lam (Ts := Ts K) (nm := nm) (B.t_Net_clear) rfl (m_Net_clear K) (show nm 165 24 = Str.ofString "Net.clear.<locals>." ++ Str.ofString "<lambda>" by decide +kernel) (ndef_free (sc := defScope s_Net_clear) (fr := ["line", "self", "thing"]) (by decide +kernel)) rfl) pa_nil))))))), ?_⟩
    refine ⟨fun m σ H1 => (∃ x1 x2, σ = [some (V.ref a), x1, x2]) ∧ Cv m H1, ⟨m0, ⟨_, _, rfl⟩, h0⟩, fun m σ H1 hP => ?_⟩
    obtain ⟨⟨x1, x2, rfl⟩, hC⟩ := hP
    obtain ⟨N, ds, hN, hT, hD, hsh, q1, q2⟩ := q m H1 hC
    simp only [hN.net, tCutE, false_and, exists_false, false_or, or_false, tRet, tRetN, tAndV, tOrV, tNotV, tChain, rI, rI0, rU, tC, tCB, tCons, tNil, tVar, tOp, tUn, tTest, tB, tAnd, tOr, tNot, tIf, tIfS, tSeq, tAsg, tDrop, tNext, gName, gTup_ref, gCons_cons, gNil_nil, and_assoc, tYes, wipe, rEq, rNe, scal_ss, scal_ii, scal_bb, scal_ns, scal_sn, scal_nn, scal_in, scal_ni, tLc_eq, tFor_eq, iList, iTup, iStr, iRng1, iRng2, iZip, iEnum, gSub, tSl, rSetL_ref, rCat_ref, rRep_ref, rJoin_ref, rSlL_ref, rSlS_ref, rMulS_ref, rIxL_ref, rIxT_ref, rLenK_ref, rAll_ref, rIn_ref, tLst, tTup, tPar, tPar3, tAug, tPart, tNoPart, tCall, List.getElem?_cons_zero, List.getElem?_cons_succ, List.set_cons_zero, List.set_cons_succ, List.map_cons, List.map_nil, List.append_nil, List.nil_append, List.cons_append, Option.some.injEq, exists_eq_left', exists_eq_left, exists_eq_right, exists_eq_right', exists_eq', V.int.injEq, V.str.injEq, V.bl.injEq, V.ref.injEq, List.cons.injEq, tM0, tM1, rNewStrs, sgn_eq, split_dot, split_sp, split_nl, dot_len, sp_len, nl_len, cxOf_K, L2.start, List.length_cons, List.length_nil, List.replicate_succ, List.replicate_zero, Nat.reduceSub, Nat.zero_add, and_true, true_and, and_self, exists_and_left, exists_const, Bool.false_eq_true, if_false, if_true, ite_true, ite_false, reduceIte, decide_eq_true_eq, reduceCtorEq, Nat.reduceAdd, Nat.reduceLT, tMseq, tMret, tNdef1, tThru, tCallV, gFldC, tFldC, sFldC, sFldAugC, tMeth, tMethX, tMethS, tMake, tCKw, sDPut, tDGet2, tVeI, tOst, tWhy, tXf, tListZip, tCallX, tCallXU, tCallV, tCallVS, tLam1, tLamD, tCallS, tCls, tClsD, cx_cells, cx_scope, cx_N, cx_prog, cx_w, cx_base, cx_mg, cx_qual, tLstRg, tRg1, tRg2, HO.ins.injEq, HO.lst.injEq, HO.tup.injEq, HO.dK.injEq, upd_same, upd_upd, tBM, tBM0, tyV_lst, isL_lst, rAppend_ref, rExtend_ref, rClear_ref, rAdd_int, rSub_int, li_len, ne_len, Nat.reduceLT, Nat.reduceLeDiff, lk_number, lk_pattern, lk_work, lk_rank, lk_once, lk_gate, lk_group, lk_muted, lk_gone, pt_once, pt_gate, pt_group, pt_muted, pt_gone, lk_known, lk_policy, lk_most, lk_depth, lk_locks, lk_waiting, lk_store, lk_faulty, pt_depth, pt_locks, pt_waiting]
    refine ⟨Nat.zero_le _, fun p np => ?_⟩
    obtain ⟨s1, hp1⟩ := newF (H := H1) (o := .lst []) rfl np
    generalize upd H1 p _ = H2 at s1 hp1 ⊢
    have N2 := hN.same s1
    have T2 : Tab K H2 := hT.ext s1
    refine ⟨.list ds, .list [], .lst (.of N2.wt) (dpAll_same s1 hD), .lst (.of hp1) .nil, hsh, shaped_nil, _, rfl, ?_⟩
    rw [eqv_nil]
    have hlen := dpAll_len hD
    cases hw : N.wts with
    | nil =>
      rw [hw] at hlen
      cases ds with
      | nil => exact ifN (by simp) (q1 (.inl hw) _ s1)
      | cons d r => simp at hlen
    | cons v r =>
      rw [hw] at hlen
      cases ds with
      | nil => simp at hlen
      | cons d r2 =>
        refine ifP (by simp) ?_
        simp only [N2.net, tCutE, false_and, exists_false, false_or, or_false, tRet, tRetN, tAndV, tOrV, tNotV, tChain, rI, rI0, rU, tC, tCB, tCons, tNil, tVar, tOp, tUn, tTest, tB, tAnd, tOr, tNot, tIf, tIfS, tSeq, tAsg, tDrop, tNext, gName, gTup_ref, gCons_cons, gNil_nil, and_assoc, tYes, wipe, rEq, rNe, scal_ss, scal_ii, scal_bb, scal_ns, scal_sn, scal_nn, scal_in, scal_ni, tLc_eq, tFor_eq, iList, iTup, iStr, iRng1, iRng2, iZip, iEnum, gSub, tSl, rSetL_ref, rCat_ref, rRep_ref, rJoin_ref, rSlL_ref, rSlS_ref, rMulS_ref, rIxL_ref, rIxT_ref, rLenK_ref, rAll_ref, rIn_ref, tLst, tTup, tPar, tPar3, tAug, tPart, tNoPart, tCall, List.getElem?_cons_zero, List.getElem?_cons_succ, List.set_cons_zero, List.set_cons_succ, List.map_cons, List.map_nil, List.append_nil, List.nil_append, List.cons_append, Option.some.injEq, exists_eq_left', exists_eq_left, exists_eq_right, exists_eq_right', exists_eq', V.int.injEq, V.str.injEq, V.bl.injEq, V.ref.injEq, List.cons.injEq, tM0, tM1, rNewStrs, sgn_eq, split_dot, split_sp, split_nl, dot_len, sp_len, nl_len, cxOf_K, L2.start, List.length_cons, List.length_nil, List.replicate_succ, List.replicate_zero, Nat.reduceSub, Nat.zero_add, and_true, true_and, and_self, exists_and_left, exists_const, Bool.false_eq_true, if_false, if_true, ite_true, ite_false, reduceIte, decide_eq_true_eq, reduceCtorEq, Nat.reduceAdd, Nat.reduceLT, tMseq, tMret, tNdef1, tThru, tCallV, gFldC, tFldC, sFldC, sFldAugC, tMeth, tMethX, tMethS, tMake, tCKw, sDPut, tDGet2, tVeI, tOst, tWhy, tXf, tListZip, tCallX, tCallXU, tCallV, tCallVS, tLam1, tLamD, tCallS, tCls, tClsD, cx_cells, cx_scope, cx_N, cx_prog, cx_w, cx_base, cx_mg, cx_qual, tLstRg, tRg1, tRg2, HO.ins.injEq, HO.lst.injEq, HO.tup.injEq, HO.dK.injEq, upd_same, upd_upd, tBM, tBM0, tyV_lst, isL_lst, rAppend_ref, rExtend_ref, rClear_ref, rAdd_int, rSub_int, li_len, ne_len, Nat.reduceLT, Nat.reduceLeDiff, lk_number, lk_pattern, lk_work, lk_rank, lk_once, lk_gate, lk_group, lk_muted, lk_gone, pt_once, pt_gate, pt_group, pt_muted, pt_gone, lk_known, lk_policy, lk_most, lk_depth, lk_locks, lk_waiting, lk_store, lk_faulty, pt_depth, pt_locks, pt_waiting]
        by_cases hd : N.depth = 0
        rotate_left
        · exact ifN hd (q1 (.inr (.inl hd)) _ s1)
        refine ifP hd ?_
        by_cases hk : N.locks = 0
        rotate_left
        · exact ifN hk (q1 (.inr (.inr hk)) _ s1)
        refine ifP hk ⟨fun σ' H' => ∃ m', m' < m ∧ (∃ x1 x2, σ' = [some (V.ref a), x1, x2]) ∧ Cv m' H', fun σ' H' z => z, ?_⟩
        obtain ⟨t, line, th, rfl, ht, q3⟩ := q2 hd hk v r hw
        refine ⟨.inl ⟨rfl, _, .of N2.wt⟩, N.wt, _, 0, 0, .ref t, rfl, rfl, N2.wt, by decide, by decide, by rw [hw]; exact seqIndex0, by rw [hw]; rfl, ?_⟩
        rw [hw]
        have w3 : Fwd K (fun b => b = a ∨ b = N.wt) H1 (upd H2 N.wt (.lst r)) := (Fw.of_same s1 hT).put N2.wt (fun _ z => by cases z) (fun z => z) (.inl (.inr rfl))
        have N3 : NetAt K (upd H2 N.wt (.lst r)) a { N with wts := r } := N2.re (N' := { N with wts := r }) (fun b o hb _ _ n _ _ _ => by rw [upd_ne n]; exact hb) (by rw [upd_ne (fun z => by have := N2.net; rw [z, N2.wt] at this; cases this)]; exact N2.net) (by rw [upd_ne N2.kw]; exact N2.kn) upd_same (by rw [upd_ne N2.wf.symm]; exact N2.fl) N2.kw N2.kf N2.wf rfl rfl rfl rfl (fun _ _ z => z)
        have ht3 : upd H2 N.wt (.lst r) t = some (.tup [.str line, th]) := w3.tup ht
        show gTup K _ _ _ _ (upd H2 N.wt (.lst r)) _
        generalize upd H2 N.wt (.lst r) = H3 at w3 N3 ht3 ⊢
        refine ⟨t, _, rfl, .of ht3, rfl, ?_⟩
        simp only [N3.net, tCutE, false_and, exists_false, false_or, or_false, tRet, tRetN, tAndV, tOrV, tNotV, tChain, rI, rI0, rU, tC, tCB, tCons, tNil, tVar, tOp, tUn, tTest, tB, tAnd, tOr, tNot, tIf, tIfS, tSeq, tAsg, tDrop, tNext, gName, gTup_ref, gCons_cons, gNil_nil, and_assoc, tYes, wipe, rEq, rNe, scal_ss, scal_ii, scal_bb, scal_ns, scal_sn, scal_nn, scal_in, scal_ni, tLc_eq, tFor_eq, iList, iTup, iStr, iRng1, iRng2, iZip, iEnum, gSub, tSl, rSetL_ref, rCat_ref, rRep_ref, rJoin_ref, rSlL_ref, rSlS_ref, rMulS_ref, rIxL_ref, rIxT_ref, rLenK_ref, rAll_ref, rIn_ref, tLst, tTup, tPar, tPar3, tAug, tPart, tNoPart, tCall, List.getElem?_cons_zero, List.getElem?_cons_succ, List.set_cons_zero, List.set_cons_succ, List.map_cons, List.map_nil, List.append_nil, List.nil_append, List.cons_append, Option.some.injEq, exists_eq_left', exists_eq_left, exists_eq_right, exists_eq_right', exists_eq', V.int.injEq, V.str.injEq, V.bl.injEq, V.ref.injEq, List.cons.injEq, tM0, tM1, rNewStrs, sgn_eq, split_dot, split_sp, split_nl, dot_len, sp_len, nl_len, cxOf_K, L2.start, List.length_cons, List.length_nil, List.replicate_succ, List.replicate_zero, Nat.reduceSub, Nat.zero_add, and_true, true_and, and_self, exists_and_left, exists_const, Bool.false_eq_true, if_false, if_true, ite_true, ite_false, reduceIte, decide_eq_true_eq, reduceCtorEq, Nat.reduceAdd, Nat.reduceLT, tMseq, tMret, tNdef1, tThru, tCallV, gFldC, tFldC, sFldC, sFldAugC, tMeth, tMethX, tMethS, tMake, tCKw, sDPut, tDGet2, tVeI, tOst, tWhy, tXf, tListZip, tCallX, tCallXU, tCallV, tCallVS, tLam1, tLamD, tCallS, tCls, tClsD, cx_cells, cx_scope, cx_N, cx_prog, cx_w, cx_base, cx_mg, cx_qual, tLstRg, tRg1, tRg2, HO.ins.injEq, HO.lst.injEq, HO.tup.injEq, HO.dK.injEq, upd_same, upd_upd, tBM, tBM0, tyV_lst, isL_lst, rAppend_ref, rExtend_ref, rClear_ref, rAdd_int, rSub_int, li_len, ne_len, Nat.reduceLT, Nat.reduceLeDiff, lk_number, lk_pattern, lk_work, lk_rank, lk_once, lk_gate, lk_group, lk_muted, lk_gone, pt_once, pt_gate, pt_group, pt_muted, pt_gone, lk_known, lk_policy, lk_most, lk_depth, lk_locks, lk_waiting, lk_store, lk_faulty, pt_depth, pt_locks, pt_waiting]
        refine ⟨rfl, w3.tab, fun f c H4 e4 n4 T4 f0 f1 c1 C4 obs => ?_⟩
        have w4 : Fwd K No H3 H4 := .of_off w3.tab e4 n4 T4
        have N4 := N3.fw w4 w3.tab (fun _ _ z => z)
        refine within_mono (within_lam (fr := ["line", "self", "thing"]) (spN := spTR (K := K) (sp_tell_round P w K mg base k)) (ws := [.str line, .ref a, th]) (R := fun _ H' => ∃ m', m' < m ∧ Cv m' H') (RE := E) (N := { N with wts := r }) C4 f1 c1 rfl
          (act_lam (N := ["line", "self", "thing"]) (ps := []) (nscope_by (by kernel_rfl)) rfl (fun ws vs H Q E h => ?_) (fun pm ctv us hl => ?_) (fun A outer s H vs ws Q E hr hl h => ?_))
          [1, 0, 2] rfl (by kernel_rfl) (by kernel_rfl) (nscope_by (N := ["line", "self", "thing"]) (ps := []) (by kernel_rfl)) rfl rfl N4 T4 (fun h => ?_) (fun h B wB NB Qb Eb hq he => ?_)) (fun v H' hv => ?_) (fun _ _ _ z => z)
        · obtain ⟨_, _, _, _, _, rfl, _⟩ := h; rfl
        · match us, hl with
          | [], _ => rfl
        · obtain ⟨a, line, th, N, rfl, rfl, ha, h⟩ := h
          refine ⟨_, (pe_methG (pv 1) (M_Net_tell_round_2 T B k) (hr.mono (by first | decide | omega)) (passes_call (takes_of rfl rfl rfl rfl) (fun _ _ _ _ h => h)) (pa_cons (pv 0) (pa_cons (pv 2) pa_nil))), ?_⟩
          simp only [startF, ha, tCutE, false_and, exists_false, false_or, or_false, tRet, tRetN, tAndV, tOrV, tNotV, tChain, rI, rI0, rU, tC, tCB, tCons, tNil, tVar, tOp, tUn, tTest, tB, tAnd, tOr, tNot, tIf, tIfS, tSeq, tAsg, tDrop, tNext, gName, gTup_ref, gCons_cons, gNil_nil, and_assoc, tYes, wipe, rEq, rNe, scal_ss, scal_ii, scal_bb, scal_ns, scal_sn, scal_nn, scal_in, scal_ni, tLc_eq, tFor_eq, iList, iTup, iStr, iRng1, iRng2, iZip, iEnum, gSub, tSl, rSetL_ref, rCat_ref, rRep_ref, rJoin_ref, rSlL_ref, rSlS_ref, rMulS_ref, rIxL_ref, rIxT_ref, rLenK_ref, rAll_ref, rIn_ref, tLst, tTup, tPar, tPar3, tAug, tPart, tNoPart, tCall, List.getElem?_cons_zero, List.getElem?_cons_succ, List.set_cons_zero, List.set_cons_succ, List.map_cons, List.map_nil, List.append_nil, List.nil_append, List.cons_append, Option.some.injEq, exists_eq_left', exists_eq_left, exists_eq_right, exists_eq_right', exists_eq', V.int.injEq, V.str.injEq, V.bl.injEq, V.ref.injEq, List.cons.injEq, tM0, tM1, rNewStrs, sgn_eq, split_dot, split_sp, split_nl, dot_len, sp_len, nl_len, cxOf_K, L2.start, List.length_cons, List.length_nil, List.replicate_succ, List.replicate_zero, Nat.reduceSub, Nat.zero_add, and_true, true_and, and_self, exists_and_left, exists_const, Bool.false_eq_true, if_false, if_true, ite_true, ite_false, reduceIte, decide_eq_true_eq, reduceCtorEq, Nat.reduceAdd, Nat.reduceLT, tMseq, tMret, tNdef1, tThru, tCallV, gFldC, tFldC, sFldC, sFldAugC, tMeth, tMethX, tMethS, tMake, tCKw, sDPut, tDGet2, tVeI, tOst, tWhy, tXf, tListZip, tCallX, tCallXU, tCallV, tCallVS, tLam1, tLamD, tCallS, tCls, tClsD, cx_cells, cx_scope, cx_N, cx_prog, cx_w, cx_base, cx_mg, cx_qual, tLstRg, tRg1, tRg2, HO.ins.injEq, HO.lst.injEq, HO.tup.injEq, HO.dK.injEq, upd_same, upd_upd, tBM, tBM0, tyV_lst, isL_lst, rAppend_ref, rExtend_ref, rClear_ref, rAdd_int, rSub_int, li_len, ne_len, Nat.reduceLT, Nat.reduceLeDiff, lk_number, lk_pattern, lk_work, lk_rank, lk_once, lk_gate, lk_group, lk_muted, lk_gone, pt_once, pt_gate, pt_group, pt_muted, pt_gone, lk_known, lk_policy, lk_most, lk_depth, lk_locks, lk_waiting, lk_store, lk_faulty, pt_depth, pt_locks, pt_waiting]
          exact ⟨rfl, h⟩
        · exact absurd h (by show N.depth ≠ 20; omega)
        · exact ⟨a, line, th, _, rfl, rfl, NB.net, tell_round_mono (q3 B ((w3.trans (w4.mono fun _ z => z.elim)).trans (wB.mono fun _ z => .inl z)) NB) hq he⟩
        · obtain ⟨_, _, m', hm, hC⟩ := hv
          exact ⟨m', hm, hC⟩
theorem M_Net_clear_0 (T : Tx K mg) (B : Tb K mg base) (k : Nat) : MethG P w K mg base (L2.CX P w) (k + 9) (He.ga K "Net") "clear" p_Net_clear ([]) (sp_clear P w K mg base k) := by
  obtain ⟨fd, F, ok⟩ := O_Net_clear T B k
  
  exact ⟨_, fd, [], T.cls_Net, T.m_Net_clear, ok, .nil, F.bindsN fun _ _ _ _ _ _ us hl => match us, hl with | [_], _ => rfl⟩
/-! ### going -/
def sp_going (P : Program) (w : World) (K : PySem.W.Frag) (mg : Str → Option Value) (base : Heap) (k : Nat) : Sp := fun vs H Q E => ∃ (a f : Addr), vs = [.ref a, .ref f] ∧ (∃ dx fs, H a = some (.ins (NC K) dx fs) ∧ fs.lookup ("within" : Str) = none) ∧
  sp_within P w K mg base (k + 7) vs H (fun v H2 => (∃ dx fs, H2 a = some (.ins (NC K) dx fs) ∧ fs.lookup ("clear" : Str) = none) ∧ spF (sp_clear P w K mg base k) [.ref a] H2 (fun _ H3 => Q v H3) E) E
theorem O_Net_going (T : Tx K mg) (B : Tb K mg base) (k : Nat) : ∃ fd, F_Net_going K (He.fAd K ("Net", some "going")) fd ∧ FnOk P w K mg base (L2.CX P w) (k + 10) (He.fAd K ("Net", some "going")) fd p_Net_going (sp_going P w K mg base k) := by
  obtain ⟨fd, F⟩ := T.f_Net_going
  refine ⟨fd, F, F.ok sc_Net_going (fun vs H Q E h => ?_) (fun cdv A outer s H vs Q E hr h => ?_)⟩
  · obtain ⟨a, f, rfl, _⟩ := h; rfl
  · obtain ⟨a, f, rfl, ⟨dx, fs, ha, hfs⟩, q⟩ := h
    refine ⟨_, (pss_cons (ps_set (i := 2) sc_Net_going.nd rfl (Or.inl rfl) (pe_methG (pv 0) (M_Net_within_1 T B (k + 7)) (hr.mono (by first | decide | omega)) (passes_call (takes_of rfl rfl rfl rfl) (fun _ _ _ _ h => h)) (pa_cons (pv 1) pa_nil)))
      (pss_cons (ps_expr (pe_methG0 (pv 0) (M_Net_clear_0 T B k).framed (hr.mono (by first | decide | omega)) (passes_call (takes_of rfl rfl rfl rfl) (fun _ _ _ _ h => h))))
      (pss_one (ps_ret (pv 2))))), ?_⟩
    simp only [ha, hfs, tCutE, false_and, exists_false, false_or, or_false, tRet, tRetN, tAndV, tOrV, tNotV, tChain, rI, rI0, rU, tC, tCB, tCons, tNil, tVar, tOp, tUn, tTest, tB, tAnd, tOr, tNot, tIf, tIfS, tSeq, tAsg, tDrop, tNext, gName, gTup_ref, gCons_cons, gNil_nil, and_assoc, tYes, wipe, rEq, rNe, scal_ss, scal_ii, scal_bb, scal_ns, scal_sn, scal_nn, scal_in, scal_ni, tLc_eq, tFor_eq, iList, iTup, iStr, iRng1, iRng2, iZip, iEnum, gSub, tSl, rSetL_ref, rCat_ref, rRep_ref, rJoin_ref, rSlL_ref, rSlS_ref, rMulS_ref, rIxL_ref, rIxT_ref, rLenK_ref, rAll_ref, rIn_ref, tLst, tTup, tPar, tPar3, tAug, tPart, tNoPart, tCall, List.getElem?_cons_zero, List.getElem?_cons_succ, List.set_cons_zero, List.set_cons_succ, List.map_cons, List.map_nil, List.append_nil, List.nil_append, List.cons_append, Option.some.injEq, exists_eq_left', exists_eq_left, exists_eq_right, exists_eq_right', exists_eq', V.int.injEq, V.str.injEq, V.bl.injEq, V.ref.injEq, List.cons.injEq, tM0, tM1, rNewStrs, sgn_eq, split_dot, split_sp, split_nl, dot_len, sp_len, nl_len, cxOf_K, L2.start, List.length_cons, List.length_nil, List.replicate_succ, List.replicate_zero, Nat.reduceSub, Nat.zero_add, and_true, true_and, and_self, exists_and_left, exists_const, Bool.false_eq_true, if_false, if_true, ite_true, ite_false, reduceIte, decide_eq_true_eq, reduceCtorEq, Nat.reduceAdd, Nat.reduceLT, tMseq, tMret, tNdef1, tThru, tCallV, gFldC, tFldC, sFldC, sFldAugC, tMeth, tMethX, tMethS, tMake, tCKw, sDPut, tDGet2, tVeI, tOst, tWhy, tXf, tListZip, tCallX, tCallXU, tCallV, tCallVS, tLam1, tLamD, tCallS, tCls, tClsD, cx_cells, cx_scope, cx_N, cx_prog, cx_w, cx_base, cx_mg, cx_qual, tLstRg, tRg1, tRg2, HO.ins.injEq, HO.lst.injEq, HO.tup.injEq, HO.dK.injEq, upd_same, upd_upd, tBM, tBM0, tyV_lst, isL_lst, rAppend_ref, rExtend_ref, rClear_ref, rAdd_int, rSub_int, li_len, ne_len, Nat.reduceLT, Nat.reduceLeDiff, lk_number, lk_pattern, lk_work, lk_rank, lk_once, lk_gate, lk_group, lk_muted, lk_gone, pt_once, pt_gate, pt_group, pt_muted, pt_gone, lk_known, lk_policy, lk_most, lk_depth, lk_locks, lk_waiting, lk_store, lk_faulty, pt_depth, pt_locks, pt_waiting]
    refine within_mono q (fun v H2 hv => ?_) (fun _ _ _ z => z)
    obtain ⟨⟨dx, fs, h1, h2⟩, q⟩ := hv
    simp only [h1, h2, tCutE, false_and, exists_false, false_or, or_false, tRet, tRetN, tAndV, tOrV, tNotV, tChain, rI, rI0, rU, tC, tCB, tCons, tNil, tVar, tOp, tUn, tTest, tB, tAnd, tOr, tNot, tIf, tIfS, tSeq, tAsg, tDrop, tNext, gName, gTup_ref, gCons_cons, gNil_nil, and_assoc, tYes, wipe, rEq, rNe, scal_ss, scal_ii, scal_bb, scal_ns, scal_sn, scal_nn, scal_in, scal_ni, tLc_eq, tFor_eq, iList, iTup, iStr, iRng1, iRng2, iZip, iEnum, gSub, tSl, rSetL_ref, rCat_ref, rRep_ref, rJoin_ref, rSlL_ref, rSlS_ref, rMulS_ref, rIxL_ref, rIxT_ref, rLenK_ref, rAll_ref, rIn_ref, tLst, tTup, tPar, tPar3, tAug, tPart, tNoPart, tCall, List.getElem?_cons_zero, List.getElem?_cons_succ, List.set_cons_zero, List.set_cons_succ, List.map_cons, List.map_nil, List.append_nil, List.nil_append, List.cons_append, Option.some.injEq, exists_eq_left', exists_eq_left, exists_eq_right, exists_eq_right', exists_eq', V.int.injEq, V.str.injEq, V.bl.injEq, V.ref.injEq, List.cons.injEq, tM0, tM1, rNewStrs, sgn_eq, split_dot, split_sp, split_nl, dot_len, sp_len, nl_len, cxOf_K, L2.start, List.length_cons, List.length_nil, List.replicate_succ, List.replicate_zero, Nat.reduceSub, Nat.zero_add, and_true, true_and, and_self, exists_and_left, exists_const, Bool.false_eq_true, if_false, if_true, ite_true, ite_false, reduceIte, decide_eq_true_eq, reduceCtorEq, Nat.reduceAdd, Nat.reduceLT, tMseq, tMret, tNdef1, tThru, tCallV, gFldC, tFldC, sFldC, sFldAugC, tMeth, tMethX, tMethS, tMake, tCKw, sDPut, tDGet2, tVeI, tOst, tWhy, tXf, tListZip, tCallX, tCallXU, tCallV, tCallVS, tLam1, tLamD, tCallS, tCls, tClsD, cx_cells, cx_scope, cx_N, cx_prog, cx_w, cx_base, cx_mg, cx_qual, tLstRg, tRg1, tRg2, HO.ins.injEq, HO.lst.injEq, HO.tup.injEq, HO.dK.injEq, upd_same, upd_upd, tBM, tBM0, tyV_lst, isL_lst, rAppend_ref, rExtend_ref, rClear_ref, rAdd_int, rSub_int, li_len, ne_len, Nat.reduceLT, Nat.reduceLeDiff, lk_number, lk_pattern, lk_work, lk_rank, lk_once, lk_gate, lk_group, lk_muted, lk_gone, pt_once, pt_gate, pt_group, pt_muted, pt_gone, lk_known, lk_policy, lk_most, lk_depth, lk_locks, lk_waiting, lk_store, lk_faulty, pt_depth, pt_locks, pt_waiting]
    exact q
theorem M_Net_going_1 (T : Tx K mg) (B : Tb K mg base) (k : Nat) : MethG P w K mg base (L2.CX P w) (k + 10) (He.ga K "Net") "going" p_Net_going ([]) (sp_going P w K mg base k) := by
  obtain ⟨fd, F, ok⟩ := O_Net_going T B k
  
  exact ⟨_, fd, [], T.cls_Net, T.m_Net_going, ok, .nil, F.bindsN fun _ _ _ _ _ _ us hl => match us, hl with | [_, _], _ => rfl⟩
theorem delC_congr {cm cl : List (Str × Addr)} {H : Hp} (h : ∀ b, InC cm b ↔ InC cl b) : delC cm H = delC cl H := funext fun b => by
  by_cases z : InC cm b
  · rw [delC_in z, delC_in ((h b).mp z)]
  · rw [delC_out z, delC_out (fun y => z ((h b).mpr y))]
theorem del_put {cm cl : List (Str × Addr)} {G H : Hp} (h : ∀ b, InC cm b ↔ InC cl b) (hz : ∀ b, InC cl b → H b = none) : delC cm (putC cl G H) = H := funext fun b => by
  by_cases z : InC cm b
  · rw [delC_in z, hz b ((h b).mp z)]
  · rw [delC_out z, putC_out (fun y => z ((h b).mpr y))]
/-- self.going(lambda: ..) -/
theorem going_lam {cm : List (Str × Addr)} {sc : Scope} {N_ : List Str} {σ : L2.St} {obs : Addr → Obj} {H : Hp} {a f : Addr} {L : LF} {fr : List Str} {spN : List (Option V) → Sp} {ws : List V} {N' ps' : List Str} {Q : VK} {E : XK} {N : NetS} {k : Nat} (C : CEnv cm sc N_ H) (hf : H f = some (LamO f L)) (hc : H L.c = some (CodeO L.c L.qual)) (hd : L.dT = none)
    (ac : Act P w K mg base (k + 7) f (spLam f L fr [] spN)) (js : List Nat) (hL : L.cl = cloFrom cm L.scope.names []) (hb : ndefB sc L.scope fr = true) (hall : (cm.map (·.1)).all (fun y => L.scope.names.contains (y, NameKind.free)) = true) (S : NScope N' ps' fr L.scope) (hjs : js.map (fun j => N_[j]?) = fr.map some) (hws : js.map (fun j => σ[j]?) = ws.map (fun v => some (some v)))
    (hN : NetAt K H a N) (hT : Tab K H) (hdeep : N.depth = 20 → E (.ref (He.ga K "TooDeep")) none H)
    (body : N.depth ≠ 20 → ∀ B, Fwd K (fun b => b = a) H B → NetAt K B a { N with depth := N.depth + 1 } → Runs (spN (ws.map some)) [] B (endV K a fun v H3 => sp_clear P w K mg base k [.ref a] H3 (fun _ H4 => Q v H4) E) (excV K a E)) :
    sp_going P w K mg base k [.ref a, .ref f] (exC cm sc N_ σ obs H) (fun v H' => Q v (delC cm H')) (fun c d H' => E c d (delC cm H')) := by
  refine ⟨a, f, rfl, ⟨N.dx, netV N, C.same _ _ hN.net, rfl⟩, within_mono (within_lam (R := fun v H3 => (∃ dx fs, H3 a = some (.ins (NC K) dx fs) ∧ fs.lookup ("clear" : Str) = none) ∧ sp_clear P w K mg base k [.ref a] H3 (fun _ H4 => Q v H4) E) (RE := E) C hf hc hd ac js hL hb hall S hjs hws hN hT hdeep (fun h0 B wB NB => (body h0 B wB NB).mono (fun v H2 hv => ?_) fun _ _ _ z => z)) (fun v H' hv => ?_) (fun _ _ _ z => z)⟩
  · obtain ⟨t, N2, h2, e1⟩ := hv
    exact ⟨t, N2, h2, fun H3 w3 N3 => ⟨⟨_, _, N3.net, rfl⟩, e1 H3 w3 N3⟩⟩
  · obtain ⟨caps, hcc, ⟨dx, fs, h1, h2⟩, q⟩ := hv
    have nz : ¬ InC cm a := fun z => by rw [delC_in z] at h1; cases h1
    rw [delC_out nz] at h1
    refine ⟨⟨dx, fs, h1, h2⟩, L.cl, caps.cs, ?_⟩
    rw [← delC_congr hcc]
    refine clear_mono q (fun _ H4 h4 hz => ?_) (fun c d H4 h4 hz => ?_)
    · show Q v (delC cm (putC L.cl H' H4))
      rw [del_put hcc hz]; exact h4
    · show E c d (delC cm (putC L.cl H' H4))
      rw [del_put hcc hz]; exact h4
/-! ### tell -/
theorem Tx.ways (T : Tx K mg) (H : Hp) : SqT K H (He.ga K "WAYS") ([("deep" : Str), ("behind" : Str), ("never" : Str)].map V.str) := tupB_ok T.e_ways H
def sp_tell (P : Program) (w : World) (K : PySem.W.Frag) (mg : Str → Option Value) (base : Heap) (k : Nat) : Sp := fun vs H Q E => ∃ (a : Addr) (N : NetS) (line how : Str) (th : V), vs = [.ref a, .str line, th, .str how] ∧ NetAt K H a N ∧ Tab K H ∧ line.length ≤ 1000 ∧
  (isLine line = false → ∀ H', Same H H' → E (.ref (He.ga K "BadLine")) none H') ∧
  (isLine line = true → how ∉ [("deep" : Str), ("behind" : Str), ("never" : Str)] → ∀ H', Same H H' → E (.ref (He.ga K "BadWord")) none H') ∧
  (isLine line = true → (0 < N.locks ∨ (0 < N.depth ∧ how ≠ "deep")) → how = "never" → ∀ H', Same H H' → E (.ref (He.ga K "Busy")) none H') ∧
  (isLine line = true → (0 < N.locks ∨ (0 < N.depth ∧ how ≠ "deep")) → how = "deep" ∨ how = "behind" → N.wts.length < 10000 ∧ ∀ H' t, Fwd K (fun b => b = N.wt) H H' → H t = none → H' t = some (.tup [.str line, th]) → NetAt K H' a { N with wts := N.wts ++ [.ref t] } → Q .non H') ∧
  (isLine line = true → how ∈ [("deep" : Str), ("behind" : Str), ("never" : Str)] → ¬ (0 < N.locks ∨ (0 < N.depth ∧ how ≠ "deep")) → (N.depth = 20 → ∀ H', Fwd K No H H' → E (.ref (He.ga K "TooDeep")) none H') ∧
    (N.depth ≠ 20 → ∀ H1, Fwd K (fun b => b = a) H H1 → NetAt K H1 a { N with depth := N.depth + 1 } → sp_tell_round P w K mg base k [.ref a, .str line, th] H1 (endV K a fun v H3 => sp_clear P w K mg base k [.ref a] H3 (fun _ H4 => Q v H4) E) (excV K a E)))
theorem O_Net_tell (T : Tx K mg) (B : Tb K mg base) (k : Nat) : ∃ fd, F_Net_tell K (He.fAd K ("Net", some "tell")) fd ∧ FnOk P w K mg base (L2.CX P w) (k + 11) (He.fAd K ("Net", some "tell")) fd p_Net_tell (sp_tell P w K mg base k) := by
  obtain ⟨fd, F⟩ := T.f_Net_tell
  refine ⟨fd, F, okT (p := ("Net", some "tell")) F sc_Net_tell (fun vs H Q E h => ?_) (fun A outer s H vs Q E hr h => ?_)⟩
  · obtain ⟨a, N, line, how, th, rfl, _⟩ := h; rfl
  · obtain ⟨a, N, line, how, th, rfl, hN, hT, hl, q1, q2, q3, q4, q5⟩ := h
    refine ⟨_, (pss_cons (ps_expr (pe_callG (G_need_line T) (hr.mono (by first | decide | omega)) (by rfl) (passes_call (takes_of rfl rfl rfl rfl) (fun _ _ _ _ h => h)) (pa_cons (pv 1) pa_nil)))
      (pss_cons (ps_if (pt_cmpR (op_notIn_seqK (K := K) rfl) (pv 3) (pe_glob (v := V.ref (He.ga K "WAYS")) rfl T.g_WAYS rfl) (by rfl))
      (pss_one (ps_raise rfl (takes_of rfl rfl rfl rfl) (pmk_own PySem.F.excBase_ValueError T.x_BadWord.1 T.g_BadWord T.x_BadWord.2.1 (raises_own T.x_BadWord.2.2.1 T.x_BadWord.2.2.2) rfl)))
      pss_nil)
      (pss_cons (ps_if (PW.pt (pw_or (pt_cmpR op_gt (pe_fldC (K := K) rfl (pv 0) T.cls_Net T.n_Net_locks) pe_int (nomark _)) (pw_or1 (PW.pt (pw_and (pt_cmpR op_gt (pe_fldC (K := K) rfl (pv 0) T.cls_Net T.n_Net_depth) pe_int (nomark _)) (pw_and1 (pt_cmpR op_ne (pv 3) pe_str (nomark _))))))))
      (pss_cons (ps_if (pt_cmpR op_eq (pv 3) pe_str (nomark _))
      (pss_one (ps_raise rfl (takes_of rfl rfl rfl rfl) (pmk_own PySem.F.excBase_ValueError T.x_Busy.1 T.g_Busy T.x_Busy.2.1 (raises_own T.x_Busy.2.2.1 T.x_Busy.2.2.2) rfl)))
      pss_nil)
      (pss_cons (ps_expr (pe_bmK (K := K) rfl PySem.F.plainAttrs_list PySem.F.slot_list_append PySem.F.type_list_append mt_append (pe_fldC (K := K) rfl (pv 0) T.cls_Net T.n_Net_waiting) (pa_cons (pe_tup (pa_cons (pv 1) (pa_cons (pv 2) pa_nil))) pa_nil)))
      (pss_one (ps_ret pe_non))))
      pss_nil)
      (pss_one (ps_ret (pe_methXG (pv 0) (M_Net_going_1 T B k) (hr.mono (by first | decide | omega)) (passes_call (takes_of rfl rfl rfl rfl) (fun _ _ _ _ h => h)) sc_Net_tell.nd (fun _ _ _ => rfl) (pa_cons (pe_lam (Ts := Ts K) (nm := nm) (B.t_Net_tell) rfl (m_Net_tell K) (show nm 227 26 = Str.ofString "Net.tell.<locals>." ++ Str.ofString "<lambda>" by decide +kernel) (ndef_free (sc := defScope s_Net_tell) (fr := ["line", "self", "thing"]) (by decide +kernel)) rfl) pa_nil))))))), ?_⟩
    simp only [tCutE, false_and, exists_false, false_or, or_false, tRet, tRetN, tAndV, tOrV, tNotV, tChain, rI, rI0, rU, tC, tCB, tCons, tNil, tVar, tOp, tUn, tTest, tB, tAnd, tOr, tNot, tIf, tIfS, tSeq, tAsg, tDrop, tNext, gName, gTup_ref, gCons_cons, gNil_nil, and_assoc, tYes, wipe, rEq, rNe, scal_ss, scal_ii, scal_bb, scal_ns, scal_sn, scal_nn, scal_in, scal_ni, tLc_eq, tFor_eq, iList, iTup, iStr, iRng1, iRng2, iZip, iEnum, gSub, tSl, rSetL_ref, rCat_ref, rRep_ref, rJoin_ref, rSlL_ref, rSlS_ref, rMulS_ref, rIxL_ref, rIxT_ref, rLenK_ref, rAll_ref, rIn_ref, tLst, tTup, tPar, tPar3, tAug, tPart, tNoPart, tCall, List.getElem?_cons_zero, List.getElem?_cons_succ, List.set_cons_zero, List.set_cons_succ, List.map_cons, List.map_nil, List.append_nil, List.nil_append, List.cons_append, Option.some.injEq, exists_eq_left', exists_eq_left, exists_eq_right, exists_eq_right', exists_eq', V.int.injEq, V.str.injEq, V.bl.injEq, V.ref.injEq, List.cons.injEq, tM0, tM1, rNewStrs, sgn_eq, split_dot, split_sp, split_nl, dot_len, sp_len, nl_len, cxOf_K, L2.start, List.length_cons, List.length_nil, List.replicate_succ, List.replicate_zero, Nat.reduceSub, Nat.zero_add, and_true, true_and, and_self, exists_and_left, exists_const, Bool.false_eq_true, if_false, if_true, ite_true, ite_false, reduceIte, decide_eq_true_eq, reduceCtorEq, Nat.reduceAdd, Nat.reduceLT, tMseq, tMret, tNdef1, tThru, tCallV, gFldC, tFldC, sFldC, sFldAugC, tMeth, tMethX, tMethS, tMake, tCKw, sDPut, tDGet2, tVeI, tOst, tWhy, tXf, tListZip, tCallX, tCallXU, tCallV, tCallVS, tLam1, tLamD, tCallS, tCls, tClsD, cx_cells, cx_scope, cx_N, cx_prog, cx_w, cx_base, cx_mg, cx_qual, tLstRg, tRg1, tRg2, HO.ins.injEq, HO.lst.injEq, HO.tup.injEq, HO.dK.injEq, upd_same, upd_upd, tBM, tBM0, tyV_lst, isL_lst, rAppend_ref, rExtend_ref, rClear_ref, rAdd_int, rSub_int, li_len, ne_len, Nat.reduceLT, Nat.reduceLeDiff, lk_number, lk_pattern, lk_work, lk_rank, lk_once, lk_gate, lk_group, lk_muted, lk_gone, pt_once, pt_gate, pt_group, pt_muted, pt_gone, lk_known, lk_policy, lk_most, lk_depth, lk_locks, lk_waiting, lk_store, lk_faulty, pt_depth, pt_locks, pt_waiting]
    refine ⟨line, rfl, by omega, fun e H1 s1 => ?_, fun e H1 s1 => q1 e H1 s1⟩
    have N1 := hN.same s1
    simp only [N1.net, tCutE, false_and, exists_false, false_or, or_false, tRet, tRetN, tAndV, tOrV, tNotV, tChain, rI, rI0, rU, tC, tCB, tCons, tNil, tVar, tOp, tUn, tTest, tB, tAnd, tOr, tNot, tIf, tIfS, tSeq, tAsg, tDrop, tNext, gName, gTup_ref, gCons_cons, gNil_nil, and_assoc, tYes, wipe, rEq, rNe, scal_ss, scal_ii, scal_bb, scal_ns, scal_sn, scal_nn, scal_in, scal_ni, tLc_eq, tFor_eq, iList, iTup, iStr, iRng1, iRng2, iZip, iEnum, gSub, tSl, rSetL_ref, rCat_ref, rRep_ref, rJoin_ref, rSlL_ref, rSlS_ref, rMulS_ref, rIxL_ref, rIxT_ref, rLenK_ref, rAll_ref, rIn_ref, tLst, tTup, tPar, tPar3, tAug, tPart, tNoPart, tCall, List.getElem?_cons_zero, List.getElem?_cons_succ, List.set_cons_zero, List.set_cons_succ, List.map_cons, List.map_nil, List.append_nil, List.nil_append, List.cons_append, Option.some.injEq, exists_eq_left', exists_eq_left, exists_eq_right, exists_eq_right', exists_eq', V.int.injEq, V.str.injEq, V.bl.injEq, V.ref.injEq, List.cons.injEq, tM0, tM1, rNewStrs, sgn_eq, split_dot, split_sp, split_nl, dot_len, sp_len, nl_len, cxOf_K, L2.start, List.length_cons, List.length_nil, List.replicate_succ, List.replicate_zero, Nat.reduceSub, Nat.zero_add, and_true, true_and, and_self, exists_and_left, exists_const, Bool.false_eq_true, if_false, if_true, ite_true, ite_false, reduceIte, decide_eq_true_eq, reduceCtorEq, Nat.reduceAdd, Nat.reduceLT, tMseq, tMret, tNdef1, tThru, tCallV, gFldC, tFldC, sFldC, sFldAugC, tMeth, tMethX, tMethS, tMake, tCKw, sDPut, tDGet2, tVeI, tOst, tWhy, tXf, tListZip, tCallX, tCallXU, tCallV, tCallVS, tLam1, tLamD, tCallS, tCls, tClsD, cx_cells, cx_scope, cx_N, cx_prog, cx_w, cx_base, cx_mg, cx_qual, tLstRg, tRg1, tRg2, HO.ins.injEq, HO.lst.injEq, HO.tup.injEq, HO.dK.injEq, upd_same, upd_upd, tBM, tBM0, tyV_lst, isL_lst, rAppend_ref, rExtend_ref, rClear_ref, rAdd_int, rSub_int, li_len, ne_len, Nat.reduceLT, Nat.reduceLeDiff, lk_number, lk_pattern, lk_work, lk_rank, lk_once, lk_gate, lk_group, lk_muted, lk_gone, pt_once, pt_gate, pt_group, pt_muted, pt_gone, lk_known, lk_policy, lk_most, lk_depth, lk_locks, lk_waiting, lk_store, lk_faulty, pt_depth, pt_locks, pt_waiting]
    refine ⟨_, .inr (T.ways H1), rfl, rfl, ?_⟩
    rw [inV_strs]
    by_cases hw : how ∈ [("deep" : Str), ("behind" : Str), ("never" : Str)]
    rotate_left
    · exact ifP (by simp [hw]) (q2 e hw H1 s1)
    refine ifN (by simp [hw]) ?_
    have hdd : (!decide (how = Str.ofString "deep")) = true ↔ how ≠ Str.ofString "deep" := by simp
    by_cases hc : 0 < N.locks ∨ (0 < N.depth ∧ how ≠ "deep")
    · refine if_wait3 (hc.imp id fun z => ⟨z.1, hdd.mpr z.2⟩) ?_
      by_cases hn : how = "never"
      · exact ifP hn (q3 e hc hn H1 s1)
      refine ifN hn ?_
      obtain ⟨hf, q4⟩ := q4 e hc (by
        simp only [List.mem_cons, List.not_mem_nil, or_false] at hw
        exact hw.elim .inl fun z => z.elim .inr fun z => absurd z hn)
      simp only [N1.wt, tCutE, false_and, exists_false, false_or, or_false, tRet, tRetN, tAndV, tOrV, tNotV, tChain, rI, rI0, rU, tC, tCB, tCons, tNil, tVar, tOp, tUn, tTest, tB, tAnd, tOr, tNot, tIf, tIfS, tSeq, tAsg, tDrop, tNext, gName, gTup_ref, gCons_cons, gNil_nil, and_assoc, tYes, wipe, rEq, rNe, scal_ss, scal_ii, scal_bb, scal_ns, scal_sn, scal_nn, scal_in, scal_ni, tLc_eq, tFor_eq, iList, iTup, iStr, iRng1, iRng2, iZip, iEnum, gSub, tSl, rSetL_ref, rCat_ref, rRep_ref, rJoin_ref, rSlL_ref, rSlS_ref, rMulS_ref, rIxL_ref, rIxT_ref, rLenK_ref, rAll_ref, rIn_ref, tLst, tTup, tPar, tPar3, tAug, tPart, tNoPart, tCall, List.getElem?_cons_zero, List.getElem?_cons_succ, List.set_cons_zero, List.set_cons_succ, List.map_cons, List.map_nil, List.append_nil, List.nil_append, List.cons_append, Option.some.injEq, exists_eq_left', exists_eq_left, exists_eq_right, exists_eq_right', exists_eq', V.int.injEq, V.str.injEq, V.bl.injEq, V.ref.injEq, List.cons.injEq, tM0, tM1, rNewStrs, sgn_eq, split_dot, split_sp, split_nl, dot_len, sp_len, nl_len, cxOf_K, L2.start, List.length_cons, List.length_nil, List.replicate_succ, List.replicate_zero, Nat.reduceSub, Nat.zero_add, and_true, true_and, and_self, exists_and_left, exists_const, Bool.false_eq_true, if_false, if_true, ite_true, ite_false, reduceIte, decide_eq_true_eq, reduceCtorEq, Nat.reduceAdd, Nat.reduceLT, tMseq, tMret, tNdef1, tThru, tCallV, gFldC, tFldC, sFldC, sFldAugC, tMeth, tMethX, tMethS, tMake, tCKw, sDPut, tDGet2, tVeI, tOst, tWhy, tXf, tListZip, tCallX, tCallXU, tCallV, tCallVS, tLam1, tLamD, tCallS, tCls, tClsD, cx_cells, cx_scope, cx_N, cx_prog, cx_w, cx_base, cx_mg, cx_qual, tLstRg, tRg1, tRg2, HO.ins.injEq, HO.lst.injEq, HO.tup.injEq, HO.dK.injEq, upd_same, upd_upd, tBM, tBM0, tyV_lst, isL_lst, rAppend_ref, rExtend_ref, rClear_ref, rAdd_int, rSub_int, li_len, ne_len, Nat.reduceLT, Nat.reduceLeDiff, lk_number, lk_pattern, lk_work, lk_rank, lk_once, lk_gate, lk_group, lk_muted, lk_gone, pt_once, pt_gate, pt_group, pt_muted, pt_gone, lk_known, lk_policy, lk_most, lk_depth, lk_locks, lk_waiting, lk_store, lk_faulty, pt_depth, pt_locks, pt_waiting]
      refine ⟨by decide, fun t nt => ⟨_, by rw [upd_ne (ne_of_none N1.wt nt)]; exact N1.wt, Nat.lt_of_lt_of_le hf (by decide), ?_⟩⟩
      have s2 : Same H1 (upd H1 t (.tup [V.str line, th])) := same_put (Same.refl _) nt
      have N2 := N1.same s2
      have f2 : upd H1 t (.tup [V.str line, th]) t = some (.tup [V.str line, th]) := upd_same
      generalize hH2 : upd H1 t (.tup [V.str line, th]) = H2 at s2 N2 f2 ⊢
      have ntw : t ≠ N.wt := fun z => by rw [z, N2.wt] at f2; cases f2
      refine q4 _ t ((Fw.of_same (s1.trans s2) hT).put N2.wt (fun _ z => by cases z) (fun z => z) (.inl rfl)) (s1.free nt) (by rw [upd_ne ntw]; exact f2) ?_
      exact N2.re (N' := { N with wts := N.wts ++ [.ref t] }) (fun b o hb _ _ n _ _ _ => by rw [upd_ne n]; exact hb) (by rw [upd_ne (fun z => by have := N2.net; rw [z, N2.wt] at this; cases this)]; exact N2.net) (by rw [upd_ne N2.kw]; exact N2.kn) upd_same (by rw [upd_ne N2.wf.symm]; exact N2.fl) N2.kw N2.kf N2.wf rfl rfl rfl rfl (fun _ _ z => z)
    · refine if_go3 (fun z => hc (z.imp id fun z => ⟨z.1, hdd.mp z.2⟩)) ?_
      have T1 : Tab K H1 := hT.ext s1
      refine ⟨rfl, T1, fun f c H2 e2 n2 T2 f0 f1 c1 C2 obs => ?_⟩
      have w2 : Fwd K No H H2 := (Fw.of_same s1 hT).trans (.of_off T1 e2 n2 T2)
      have N2 := hN.fw w2 hT (fun _ _ z => z)
      obtain ⟨q6, q7⟩ := q5 e hw hc
      refine going_lam (fr := ["line", "self", "thing"]) (spN := spTR (K := K) (sp_tell_round P w K mg base k)) (ws := [.str line, .ref a, th]) (E := E) (N := N) C2 f1 c1 rfl
        (act_lam (N := ["line", "self", "thing"]) (ps := []) (nscope_by (by kernel_rfl)) rfl (fun ws vs H Q E h => ?_) (fun pm ctv us hl => ?_) (fun A outer s H vs ws Q E hr hl h => ?_))
        [1, 0, 2] rfl (by kernel_rfl) (by kernel_rfl) (nscope_by (N := ["line", "self", "thing"]) (ps := []) (by kernel_rfl)) rfl rfl N2 T2 (fun h => q6 h _ w2) (fun h B wB NB Qb Eb hq he => ?_)
      · obtain ⟨_, _, _, _, _, rfl, _⟩ := h; rfl
      · match us, hl with
        | [], _ => rfl
      · obtain ⟨a, line, th, N, rfl, rfl, ha, h⟩ := h
        refine ⟨_, (pe_methG (pv 1) (M_Net_tell_round_2 T B k) (hr.mono (by first | decide | omega)) (passes_call (takes_of rfl rfl rfl rfl) (fun _ _ _ _ h => h)) (pa_cons (pv 0) (pa_cons (pv 2) pa_nil))), ?_⟩
        simp only [startF, ha, tCutE, false_and, exists_false, false_or, or_false, tRet, tRetN, tAndV, tOrV, tNotV, tChain, rI, rI0, rU, tC, tCB, tCons, tNil, tVar, tOp, tUn, tTest, tB, tAnd, tOr, tNot, tIf, tIfS, tSeq, tAsg, tDrop, tNext, gName, gTup_ref, gCons_cons, gNil_nil, and_assoc, tYes, wipe, rEq, rNe, scal_ss, scal_ii, scal_bb, scal_ns, scal_sn, scal_nn, scal_in, scal_ni, tLc_eq, tFor_eq, iList, iTup, iStr, iRng1, iRng2, iZip, iEnum, gSub, tSl, rSetL_ref, rCat_ref, rRep_ref, rJoin_ref, rSlL_ref, rSlS_ref, rMulS_ref, rIxL_ref, rIxT_ref, rLenK_ref, rAll_ref, rIn_ref, tLst, tTup, tPar, tPar3, tAug, tPart, tNoPart, tCall, List.getElem?_cons_zero, List.getElem?_cons_succ, List.set_cons_zero, List.set_cons_succ, List.map_cons, List.map_nil, List.append_nil, List.nil_append, List.cons_append, Option.some.injEq, exists_eq_left', exists_eq_left, exists_eq_right, exists_eq_right', exists_eq', V.int.injEq, V.str.injEq, V.bl.injEq, V.ref.injEq, List.cons.injEq, tM0, tM1, rNewStrs, sgn_eq, split_dot, split_sp, split_nl, dot_len, sp_len, nl_len, cxOf_K, L2.start, List.length_cons, List.length_nil, List.replicate_succ, List.replicate_zero, Nat.reduceSub, Nat.zero_add, and_true, true_and, and_self, exists_and_left, exists_const, Bool.false_eq_true, if_false, if_true, ite_true, ite_false, reduceIte, decide_eq_true_eq, reduceCtorEq, Nat.reduceAdd, Nat.reduceLT, tMseq, tMret, tNdef1, tThru, tCallV, gFldC, tFldC, sFldC, sFldAugC, tMeth, tMethX, tMethS, tMake, tCKw, sDPut, tDGet2, tVeI, tOst, tWhy, tXf, tListZip, tCallX, tCallXU, tCallV, tCallVS, tLam1, tLamD, tCallS, tCls, tClsD, cx_cells, cx_scope, cx_N, cx_prog, cx_w, cx_base, cx_mg, cx_qual, tLstRg, tRg1, tRg2, HO.ins.injEq, HO.lst.injEq, HO.tup.injEq, HO.dK.injEq, upd_same, upd_upd, tBM, tBM0, tyV_lst, isL_lst, rAppend_ref, rExtend_ref, rClear_ref, rAdd_int, rSub_int, li_len, ne_len, Nat.reduceLT, Nat.reduceLeDiff, lk_number, lk_pattern, lk_work, lk_rank, lk_once, lk_gate, lk_group, lk_muted, lk_gone, pt_once, pt_gate, pt_group, pt_muted, pt_gone, lk_known, lk_policy, lk_most, lk_depth, lk_locks, lk_waiting, lk_store, lk_faulty, pt_depth, pt_locks, pt_waiting]
        exact ⟨rfl, h⟩
      · exact ⟨a, line, th, _, rfl, rfl, NB.net, tell_round_mono (q7 h B ((w2.mono fun _ z => z.elim).trans wB) NB) hq he⟩
theorem M_Net_tell_2 (T : Tx K mg) (B : Tb K mg base) (k : Nat) : MethG P w K mg base (L2.CX P w) (k + 11) (He.ga K "Net") "tell" p_Net_tell (([V.str "deep"] : List V).drop 0) (sp_tell P w K mg base k) := by
  obtain ⟨fd, F, ok⟩ := O_Net_tell T B k
  obtain ⟨ds, vd, hb⟩ := F.binds1 (ps := p_Net_tell) 3 0 (by simp) rfl (fun T kV doc pm an cdv ct us its h1 h2 => match us, h1, its, h2 with | [_, _, _], _, [_], _ => ⟨_, rfl, rfl⟩)
  exact ⟨_, fd, ds, T.cls_Net, T.m_Net_tell, ok, vd, hb⟩
theorem M_Net_tell_3 (T : Tx K mg) (B : Tb K mg base) (k : Nat) : MethG P w K mg base (L2.CX P w) (k + 11) (He.ga K "Net") "tell" p_Net_tell (([V.str "deep"] : List V).drop 1) (sp_tell P w K mg base k) := by
  obtain ⟨fd, F, ok⟩ := O_Net_tell T B k
  obtain ⟨ds, vd, hb⟩ := F.binds1 (ps := p_Net_tell) 4 1 (by simp) rfl (fun T kV doc pm an cdv ct us its h1 h2 => match us, h1, its, h2 with | [_, _, _, _], _, [_], _ => ⟨_, rfl, rfl⟩)
  exact ⟨_, fd, ds, T.cls_Net, T.m_Net_tell, ok, vd, hb⟩
end
end Hk

set_option Elab.async false
set_option linter.all false
set_option maxRecDepth 100000
set_option maxHeartbeats 4000000
namespace Hk
open PySem PySem.Spec PyProof.Rows L2
open LamX NdefX
open TL
section
variable {P : Program} {w : World} {K : PySem.W.Frag} {mg : Str → Option Value} {base : Heap}
/-! ### past_round -/
def pastRows (sts : List (Str × Addr × List V)) (ys : List Str) (p : Str) : List (Str × V) := ys.flatMap fun y => if doesFit p y = true then (getS sts y).map fun v => (y, v) else []
def rowV (x : Str × V) : List V := [.str x.1, x.2]
structure Past (P : Program) (w : World) (K : PySem.W.Frag) (mg : Str → Option Value) (base : Heap) (k : Nat) (a b : Addr) (rows : List (Str × V)) (Z : Addr → Prop) (Pv : Nat → Hp → Prop) (E : XK) : Prop where
  net : ∀ i H1, Pv i H1 → ∃ dx fs, H1 a = some (.ins (NC K) dx fs) ∧ fs.lookup ("answer" : Str) = none
  step : ∀ i x H1, rows[i]? = some x → Pv i H1 → sp_answer P w K mg base k [.ref a, .ref b, .str x.1, x.2] H1 (fun _ H2 => (∀ b o, Z b → H1 b = some o → H2 b = some o) ∧ (∀ t ys, H1 t = some (.tup ys) → H2 t = some (.tup ys)) ∧ Pv (i + 1) H2) E
def sp_past_round (P : Program) (w : World) (K : PySem.W.Frag) (mg : Str → Option Value) (base : Heap) (k : Nat) : Sp := fun vs H Q E => ∃ (a : Addr) (N : NetS) (l : Lis), vs = [.ref a, .ref l.ad] ∧ NetAt K H a N ∧ Tab K H ∧ l ∈ N.ls ∧ N.sts.length < 64 ∧ (∀ x ∈ N.sts, x.1.length ≤ 1000) ∧
  ∀ ys, ys.Perm (N.sts.map (·.1)) → sortedS ys = true → ∀ Z : Addr → Prop, (∀ b, Z b → H b = none) → ∃ Pv, Past P w K mg base k a l.ad (pastRows N.sts ys l.p) Z Pv E ∧ (∀ H1, Fwd K No H H1 → (∀ b, Z b → H1 b ≠ none) → Pv 0 H1) ∧ ∀ H1, Pv (pastRows N.sts ys l.p).length H1 → Q .non H1
theorem past_round_mono {k : Nat} {vs : List V} {H : Hp} {Q Q' : VK} {E E' : XK} (h : sp_past_round P w K mg base k vs H Q E) (m : ∀ v H', Q v H' → Q' v H') (n : ∀ c d H', E c d H' → E' c d H') : sp_past_round P w K mg base k vs H Q' E' := by
  obtain ⟨a, N, l, rfl, hN, hT, hl, h1, h2, q⟩ := h
  refine ⟨a, N, l, rfl, hN, hT, hl, h1, h2, fun ys hy hs Z hZ => ?_⟩
  obtain ⟨Pv, R, p0, pq⟩ := q ys hy hs Z hZ
  exact ⟨Pv, ⟨R.net, fun i x H1 hi hP => answer_mono (R.step i x H1 hi hP) (fun _ _ z => z) n⟩, p0, fun H1 h1 => m _ _ (pq H1 h1)⟩
theorem past_len {sts : List (Str × Addr × List V)} (h : ∀ q ∈ sts, q.2.2.length ≤ 1000) (p : Str) : ∀ ys : List Str, (pastRows sts ys p).length ≤ ys.length * 1000
  | [] => by simp [pastRows]
  | y :: ys => by
    have ih := past_len h p ys
    unfold pastRows at ih ⊢
    rw [List.flatMap_cons, List.length_append, List.length_cons]
    have : (if doesFit p y = true then (getS sts y).map fun v => (y, v) else []).length ≤ 1000 := by
      split
      · rw [List.length_map]
        unfold getS
        cases e : sts.find? fun x => decide (x.1 = y) with
        | none => simp
        | some x => exact h x (List.mem_of_find?_eq_some e)
      · simp
    omega
theorem past_snoc (sts : List (Str × Addr × List V)) (ys : List Str) (i : Nat) (y : Str) (p : Str) (h : ys[i]? = some y) : pastRows sts (ys.take (i + 1)) p = pastRows sts (ys.take i) p ++ (if doesFit p y = true then (getS sts y).map fun v => (y, v) else []) := by
  unfold pastRows
  rw [List.take_succ, h, List.flatMap_append]
  simp
theorem O_Net_past_round (T : Tx K mg) (B : Tb K mg base) (k : Nat) : ∃ fd, F_Net_past_round K (He.fAd K ("Net", some "past_round")) fd ∧ FnOk P w K mg base (L2.CX P w) (k + 6) (He.fAd K ("Net", some "past_round")) fd p_Net_past_round (sp_past_round P w K mg base k) := by
  obtain ⟨fd, F⟩ := T.f_Net_past_round
  refine ⟨fd, F, F.ok sc_Net_past_round (fun vs H Q E h => ?_) (fun cdv A outer s H vs Q E hr h => ?_)⟩
  · obtain ⟨a, N, l, rfl, _⟩ := h; rfl
  · obtain ⟨a, N, l, rfl, hN, hT, hl, h64, hkl, q⟩ := h
    refine ⟨_, (pss_cons (ps_set (i := 2) sc_Net_past_round.nd rfl (Or.inl rfl) (pe_lst pa_nil))
      (pss_cons (ps_for (passes_of rfl) rfl (pi_listK (K := K) rfl (pe_callB (cr_sortedD rfl) (by rfl) T.b_sorted (by decide +kernel) (pa_cons (pe_fldC (K := K) rfl (pv 0) T.cls_Net T.n_Net_store) pa_nil))) (pg_name (i := 3) sc_Net_past_round.nd rfl (Or.inr rfl))
      (pss_one (ps_if (pt_val (pe_callG (G_does_fit T) (hr.mono (by first | decide | omega)) (by rfl) pass0 (pa_cons (pe_fldC (K := K) rfl (pv 1) T.cls_Listener T.n_Listener_pattern) (pa_cons (pv 3) pa_nil))))
      (pss_one (ps_expr (pe_bmK (K := K) rfl PySem.F.plainAttrs_list PySem.F.slot_list_extend PySem.F.type_list_extend mt_extend (pv 2) (pa_cons (pe_lc (own := [("thing", 4)]) (g := (gName 4)) (tt := tYes) rfl sc_Net_past_round.nd (pi_listK (K := K) rfl (pe_dget (hu_of hr) (pe_fldC (K := K) rfl (pv 0) T.cls_Net T.n_Net_store) (pv 3) (fun _ _ => rfl))) (blkOk_by (by kernel_rfl)) (fun _ _ _ _ _ => (pg_name (i := 4) sc_Net_past_round.nd rfl (Or.inl rfl))) (fun _ _ _ _ _ => pts_nil) (fun _ _ _ _ _ => (pe_tup (pa_cons (pv 3) (pa_cons (pv 4) pa_nil))))) pa_nil))))
      pss_nil)))
      (pss_one (ps_for (passes_of rfl) rfl (pi_listK (K := K) rfl (pv 2)) (pg_tupK (K := K) rfl rfl (pgs_cons (pg_name (i := 3) sc_Net_past_round.nd rfl (Or.inr rfl)) (pgs_cons (pg_name (i := 4) sc_Net_past_round.nd rfl (Or.inl rfl)) pgs_nil)))
      (pss_one (ps_expr (pe_methG (pv 0) (M_Net_answer_3 T B k) (hr.mono (by first | decide | omega)) (passes_call (takes_of rfl rfl rfl rfl) (fun _ _ _ _ h => h)) (pa_cons (pv 1) (pa_cons (pv 3) (pa_cons (pv 4) pa_nil)))))))))), ?_⟩
    simp only [hN.net, tCutE, false_and, exists_false, false_or, or_false, tRet, tRetN, tAndV, tOrV, tNotV, tChain, rI, rI0, rU, tC, tCB, tCons, tNil, tVar, tOp, tUn, tTest, tB, tAnd, tOr, tNot, tIf, tIfS, tSeq, tAsg, tDrop, tNext, gName, gTup_ref, gCons_cons, gNil_nil, and_assoc, tYes, wipe, rEq, rNe, scal_ss, scal_ii, scal_bb, scal_ns, scal_sn, scal_nn, scal_in, scal_ni, tLc_eq, tFor_eq, iList, iTup, iStr, iRng1, iRng2, iZip, iEnum, gSub, tSl, rSetL_ref, rCat_ref, rRep_ref, rJoin_ref, rSlL_ref, rSlS_ref, rMulS_ref, rIxL_ref, rIxT_ref, rLenK_ref, rAll_ref, rIn_ref, tLst, tTup, tPar, tPar3, tAug, tPart, tNoPart, tCall, List.getElem?_cons_zero, List.getElem?_cons_succ, List.set_cons_zero, List.set_cons_succ, List.map_cons, List.map_nil, List.append_nil, List.nil_append, List.cons_append, Option.some.injEq, exists_eq_left', exists_eq_left, exists_eq_right, exists_eq_right', exists_eq', V.int.injEq, V.str.injEq, V.bl.injEq, V.ref.injEq, List.cons.injEq, tM0, tM1, rNewStrs, sgn_eq, split_dot, split_sp, split_nl, dot_len, sp_len, nl_len, cxOf_K, L2.start, List.length_cons, List.length_nil, List.replicate_succ, List.replicate_zero, Nat.reduceSub, Nat.zero_add, and_true, true_and, and_self, exists_and_left, exists_const, Bool.false_eq_true, if_false, if_true, ite_true, ite_false, reduceIte, decide_eq_true_eq, reduceCtorEq, Nat.reduceAdd, Nat.reduceLT, tMseq, tMret, tNdef1, tThru, tCallV, gFldC, tFldC, sFldC, sFldAugC, tMeth, tMethX, tMethS, tMake, tCKw, sDPut, tDGet2, tVeI, tOst, tWhy, tXf, tListZip, tCallX, tCallXU, tCallV, tCallVS, tLam1, tLamD, tCallS, tCls, tClsD, cx_cells, cx_scope, cx_N, cx_prog, cx_w, cx_base, cx_mg, cx_qual, tLstRg, tRg1, tRg2, HO.ins.injEq, HO.lst.injEq, HO.tup.injEq, HO.dK.injEq, upd_same, upd_upd, tBM, tBM0, tyV_lst, isL_lst, rAppend_ref, rExtend_ref, rClear_ref, rAdd_int, rSub_int, li_len, ne_len, Nat.reduceLT, Nat.reduceLeDiff, lk_number, lk_pattern, lk_work, lk_rank, lk_once, lk_gate, lk_group, lk_muted, lk_gone, pt_once, pt_gate, pt_group, pt_muted, pt_gone, lk_known, lk_policy, lk_most, lk_depth, lk_locks, lk_waiting, lk_store, lk_faulty, pt_depth, pt_locks, pt_waiting]
    refine ⟨Nat.zero_le _, fun D0 nD => ?_⟩
    have s0 : Same H (upd H D0 (.lst [])) := same_put (Same.refl _) nD
    have hD0 : upd H D0 (.lst []) D0 = some (.lst []) := upd_same
    generalize upd H D0 (.lst []) = H0 at s0 hD0 ⊢
    have N0 := hN.same s0
    have hst : (stV N.sts).map (·.1) = (N.sts.map (·.1)).map Sum.inr := by unfold stV; simp [List.map_map, Function.comp_def]
    refine ⟨_, _, N0.net, _, lk_store, _, _, _, rfl, .inl N0.st, hst, by rw [List.length_map]; exact h64, fun ys p hy hs np => ⟨_, rfl, ⟨_, .of upd_same⟩, ?_⟩⟩
    obtain ⟨s1, hp1⟩ := newF (H := H0) (o := .lst (ys.map V.str)) rfl np
    have nDp : D0 ≠ p := ne_of_none hD0 np
    generalize upd H0 p (.lst (ys.map V.str)) = H1 at s1 hp1 ⊢
    have hyl : ys.length < 64 := by rw [hy.length_eq, List.length_map]; exact h64
    have w1 : Fwd K No H H1 := Fw.of_same (s0.trans s1) hT
    obtain ⟨Pf, hPf⟩ : ∃ Pf : Nat → L2.St → Hp → Prop, ∀ i σ H', Pf i σ H' ↔ ∃ x3 x4 ts, σ = [some (V.ref a), some (V.ref l.ad), some (V.ref D0), x3, x4] ∧ Fwd K No H H' ∧ H' D0 = some (.lst (ts.map V.ref)) ∧ TupsAt H' ts ((pastRows N.sts (ys.take i) l.p).map rowV) ∧ H' p = some (.lst (ys.map V.str)) := ⟨_, fun _ _ _ => Iff.rfl⟩
    refine forG (walk_listm ys V.str) Pf ((hPf _ _ _).mpr ⟨none, none, [], rfl, w1, s1 _ _ hD0, trivial, hp1⟩) (fun i σ H2 hi hP => ?_) (fun i x σ H2 H3 hi hP hy2 => ?_) (fun σ H2 hP => ?_)
    · obtain ⟨_, _, _, _, _, _, _, h⟩ := (hPf _ _ _).mp hP
      exact .of h
    · obtain ⟨x3, x4, ts, rfl, w2, hD2, ht2, hp2⟩ := (hPf _ _ _).mp hP
      obtain ⟨rfl, y, hyi, rfl⟩ := hy2
      have N2 := hN.fw w2 hT (fun _ _ z => z)
      have hl2 := (N2.li l hl).1
      unfold LisAt at hl2
      obtain ⟨z, hz, ez⟩ := List.mem_map.mp (hy.mem_iff.mp (List.mem_of_getElem? hyi))
      simp only [hl2, tCutE, false_and, exists_false, false_or, or_false, tRet, tRetN, tAndV, tOrV, tNotV, tChain, rI, rI0, rU, tC, tCB, tCons, tNil, tVar, tOp, tUn, tTest, tB, tAnd, tOr, tNot, tIf, tIfS, tSeq, tAsg, tDrop, tNext, gName, gTup_ref, gCons_cons, gNil_nil, and_assoc, tYes, wipe, rEq, rNe, scal_ss, scal_ii, scal_bb, scal_ns, scal_sn, scal_nn, scal_in, scal_ni, tLc_eq, tFor_eq, iList, iTup, iStr, iRng1, iRng2, iZip, iEnum, gSub, tSl, rSetL_ref, rCat_ref, rRep_ref, rJoin_ref, rSlL_ref, rSlS_ref, rMulS_ref, rIxL_ref, rIxT_ref, rLenK_ref, rAll_ref, rIn_ref, tLst, tTup, tPar, tPar3, tAug, tPart, tNoPart, tCall, List.getElem?_cons_zero, List.getElem?_cons_succ, List.set_cons_zero, List.set_cons_succ, List.map_cons, List.map_nil, List.append_nil, List.nil_append, List.cons_append, Option.some.injEq, exists_eq_left', exists_eq_left, exists_eq_right, exists_eq_right', exists_eq', V.int.injEq, V.str.injEq, V.bl.injEq, V.ref.injEq, List.cons.injEq, tM0, tM1, rNewStrs, sgn_eq, split_dot, split_sp, split_nl, dot_len, sp_len, nl_len, cxOf_K, L2.start, List.length_cons, List.length_nil, List.replicate_succ, List.replicate_zero, Nat.reduceSub, Nat.zero_add, and_true, true_and, and_self, exists_and_left, exists_const, Bool.false_eq_true, if_false, if_true, ite_true, ite_false, reduceIte, decide_eq_true_eq, reduceCtorEq, Nat.reduceAdd, Nat.reduceLT, tMseq, tMret, tNdef1, tThru, tCallV, gFldC, tFldC, sFldC, sFldAugC, tMeth, tMethX, tMethS, tMake, tCKw, sDPut, tDGet2, tVeI, tOst, tWhy, tXf, tListZip, tCallX, tCallXU, tCallV, tCallVS, tLam1, tLamD, tCallS, tCls, tClsD, cx_cells, cx_scope, cx_N, cx_prog, cx_w, cx_base, cx_mg, cx_qual, tLstRg, tRg1, tRg2, HO.ins.injEq, HO.lst.injEq, HO.tup.injEq, HO.dK.injEq, upd_same, upd_upd, tBM, tBM0, tyV_lst, isL_lst, rAppend_ref, rExtend_ref, rClear_ref, rAdd_int, rSub_int, li_len, ne_len, Nat.reduceLT, Nat.reduceLeDiff, lk_number, lk_pattern, lk_work, lk_rank, lk_once, lk_gate, lk_group, lk_muted, lk_gone, pt_once, pt_gate, pt_group, pt_muted, pt_gone, lk_known, lk_policy, lk_most, lk_depth, lk_locks, lk_waiting, lk_store, lk_faulty, pt_depth, pt_locks, pt_waiting]
      refine ⟨_, _, rfl, Nat.le_trans (hN.li l hl).2 (by decide), by rw [← ez]; exact Nat.le_trans (hkl z hz) (by decide), fun H4 s4 => ?_⟩
      have hD4 := s4 _ _ hD2
      have hp4 := s4 _ _ hp2
      have w4 := w2.same s4
      have N4 := hN.fw w4 hT (fun _ _ z => z)
      have ht4 := ht2.mono fun t x h => s4 _ _ h
      by_cases hf : doesFit l.p y = true
      rotate_left
      · refine ⟨_, rfl, ifN (by simp [hf]) ((hPf _ _ _).mpr ⟨_, _, ts, rfl, w4, hD4, ?_, hp4⟩)⟩
        rw [past_snoc _ _ _ _ _ hyi, if_neg hf, List.append_nil]
        exact ht4
      · refine ⟨_, rfl, ifP (by simp [hf]) ?_⟩
        obtain ⟨g, eg, hg, hgl⟩ : ∃ g, valV (stV N.sts) (.inr y) = some (.ref g) ∧ H4 g = some (.lst (getS N.sts y)) ∧ (getS N.sts y).length ≤ 1000 := by
          rw [stV_get]
          unfold getS
          cases e : N.sts.find? fun x => decide (x.1 = y) with
          | none =>
            have := List.find?_eq_none.mp e z hz
            simp [ez] at this
          | some x =>
            have hx := N4.ss x (List.mem_of_find?_eq_some e)
            exact ⟨x.2.1, rfl, hx.1, hx.2.1⟩
        simp only [hD4, N4.net, tDGet, tCutE, false_and, exists_false, false_or, or_false, tRet, tRetN, tAndV, tOrV, tNotV, tChain, rI, rI0, rU, tC, tCB, tCons, tNil, tVar, tOp, tUn, tTest, tB, tAnd, tOr, tNot, tIf, tIfS, tSeq, tAsg, tDrop, tNext, gName, gTup_ref, gCons_cons, gNil_nil, and_assoc, tYes, wipe, rEq, rNe, scal_ss, scal_ii, scal_bb, scal_ns, scal_sn, scal_nn, scal_in, scal_ni, tLc_eq, tFor_eq, iList, iTup, iStr, iRng1, iRng2, iZip, iEnum, gSub, tSl, rSetL_ref, rCat_ref, rRep_ref, rJoin_ref, rSlL_ref, rSlS_ref, rMulS_ref, rIxL_ref, rIxT_ref, rLenK_ref, rAll_ref, rIn_ref, tLst, tTup, tPar, tPar3, tAug, tPart, tNoPart, tCall, List.getElem?_cons_zero, List.getElem?_cons_succ, List.set_cons_zero, List.set_cons_succ, List.map_cons, List.map_nil, List.append_nil, List.nil_append, List.cons_append, Option.some.injEq, exists_eq_left', exists_eq_left, exists_eq_right, exists_eq_right', exists_eq', V.int.injEq, V.str.injEq, V.bl.injEq, V.ref.injEq, List.cons.injEq, tM0, tM1, rNewStrs, sgn_eq, split_dot, split_sp, split_nl, dot_len, sp_len, nl_len, cxOf_K, L2.start, List.length_cons, List.length_nil, List.replicate_succ, List.replicate_zero, Nat.reduceSub, Nat.zero_add, and_true, true_and, and_self, exists_and_left, exists_const, Bool.false_eq_true, if_false, if_true, ite_true, ite_false, reduceIte, decide_eq_true_eq, reduceCtorEq, Nat.reduceAdd, Nat.reduceLT, tMseq, tMret, tNdef1, tThru, tCallV, gFldC, tFldC, sFldC, sFldAugC, tMeth, tMethX, tMethS, tMake, tCKw, sDPut, tDGet2, tVeI, tOst, tWhy, tXf, tListZip, tCallX, tCallXU, tCallV, tCallVS, tLam1, tLamD, tCallS, tCls, tClsD, cx_cells, cx_scope, cx_N, cx_prog, cx_w, cx_base, cx_mg, cx_qual, tLstRg, tRg1, tRg2, HO.ins.injEq, HO.lst.injEq, HO.tup.injEq, HO.dK.injEq, upd_same, upd_upd, tBM, tBM0, tyV_lst, isL_lst, rAppend_ref, rExtend_ref, rClear_ref, rAdd_int, rSub_int, li_len, ne_len, Nat.reduceLT, Nat.reduceLeDiff, lk_number, lk_pattern, lk_work, lk_rank, lk_once, lk_gate, lk_group, lk_muted, lk_gone, pt_once, pt_gate, pt_group, pt_muted, pt_gone, lk_known, lk_policy, lk_most, lk_depth, lk_locks, lk_waiting, lk_store, lk_faulty, pt_depth, pt_locks, pt_waiting]
        have dg : DGet H4 N.st (.str y) (some (.ref g)) := by
          have := DGet.k (k := .inr y) N4.st
          rw [eg] at this
          exact this
        refine ⟨_, dg, _, rfl, ⟨_, .of hg⟩, lc_tups (getS N.sts y) (fun v => [.str y, v]) (walk_list (xs := getS N.sts y)) (Nat.le_trans hgl (by decide)) (fun H5 s5 => s5.seq (.of hg)) (fun j v x H5 H6 R' hv s5 hy2 r => ?_) (fun D5 H5 us nD5 s5 hD5 htD => ?_)⟩
        · obtain ⟨rfl, hx⟩ := hy2
          rw [hv] at hx; cases hx
          simp only [tCutE, false_and, exists_false, false_or, or_false, tRet, tRetN, tAndV, tOrV, tNotV, tChain, rI, rI0, rU, tC, tCB, tCons, tNil, tVar, tOp, tUn, tTest, tB, tAnd, tOr, tNot, tIf, tIfS, tSeq, tAsg, tDrop, tNext, gName, gTup_ref, gCons_cons, gNil_nil, and_assoc, tYes, wipe, rEq, rNe, scal_ss, scal_ii, scal_bb, scal_ns, scal_sn, scal_nn, scal_in, scal_ni, tLc_eq, tFor_eq, iList, iTup, iStr, iRng1, iRng2, iZip, iEnum, gSub, tSl, rSetL_ref, rCat_ref, rRep_ref, rJoin_ref, rSlL_ref, rSlS_ref, rMulS_ref, rIxL_ref, rIxT_ref, rLenK_ref, rAll_ref, rIn_ref, tLst, tTup, tPar, tPar3, tAug, tPart, tNoPart, tCall, List.getElem?_cons_zero, List.getElem?_cons_succ, List.set_cons_zero, List.set_cons_succ, List.map_cons, List.map_nil, List.append_nil, List.nil_append, List.cons_append, Option.some.injEq, exists_eq_left', exists_eq_left, exists_eq_right, exists_eq_right', exists_eq', V.int.injEq, V.str.injEq, V.bl.injEq, V.ref.injEq, List.cons.injEq, tM0, tM1, rNewStrs, sgn_eq, split_dot, split_sp, split_nl, dot_len, sp_len, nl_len, cxOf_K, L2.start, List.length_cons, List.length_nil, List.replicate_succ, List.replicate_zero, Nat.reduceSub, Nat.zero_add, and_true, true_and, and_self, exists_and_left, exists_const, Bool.false_eq_true, if_false, if_true, ite_true, ite_false, reduceIte, decide_eq_true_eq, reduceCtorEq, Nat.reduceAdd, Nat.reduceLT, tMseq, tMret, tNdef1, tThru, tCallV, gFldC, tFldC, sFldC, sFldAugC, tMeth, tMethX, tMethS, tMake, tCKw, sDPut, tDGet2, tVeI, tOst, tWhy, tXf, tListZip, tCallX, tCallXU, tCallV, tCallVS, tLam1, tLamD, tCallS, tCls, tClsD, cx_cells, cx_scope, cx_N, cx_prog, cx_w, cx_base, cx_mg, cx_qual, tLstRg, tRg1, tRg2, HO.ins.injEq, HO.lst.injEq, HO.tup.injEq, HO.dK.injEq, upd_same, upd_upd, tBM, tBM0, tyV_lst, isL_lst, rAppend_ref, rExtend_ref, rClear_ref, rAdd_int, rSub_int, li_len, ne_len, Nat.reduceLT, Nat.reduceLeDiff, lk_number, lk_pattern, lk_work, lk_rank, lk_once, lk_gate, lk_group, lk_muted, lk_gone, pt_once, pt_gate, pt_group, pt_muted, pt_gone, lk_known, lk_policy, lk_most, lk_depth, lk_locks, lk_waiting, lk_store, lk_faulty, pt_depth, pt_locks, pt_waiting]
          exact ⟨by decide, fun t ht => r _ _ ht (Same.refl _)⟩
        · have hD6 := s5 _ _ hD4
          have hlt := ht4.len
          have hlu := htD.len
          rw [List.length_map] at hlt hlu
          have nDE : D5 ≠ D0 := fun z => by rw [z, hD4] at nD5; cases nD5
          have pl := past_len (sts := N.sts) (fun q hq => (hN.ss q hq).2.1) l.p (ys.take i)
          have tk : (ys.take i).length ≤ 63 := by rw [List.length_take]; omega
          rw [rExtend_ref]
          refine ⟨_, _, hD6, hD5, by simp only [List.length_map]; exact small (by omega), (hPf _ _ _).mpr ⟨_, _, ts ++ us, rfl, (w4.same s5).put hD6 (fun _ z => by cases z) (fun z => z) (.inr nD), by rw [upd_same, List.map_append], ?_, by rw [upd_ne nDp.symm]; exact s5 _ _ hp4⟩⟩
          rw [past_snoc _ _ _ _ _ hyi, if_pos hf, List.map_append, List.map_map]
          exact TupsAt.put (TupsAt.app (ht4.mono fun t x h => s5 _ _ h) htD) hD6 (fun _ z => by cases z)
    · obtain ⟨x3, x4, ts, rfl, w2, hD2, ht2, hp2⟩ := (hPf _ _ _).mp hP
      rw [List.take_length] at ht2
      obtain ⟨Pv, R, p0, pq⟩ := q ys hy hs (fun b => b = D0) (fun b z => z ▸ nD)
      have tl := ht2.len
      rw [List.length_map] at tl
      have em : ts = (ts.zip (pastRows N.sts ys l.p)).map (·.1) := (List.map_fst_zip (by omega)).symm
      have em2 : ts.map V.ref = (ts.zip (pastRows N.sts ys l.p)).map fun z => V.ref z.1 := by
        rw [show (fun z : Addr × (Str × V) => V.ref z.1) = V.ref ∘ Prod.fst from rfl, ← List.map_map, List.map_fst_zip (by omega)]
      have zl : (ts.zip (pastRows N.sts ys l.p)).length = (pastRows N.sts ys l.p).length := by rw [List.length_zip]; omega
      simp only [tCutE, false_and, exists_false, false_or, or_false, tRet, tRetN, tAndV, tOrV, tNotV, tChain, rI, rI0, rU, tC, tCB, tCons, tNil, tVar, tOp, tUn, tTest, tB, tAnd, tOr, tNot, tIf, tIfS, tSeq, tAsg, tDrop, tNext, gName, gTup_ref, gCons_cons, gNil_nil, and_assoc, tYes, wipe, rEq, rNe, scal_ss, scal_ii, scal_bb, scal_ns, scal_sn, scal_nn, scal_in, scal_ni, tLc_eq, tFor_eq, iList, iTup, iStr, iRng1, iRng2, iZip, iEnum, gSub, tSl, rSetL_ref, rCat_ref, rRep_ref, rJoin_ref, rSlL_ref, rSlS_ref, rMulS_ref, rIxL_ref, rIxT_ref, rLenK_ref, rAll_ref, rIn_ref, tLst, tTup, tPar, tPar3, tAug, tPart, tNoPart, tCall, List.getElem?_cons_zero, List.getElem?_cons_succ, List.set_cons_zero, List.set_cons_succ, List.map_cons, List.map_nil, List.append_nil, List.nil_append, List.cons_append, Option.some.injEq, exists_eq_left', exists_eq_left, exists_eq_right, exists_eq_right', exists_eq', V.int.injEq, V.str.injEq, V.bl.injEq, V.ref.injEq, List.cons.injEq, tM0, tM1, rNewStrs, sgn_eq, split_dot, split_sp, split_nl, dot_len, sp_len, nl_len, cxOf_K, L2.start, List.length_cons, List.length_nil, List.replicate_succ, List.replicate_zero, Nat.reduceSub, Nat.zero_add, and_true, true_and, and_self, exists_and_left, exists_const, Bool.false_eq_true, if_false, if_true, ite_true, ite_false, reduceIte, decide_eq_true_eq, reduceCtorEq, Nat.reduceAdd, Nat.reduceLT, tMseq, tMret, tNdef1, tThru, tCallV, gFldC, tFldC, sFldC, sFldAugC, tMeth, tMethX, tMethS, tMake, tCKw, sDPut, tDGet2, tVeI, tOst, tWhy, tXf, tListZip, tCallX, tCallXU, tCallV, tCallVS, tLam1, tLamD, tCallS, tCls, tClsD, cx_cells, cx_scope, cx_N, cx_prog, cx_w, cx_base, cx_mg, cx_qual, tLstRg, tRg1, tRg2, HO.ins.injEq, HO.lst.injEq, HO.tup.injEq, HO.dK.injEq, upd_same, upd_upd, tBM, tBM0, tyV_lst, isL_lst, rAppend_ref, rExtend_ref, rClear_ref, rAdd_int, rSub_int, li_len, ne_len, Nat.reduceLT, Nat.reduceLeDiff, lk_number, lk_pattern, lk_work, lk_rank, lk_once, lk_gate, lk_group, lk_muted, lk_gone, pt_once, pt_gate, pt_group, pt_muted, pt_gone, lk_known, lk_policy, lk_most, lk_depth, lk_locks, lk_waiting, lk_store, lk_faulty, pt_depth, pt_locks, pt_waiting]
      refine ⟨⟨_, .of hD2⟩, forG (walk_listm (ts.zip (pastRows N.sts ys l.p)) fun z => V.ref z.1) (fun i σ H' => (∃ x3 x4, σ = [some (V.ref a), some (V.ref l.ad), some (V.ref D0), x3, x4]) ∧ Pv i H' ∧ H' D0 = some (.lst (ts.map V.ref)) ∧ TupsAt H' ts ((pastRows N.sts ys l.p).map rowV)) ⟨⟨_, _, rfl⟩, p0 _ w2 (fun b z => by rw [z, hD2]; simp), hD2, ht2⟩ (fun i σ H' hi hP => by rw [← em2]; exact .of hP.2.2.1) (fun i x σ H3 H3' hi hP hy3 => ?_) (fun σ H3 hP => ?_)⟩
      · obtain ⟨⟨x3, x4, rfl⟩, hP, hD3, ht3⟩ := hP
        obtain ⟨rfl, ⟨t, x⟩, hz, rfl⟩ := hy3
        obtain ⟨htd, _⟩ := ht3.zat hz
        have hdj : (pastRows N.sts ys l.p)[i]? = some x := by
          have := congrArg (Option.map Prod.snd) hz
          rw [← List.getElem?_map, List.map_snd_zip (by omega)] at this
          exact this
        obtain ⟨dx, fs, ha, hfs⟩ := R.net _ _ hP
        refine ⟨t, _, rfl, .of htd, rfl, ?_⟩
        unfold rowV
        simp only [ha, hfs, tCutE, false_and, exists_false, false_or, or_false, tRet, tRetN, tAndV, tOrV, tNotV, tChain, rI, rI0, rU, tC, tCB, tCons, tNil, tVar, tOp, tUn, tTest, tB, tAnd, tOr, tNot, tIf, tIfS, tSeq, tAsg, tDrop, tNext, gName, gTup_ref, gCons_cons, gNil_nil, and_assoc, tYes, wipe, rEq, rNe, scal_ss, scal_ii, scal_bb, scal_ns, scal_sn, scal_nn, scal_in, scal_ni, tLc_eq, tFor_eq, iList, iTup, iStr, iRng1, iRng2, iZip, iEnum, gSub, tSl, rSetL_ref, rCat_ref, rRep_ref, rJoin_ref, rSlL_ref, rSlS_ref, rMulS_ref, rIxL_ref, rIxT_ref, rLenK_ref, rAll_ref, rIn_ref, tLst, tTup, tPar, tPar3, tAug, tPart, tNoPart, tCall, List.getElem?_cons_zero, List.getElem?_cons_succ, List.set_cons_zero, List.set_cons_succ, List.map_cons, List.map_nil, List.append_nil, List.nil_append, List.cons_append, Option.some.injEq, exists_eq_left', exists_eq_left, exists_eq_right, exists_eq_right', exists_eq', V.int.injEq, V.str.injEq, V.bl.injEq, V.ref.injEq, List.cons.injEq, tM0, tM1, rNewStrs, sgn_eq, split_dot, split_sp, split_nl, dot_len, sp_len, nl_len, cxOf_K, L2.start, List.length_cons, List.length_nil, List.replicate_succ, List.replicate_zero, Nat.reduceSub, Nat.zero_add, and_true, true_and, and_self, exists_and_left, exists_const, Bool.false_eq_true, if_false, if_true, ite_true, ite_false, reduceIte, decide_eq_true_eq, reduceCtorEq, Nat.reduceAdd, Nat.reduceLT, tMseq, tMret, tNdef1, tThru, tCallV, gFldC, tFldC, sFldC, sFldAugC, tMeth, tMethX, tMethS, tMake, tCKw, sDPut, tDGet2, tVeI, tOst, tWhy, tXf, tListZip, tCallX, tCallXU, tCallV, tCallVS, tLam1, tLamD, tCallS, tCls, tClsD, cx_cells, cx_scope, cx_N, cx_prog, cx_w, cx_base, cx_mg, cx_qual, tLstRg, tRg1, tRg2, HO.ins.injEq, HO.lst.injEq, HO.tup.injEq, HO.dK.injEq, upd_same, upd_upd, tBM, tBM0, tyV_lst, isL_lst, rAppend_ref, rExtend_ref, rClear_ref, rAdd_int, rSub_int, li_len, ne_len, Nat.reduceLT, Nat.reduceLeDiff, lk_number, lk_pattern, lk_work, lk_rank, lk_once, lk_gate, lk_group, lk_muted, lk_gone, pt_once, pt_gate, pt_group, pt_muted, pt_gone, lk_known, lk_policy, lk_most, lk_depth, lk_locks, lk_waiting, lk_store, lk_faulty, pt_depth, pt_locks, pt_waiting]
        exact answer_mono (R.step i x _ hdj hP) (fun _ H4 ⟨k1, k2, hP4⟩ => ⟨hP4, k1 _ _ rfl hD3, ht3.mono fun t x h => k2 _ _ h⟩) (fun _ _ _ z => z)
      · obtain ⟨⟨x3, x4, rfl⟩, hP, _⟩ := hP
        rw [zl] at hP
        exact pq _ hP
theorem M_Net_past_round_1 (T : Tx K mg) (B : Tb K mg base) (k : Nat) : MethG P w K mg base (L2.CX P w) (k + 6) (He.ga K "Net") "past_round" p_Net_past_round ([]) (sp_past_round P w K mg base k) := by
  obtain ⟨fd, F, ok⟩ := O_Net_past_round T B k
  
  exact ⟨_, fd, [], T.cls_Net, T.m_Net_past_round, ok, .nil, F.bindsN fun _ _ _ _ _ _ us hl => match us, hl with | [_, _], _ => rfl⟩
end
end Hk

set_option Elab.async false
set_option linter.all false
set_option maxRecDepth 100000
set_option maxHeartbeats 4000000
namespace Hk
open PySem PySem.Spec PyProof.Rows L2
open LamX NdefX
open TL
section
variable {P : Program} {w : World} {K : PySem.W.Frag} {mg : Str → Option Value} {base : Heap}
/-! ### listen, with the past -/
def sp_Net_listen (P : Program) (w : World) (K : PySem.W.Frag) (mg : Str → Option Value) (base : Heap) (k : Nat) : Sp := fun vs H Q E => ∃ (a : Addr) (N : NetS) (p : Str) (wk : V) (r : Int) (once : Bool) (gate : V) (group : Str) (past : Bool), vs = [.ref a, .str p, wk, .int r, .bl once, gate, .str group, .bl past] ∧ NetAt K H a N ∧ Tab K H ∧ p.length ≤ 1000 ∧ N.ls.length < 10000 ∧
  (isPat p = false → ∀ H', Same H H' → E (.ref (He.ga K "BadPattern")) none H') ∧
  (isPat p = true → ¬ (-9 ≤ r ∧ r ≤ 9) → ∀ H', Same H H' → E (.ref (He.ga K "BadCount")) none H') ∧
  (isPat p = true → -9 ≤ r → r ≤ 9 → ∀ H' la dx, Fwd K (fun b => b = N.kn) H H' → H la = none → NetAt K H' a { N with ls := N.ls ++ [⟨la, dx, N.ls.length, p, wk, r, once, gate, group, false, false⟩] } →
    (past = false → Q (.int N.ls.length) H') ∧
    (past = true → (N.depth = 20 → ∀ H2, Fwd K No H' H2 → E (.ref (He.ga K "TooDeep")) none H2) ∧
      (N.depth ≠ 20 → ∀ B, Fwd K (fun b => b = a) H' B → NetAt K B a { N with ls := N.ls ++ [⟨la, dx, N.ls.length, p, wk, r, once, gate, group, false, false⟩], depth := N.depth + 1 } →
        sp_past_round P w K mg base k [.ref a, .ref la] B (endV K a fun _ H3 => sp_clear P w K mg base k [.ref a] H3 (fun _ H4 => ∃ l2 : Lis, l2.ad = la ∧ LisAt K H4 l2 ∧ Q (.int l2.n) H4) E) (excV K a E))))
def spPR (sp : Sp) : List (Option V) → Sp := fun ws vs H Q E => ∃ (a b : Addr) (N : NetS), ws = [some (.ref b), some (.ref a)] ∧ vs = [] ∧ H a = some (.ins (NC K) N.dx (netV N)) ∧ sp [.ref a, .ref b] H Q E
theorem O_Net_listen (T : Tx K mg) (B : Tb K mg base) (k : Nat) : ∃ fd, F_Net_listen K (He.fAd K ("Net", some "listen")) fd ∧ FnOk P w K mg base (L2.CX P w) (k + 11) (He.fAd K ("Net", some "listen")) fd p_Net_listen (sp_Net_listen P w K mg base k) := by
  obtain ⟨fd, F⟩ := T.f_Net_listen
  refine ⟨fd, F, okT (p := ("Net", some "listen")) F sc_Net_listen (fun vs H Q E h => ?_) (fun A outer s H vs Q E hr h => ?_)⟩
  · obtain ⟨a, N, p, wk, r, once, gate, group, past, rfl, _⟩ := h; rfl
  · obtain ⟨a, N, p, wk, r, once, gate, group, past, rfl, hN, hT, hp, hfew, q1, q2, q3⟩ := h
    refine ⟨_, (pss_cons (ps_expr (pe_callG (G_need_pattern T) (hr.mono (by first | decide | omega)) (by rfl) (passes_call (takes_of rfl rfl rfl rfl) (fun _ _ _ _ h => h)) (pa_cons (pv 1) pa_nil)))
      (pss_cons (ps_if (pt_not (pt_chain op_le op_le (pe_op op_sub pe_int (pe_gi T.c_MOST_RANK (by rfl))) (pv 3) (pe_gi T.c_MOST_RANK (by rfl))))
      (pss_one (ps_raise rfl (takes_of rfl rfl rfl rfl) (pmk_own PySem.F.excBase_ValueError T.x_BadCount.1 T.g_BadCount T.x_BadCount.2.1 (raises_own T.x_BadCount.2.2.1 T.x_BadCount.2.2.2) rfl)))
      pss_nil)
      (pss_cons (ps_set (i := 8) sc_Net_listen.nd rfl (Or.inr rfl) (pe_makeG (K_Listener_4 T) (hr.mono (by first | decide | omega)) (by rfl) T.g_Listener pass0 (pa_cons (pe_callB (call_len_seqK (K := K) rfl) (by rfl) T.b_len (by decide +kernel) (pa_cons (pe_fldC (K := K) rfl (pv 0) T.cls_Net T.n_Net_known) pa_nil)) (pa_cons (pv 1) (pa_cons (pv 2) (pa_cons (pv 3) pa_nil))))))
      (pss_cons (ps_asg (pe_tup (pa_cons (pv 4) (pa_cons (pv 5) (pa_cons (pv 6) pa_nil)))) (pg_tupK (K := K) rfl rfl (pgs_cons (pg_fldC (K := K) rfl (pv 8) T.cls_Listener T.n_Listener_is_once) (pgs_cons (pg_fldC (K := K) rfl (pv 8) T.cls_Listener T.n_Listener_gate) (pgs_cons (pg_fldC (K := K) rfl (pv 8) T.cls_Listener T.n_Listener_group) pgs_nil)))))
      (pss_cons (ps_expr (pe_bmK (K := K) rfl PySem.F.plainAttrs_list PySem.F.slot_list_append PySem.F.type_list_append mt_append (pe_fldC (K := K) rfl (pv 0) T.cls_Net T.n_Net_known) (pa_cons (pv 8) pa_nil)))
      (pss_cons (ps_if (pt_val (pv 7))
      (pss_one (ps_expr (pe_methXG (pv 0) (M_Net_going_1 T B k) (hr.mono (by first | decide | omega)) (passes_call (takes_of rfl rfl rfl rfl) (fun _ _ _ _ h => h)) sc_Net_listen.nd (fun _ _ _ => rfl) (pa_cons (pe_lam (Ts := Ts K) (nm := nm) (B.t_Net_listen) rfl (m_Net_listen K) (show nm 112 23 = Str.ofString "Net.listen.<locals>." ++ Str.ofString "<lambda>" by decide +kernel) (ndef_free (sc := defScope s_Net_listen) (fr := ["one", "self"]) (by decide +kernel)) rfl) pa_nil))))
      pss_nil)
      (pss_one (ps_ret (pe_fldC (K := K) rfl (pv 8) T.cls_Listener T.n_Listener_number))))))))), ?_⟩
    simp only [tCutE, false_and, exists_false, false_or, or_false, tRet, tRetN, tAndV, tOrV, tNotV, tChain, rI, rI0, rU, tC, tCB, tCons, tNil, tVar, tOp, tUn, tTest, tB, tAnd, tOr, tNot, tIf, tIfS, tSeq, tAsg, tDrop, tNext, gName, gTup_ref, gCons_cons, gNil_nil, and_assoc, tYes, wipe, rEq, rNe, scal_ss, scal_ii, scal_bb, scal_ns, scal_sn, scal_nn, scal_in, scal_ni, tLc_eq, tFor_eq, iList, iTup, iStr, iRng1, iRng2, iZip, iEnum, gSub, tSl, rSetL_ref, rCat_ref, rRep_ref, rJoin_ref, rSlL_ref, rSlS_ref, rMulS_ref, rIxL_ref, rIxT_ref, rLenK_ref, rAll_ref, rIn_ref, tLst, tTup, tPar, tPar3, tAug, tPart, tNoPart, tCall, List.getElem?_cons_zero, List.getElem?_cons_succ, List.set_cons_zero, List.set_cons_succ, List.map_cons, List.map_nil, List.append_nil, List.nil_append, List.cons_append, Option.some.injEq, exists_eq_left', exists_eq_left, exists_eq_right, exists_eq_right', exists_eq', V.int.injEq, V.str.injEq, V.bl.injEq, V.ref.injEq, List.cons.injEq, tM0, tM1, rNewStrs, sgn_eq, split_dot, split_sp, split_nl, dot_len, sp_len, nl_len, cxOf_K, L2.start, List.length_cons, List.length_nil, List.replicate_succ, List.replicate_zero, Nat.reduceSub, Nat.zero_add, and_true, true_and, and_self, exists_and_left, exists_const, Bool.false_eq_true, if_false, if_true, ite_true, ite_false, reduceIte, decide_eq_true_eq, reduceCtorEq, Nat.reduceAdd, Nat.reduceLT, tMseq, tMret, tNdef1, tThru, tCallV, gFldC, tFldC, sFldC, sFldAugC, tMeth, tMethX, tMethS, tMake, tCKw, sDPut, tDGet2, tVeI, tOst, tWhy, tXf, tListZip, tCallX, tCallXU, tCallV, tCallVS, tLam1, tLamD, tCallS, tCls, tClsD, cx_cells, cx_scope, cx_N, cx_prog, cx_w, cx_base, cx_mg, cx_qual]
    refine ⟨p, rfl, by omega, fun e H1 s1 => ?_, fun e H1 s1 => q1 e H1 s1⟩
    have N1 := hN.same s1
    simp only [N1.net, HO.ins.injEq, lk_known, tCutE, false_and, exists_false, false_or, or_false, tRet, tRetN, tAndV, tOrV, tNotV, tChain, rI, rI0, rU, tC, tCB, tCons, tNil, tVar, tOp, tUn, tTest, tB, tAnd, tOr, tNot, tIf, tIfS, tSeq, tAsg, tDrop, tNext, gName, gTup_ref, gCons_cons, gNil_nil, and_assoc, tYes, wipe, rEq, rNe, scal_ss, scal_ii, scal_bb, scal_ns, scal_sn, scal_nn, scal_in, scal_ni, tLc_eq, tFor_eq, iList, iTup, iStr, iRng1, iRng2, iZip, iEnum, gSub, tSl, rSetL_ref, rCat_ref, rRep_ref, rJoin_ref, rSlL_ref, rSlS_ref, rMulS_ref, rIxL_ref, rIxT_ref, rLenK_ref, rAll_ref, rIn_ref, tLst, tTup, tPar, tPar3, tAug, tPart, tNoPart, tCall, List.getElem?_cons_zero, List.getElem?_cons_succ, List.set_cons_zero, List.set_cons_succ, List.map_cons, List.map_nil, List.append_nil, List.nil_append, List.cons_append, Option.some.injEq, exists_eq_left', exists_eq_left, exists_eq_right, exists_eq_right', exists_eq', V.int.injEq, V.str.injEq, V.bl.injEq, V.ref.injEq, List.cons.injEq, tM0, tM1, rNewStrs, sgn_eq, split_dot, split_sp, split_nl, dot_len, sp_len, nl_len, cxOf_K, L2.start, List.length_cons, List.length_nil, List.replicate_succ, List.replicate_zero, Nat.reduceSub, Nat.zero_add, and_true, true_and, and_self, exists_and_left, exists_const, Bool.false_eq_true, if_false, if_true, ite_true, ite_false, reduceIte, decide_eq_true_eq, reduceCtorEq, Nat.reduceAdd, Nat.reduceLT, tMseq, tMret, tNdef1, tThru, tCallV, gFldC, tFldC, sFldC, sFldAugC, tMeth, tMethX, tMethS, tMake, tCKw, sDPut, tDGet2, tVeI, tOst, tWhy, tXf, tListZip, tCallX, tCallXU, tCallV, tCallVS, tLam1, tLamD, tCallS, tCls, tClsD, cx_cells, cx_scope, cx_N, cx_prog, cx_w, cx_base, cx_mg, cx_qual]
    by_cases h0 : -9 ≤ r
    rotate_left
    · exact ifN (by omega) (q2 e (fun z => h0 z.1) H1 s1)
    refine ifP (by omega) ?_
    by_cases h1 : r ≤ 9
    rotate_left
    · exact ifP (by simp [h1]) (q2 e (fun z => h1 z.2) H1 s1)
    refine ifN (by simp [h1]) ⟨_, .inl (.of N1.kn), fun la dx nl nd ne => ?_⟩
    refine ⟨la, dx, _, p, wk, r, rfl, upd_same, rfl, by decide, fun t nt => ⟨_, .of upd_same, rfl, ?_⟩⟩
    rw [upd_upd] at nt ⊢
    have s2 : Same H1 (upd (upd H1 dx (HO.own la)) la (HO.ins (LC K) dx (liF (N.ls.map fun l => V.ref l.ad).length p wk r false .non "" false false))) := same_put (same_put (Same.refl _) nd) nl
    have f2 : (upd (upd H1 dx (HO.own la)) la (HO.ins (LC K) dx (liF (N.ls.map fun l => V.ref l.ad).length p wk r false .non "" false false))) la = _ := upd_same
    generalize hA : upd (upd H1 dx (HO.own la)) la _ = H2 at nt s2 f2 ⊢
    have nlt : la ≠ t := ne_of_none f2 nt
    have f3 := (upd_ne (H := H2) (o := .tup [V.bl once, gate, V.str group]) nlt).trans f2
    have s3 : Same H1 (upd H2 t (.tup [V.bl once, gate, V.str group])) := same_new s2 nt
    generalize hB : upd H2 t _ = H3 at s3 f3 ⊢
    have lv : liF ((N.ls.map fun l => V.ref l.ad).length : Int) p wk r false .non "" false false = liV ⟨la, dx, N.ls.length, p, wk, r, false, .non, "", false, false⟩ := by rw [List.length_map]; rfl
    rw [lv] at f3
    have naf : a ≠ la := ne_of_none N1.net nl
    have nkf : N.kn ≠ la := ne_of_none N1.kn nl
    have N3 := N1.same s3
    simp only [f3, N3.net, N3.kn, upd_ne, naf, nkf, nkf.symm, ne_eq, not_false_eq_true, List.length_map, tCutE, false_and, exists_false, false_or, or_false, tRet, tRetN, tAndV, tOrV, tNotV, tChain, rI, rI0, rU, tC, tCB, tCons, tNil, tVar, tOp, tUn, tTest, tB, tAnd, tOr, tNot, tIf, tIfS, tSeq, tAsg, tDrop, tNext, gName, gTup_ref, gCons_cons, gNil_nil, and_assoc, tYes, wipe, rEq, rNe, scal_ss, scal_ii, scal_bb, scal_ns, scal_sn, scal_nn, scal_in, scal_ni, tLc_eq, tFor_eq, iList, iTup, iStr, iRng1, iRng2, iZip, iEnum, gSub, tSl, rSetL_ref, rCat_ref, rRep_ref, rJoin_ref, rSlL_ref, rSlS_ref, rMulS_ref, rIxL_ref, rIxT_ref, rLenK_ref, rAll_ref, rIn_ref, tLst, tTup, tPar, tPar3, tAug, tPart, tNoPart, tCall, List.getElem?_cons_zero, List.getElem?_cons_succ, List.set_cons_zero, List.set_cons_succ, List.map_cons, List.map_nil, List.append_nil, List.nil_append, List.cons_append, Option.some.injEq, exists_eq_left', exists_eq_left, exists_eq_right, exists_eq_right', exists_eq', V.int.injEq, V.str.injEq, V.bl.injEq, V.ref.injEq, List.cons.injEq, tM0, tM1, rNewStrs, sgn_eq, split_dot, split_sp, split_nl, dot_len, sp_len, nl_len, cxOf_K, L2.start, List.length_cons, List.length_nil, List.replicate_succ, List.replicate_zero, Nat.reduceSub, Nat.zero_add, and_true, true_and, and_self, exists_and_left, exists_const, Bool.false_eq_true, if_false, if_true, ite_true, ite_false, reduceIte, decide_eq_true_eq, reduceCtorEq, Nat.reduceAdd, Nat.reduceLT, tMseq, tMret, tNdef1, tThru, tCallV, gFldC, tFldC, sFldC, sFldAugC, tMeth, tMethX, tMethS, tMake, tCKw, sDPut, tDGet2, tVeI, tOst, tWhy, tXf, tListZip, tCallX, tCallXU, tCallV, tCallVS, tLam1, tLamD, tCallS, tCls, tClsD, cx_cells, cx_scope, cx_N, cx_prog, cx_w, cx_base, cx_mg, cx_qual, tLstRg, tRg1, tRg2, HO.ins.injEq, HO.lst.injEq, HO.tup.injEq, HO.dK.injEq, upd_same, upd_upd, tBM, tBM0, tyV_lst, isL_lst, rAppend_ref, rExtend_ref, rClear_ref, rAdd_int, rSub_int, li_len, ne_len, Nat.reduceLT, Nat.reduceLeDiff, lk_number, lk_pattern, lk_work, lk_rank, lk_once, lk_gate, lk_group, lk_muted, lk_gone, pt_once, pt_gate, pt_group, pt_muted, pt_gone, lk_known, lk_policy, lk_most, lk_depth, lk_locks, lk_waiting, lk_store, lk_faulty, pt_depth, pt_locks, pt_waiting]
    refine ⟨Nat.lt_of_lt_of_le hfew (by decide), ?_⟩
    have nak : a ≠ N.kn := fun z => by have := N3.net; rw [z, N3.kn] at this; cases this
    have w0 : Fwd K (fun b => b = N.kn) H H3 := .of_same (s1.trans s3) hT
    have w1 := w0.put (o := HO.ins (LC K) dx (liV ⟨la, dx, N.ls.length, p, wk, r, once, gate, group, false, false⟩)) f3 (fun _ z => by cases z) (fun z => z) (.inr (s1.free nl))
    have ne2 : ∀ b o, H1 b = some o → b ≠ N.kn → upd (upd H3 la (HO.ins (LC K) dx (liV ⟨la, dx, N.ls.length, p, wk, r, once, gate, group, false, false⟩))) N.kn (HO.lst (List.map (fun l => V.ref l.ad) N.ls ++ [V.ref la])) b = some o := fun b o h n => by
      rw [upd_ne n, upd_ne (ne_of_none h nl)]; exact s3 _ _ h
    have nkl : ∀ l ∈ N.ls, l.ad ≠ N.kn := fun l hl z => by have := (N1.li l hl).1; unfold LisAt at this; rw [z, N1.kn] at this; cases this
    have NF : NetAt K (upd (upd H3 la (HO.ins (LC K) dx (liV ⟨la, dx, N.ls.length, p, wk, r, once, gate, group, false, false⟩))) N.kn (HO.lst (List.map (fun l => V.ref l.ad) N.ls ++ [V.ref la]))) a { N with ls := N.ls ++ [⟨la, dx, N.ls.length, p, wk, r, once, gate, group, false, false⟩] } := by
      refine ⟨ne2 _ _ N1.net nak, ?_, ne2 _ _ N1.wt N1.kw.symm, ne2 _ _ N1.st (fun z => ?_), ne2 _ _ N1.fl N1.kf.symm, N1.kw, N1.kf, N1.wf, fun l hl => ?_, ?_, N1.ac, ?_, N1.mo, N1.sf, fun x hx => ?_⟩
      · rw [upd_same, List.map_append]; rfl
      · have := N1.st; rw [z, N1.kn] at this; cases this
      · rcases List.mem_append.mp hl with hl | hl
        · exact ⟨ne2 _ _ (N1.li l hl).1 (nkl l hl), (N1.li l hl).2⟩
        · rw [List.mem_singleton.mp hl]
          exact ⟨by unfold LisAt; rw [upd_ne nkf.symm]; exact upd_same, hp⟩
      · rw [List.map_append, List.nodup_append]
        refine ⟨N1.nd, by simp, fun x hx y hy => ?_⟩
        obtain ⟨l, hl, rfl⟩ := List.mem_map.mp hx
        simp only [List.map_cons, List.map_nil, List.mem_singleton] at hy
        rw [hy]
        exact ne_of_none (N1.li l hl).1 nl
      · simp only [List.length_append, List.length_singleton]; omega
      · obtain ⟨y1, y2, y3, y4, y5⟩ := N1.ss x hx
        exact ⟨ne2 _ _ y1 y3, y2, y3, y4, y5⟩
    have wF := w1.put (o := HO.lst (List.map (fun l => V.ref l.ad) N.ls ++ [V.ref la])) (o' := .lst _) (by rw [upd_ne nkf]; exact N3.kn) (fun _ z => by cases z) (fun z => z) (.inl rfl)
    have q4 := q3 e h0 h1 _ la dx wF (s1.free nl) NF
    have hlF : upd (upd H3 la (HO.ins (LC K) dx (liV ⟨la, dx, N.ls.length, p, wk, r, once, gate, group, false, false⟩))) N.kn (HO.lst (List.map (fun l => V.ref l.ad) N.ls ++ [V.ref la])) la = some (HO.ins (LC K) dx (liV ⟨la, dx, N.ls.length, p, wk, r, once, gate, group, false, false⟩)) := by rw [upd_ne nkf.symm]; exact upd_same
    clear q1 q2 q3 w0 w1 ne2 hA hB
    generalize upd (upd H3 la _) N.kn _ = HF at NF wF q4 hlF ⊢
    cases past with
    | false =>
      refine ifN (by simp) ?_
      first
        | exact q4.1 rfl
        | exact ⟨_, _, hlF, _, rfl, q4.1 rfl⟩
    | true =>
      refine ifP rfl ?_
      obtain ⟨q6, q7⟩ := q4.2 rfl
      refine ⟨_, _, NF.net, rfl, wF.tab, fun f c H5 e2 n2 T2 f0 f1 c1 C2 obs => ?_⟩
      have w2 : Fwd K No HF H5 := .of_off wF.tab e2 n2 T2
      have N2 := NF.fw w2 wF.tab (fun _ _ z => z)
      refine going_lam (fr := ["one", "self"]) (spN := spPR (K := K) (sp_past_round P w K mg base k)) (ws := [.ref la, .ref a]) (E := E) (N := { N with ls := N.ls ++ [⟨la, dx, N.ls.length, p, wk, r, once, gate, group, false, false⟩] }) (Q := fun v H' => ∃ x x_1, H' la = some (HO.ins (He.ga K (Str.ofString "Listener")) x x_1) ∧ ∃ x, List.lookup (Str.ofString "number") x_1 = some x ∧ Q x H') C2 f1 c1 rfl
        (act_lam (N := ["one", "self"]) (ps := []) (nscope_by (by kernel_rfl)) rfl (fun ws vs H Q E h => ?_) (fun pm ctv us hl => ?_) (fun A outer s H vs ws Q E hr hl h => ?_))
        [8, 0] rfl (by kernel_rfl) (by kernel_rfl) (nscope_by (N := ["one", "self"]) (ps := []) (by kernel_rfl)) rfl rfl N2 T2 (fun h => q6 h _ w2) (fun h B wB NB Qb Eb hq he => ?_)
      · obtain ⟨_, _, _, _, rfl, _⟩ := h; rfl
      · match us, hl with
        | [], _ => rfl
      · obtain ⟨a, b, N, rfl, rfl, ha, h⟩ := h
        refine ⟨_, (pe_methG (pv 1) (M_Net_past_round_1 T B k) (hr.mono (by first | decide | omega)) (passes_call (takes_of rfl rfl rfl rfl) (fun _ _ _ _ h => h)) (pa_cons (pv 0) pa_nil)), ?_⟩
        simp only [startF, ha, tCutE, false_and, exists_false, false_or, or_false, tRet, tRetN, tAndV, tOrV, tNotV, tChain, rI, rI0, rU, tC, tCB, tCons, tNil, tVar, tOp, tUn, tTest, tB, tAnd, tOr, tNot, tIf, tIfS, tSeq, tAsg, tDrop, tNext, gName, gTup_ref, gCons_cons, gNil_nil, and_assoc, tYes, wipe, rEq, rNe, scal_ss, scal_ii, scal_bb, scal_ns, scal_sn, scal_nn, scal_in, scal_ni, tLc_eq, tFor_eq, iList, iTup, iStr, iRng1, iRng2, iZip, iEnum, gSub, tSl, rSetL_ref, rCat_ref, rRep_ref, rJoin_ref, rSlL_ref, rSlS_ref, rMulS_ref, rIxL_ref, rIxT_ref, rLenK_ref, rAll_ref, rIn_ref, tLst, tTup, tPar, tPar3, tAug, tPart, tNoPart, tCall, List.getElem?_cons_zero, List.getElem?_cons_succ, List.set_cons_zero, List.set_cons_succ, List.map_cons, List.map_nil, List.append_nil, List.nil_append, List.cons_append, Option.some.injEq, exists_eq_left', exists_eq_left, exists_eq_right, exists_eq_right', exists_eq', V.int.injEq, V.str.injEq, V.bl.injEq, V.ref.injEq, List.cons.injEq, tM0, tM1, rNewStrs, sgn_eq, split_dot, split_sp, split_nl, dot_len, sp_len, nl_len, cxOf_K, L2.start, List.length_cons, List.length_nil, List.replicate_succ, List.replicate_zero, Nat.reduceSub, Nat.zero_add, and_true, true_and, and_self, exists_and_left, exists_const, Bool.false_eq_true, if_false, if_true, ite_true, ite_false, reduceIte, decide_eq_true_eq, reduceCtorEq, Nat.reduceAdd, Nat.reduceLT, tMseq, tMret, tNdef1, tThru, tCallV, gFldC, tFldC, sFldC, sFldAugC, tMeth, tMethX, tMethS, tMake, tCKw, sDPut, tDGet2, tVeI, tOst, tWhy, tXf, tListZip, tCallX, tCallXU, tCallV, tCallVS, tLam1, tLamD, tCallS, tCls, tClsD, cx_cells, cx_scope, cx_N, cx_prog, cx_w, cx_base, cx_mg, cx_qual, tLstRg, tRg1, tRg2, HO.ins.injEq, HO.lst.injEq, HO.tup.injEq, HO.dK.injEq, upd_same, upd_upd, tBM, tBM0, tyV_lst, isL_lst, rAppend_ref, rExtend_ref, rClear_ref, rAdd_int, rSub_int, li_len, ne_len, Nat.reduceLT, Nat.reduceLeDiff, lk_number, lk_pattern, lk_work, lk_rank, lk_once, lk_gate, lk_group, lk_muted, lk_gone, pt_once, pt_gate, pt_group, pt_muted, pt_gone, lk_known, lk_policy, lk_most, lk_depth, lk_locks, lk_waiting, lk_store, lk_faulty, pt_depth, pt_locks, pt_waiting]
        exact ⟨rfl, h⟩
      · refine ⟨a, la, _, rfl, rfl, NB.net, past_round_mono (q7 h B ((w2.mono fun _ z => z.elim).trans wB) NB) (fun v H' hv => hq _ _ (endV_mono (fun v H3 hc => clear_mono hc (fun _ H4 hz => ?_) (fun _ _ _ z => z)) _ _ hv)) he⟩
        obtain ⟨l2, e1, h2, q⟩ := hz
        unfold LisAt at h2
        rw [e1] at h2
        exact ⟨_, _, h2, _, rfl, q⟩
theorem M_Net_listen_3 (T : Tx K mg) (B : Tb K mg base) (k : Nat) : MethG P w K mg base (L2.CX P w) (k + 11) (He.ga K "Net") "listen" p_Net_listen (([V.int 0, V.bl false, V.non, V.str "", V.bl false] : List V).drop 1) (sp_Net_listen P w K mg base k) := by
  obtain ⟨fd, F, ok⟩ := O_Net_listen T B k
  obtain ⟨ds, vd, hb⟩ := F.binds1 (ps := p_Net_listen) 4 1 (by simp) rfl (fun T kV doc pm an cdv ct us its h1 h2 => match us, h1, its, h2 with | [_, _, _, _], _, [_, _, _, _, _], _ => ⟨_, rfl, rfl⟩)
  exact ⟨_, fd, ds, T.cls_Net, T.m_Net_listen, ok, vd, hb⟩
theorem M_Net_listen_7 (T : Tx K mg) (B : Tb K mg base) (k : Nat) : MethG P w K mg base (L2.CX P w) (k + 11) (He.ga K "Net") "listen" p_Net_listen (([V.int 0, V.bl false, V.non, V.str "", V.bl false] : List V).drop 5) (sp_Net_listen P w K mg base k) := by
  obtain ⟨fd, F, ok⟩ := O_Net_listen T B k
  obtain ⟨ds, vd, hb⟩ := F.binds1 (ps := p_Net_listen) 8 5 (by simp) rfl (fun T kV doc pm an cdv ct us its h1 h2 => match us, h1, its, h2 with | [_, _, _, _, _, _, _, _], _, [_, _, _, _, _], _ => ⟨_, rfl, rfl⟩)
  exact ⟨_, fd, ds, T.cls_Net, T.m_Net_listen, ok, vd, hb⟩
end
end Hk

set_option Elab.async false
set_option linter.all false
set_option maxRecDepth 100000
set_option maxHeartbeats 4000000
namespace Hk
open PySem PySem.Spec PyProof.Rows L2
open LamX NdefX
open TL
section
variable {P : Program} {w : World} {K : PySem.W.Frag} {mg : Str → Option Value} {base : Heap}
/-! ### hold, release, waits, faults, kept -/
theorem NetAt.locks {H H' : Hp} {a : Addr} {N : NetS} {d : Int} (h : NetAt K H a N) (e : ∀ b o, b ≠ a → H b = some o → ¬ Imm o → (∀ ps, o ≠ .tbl ps) → H' b = some o) (ha : H' a = some (.ins (NC K) N.dx (netV { N with locks := d }))) : NetAt K H' a { N with locks := d } := by
  have na : ∀ {b xs}, H b = some (.lst xs) → b ≠ a := fun {b xs} hb z => by rw [z, h.net] at hb; cases hb
  exact h.re (N' := { N with locks := d }) (fun b o hb n _ _ _ n1 n2 => e b o n hb n1 n2) ha (e _ _ (na h.kn) h.kn (fun z => z) (fun _ z => by cases z)) (e _ _ (na h.wt) h.wt (fun z => z) (fun _ z => by cases z)) (e _ _ (na h.fl) h.fl (fun z => z) (fun _ z => by cases z)) h.kw h.kf h.wf rfl rfl rfl rfl (fun _ _ z => z)
theorem put_net {H : Hp} {a : Addr} {N : NetS} {o : HO} (h : NetAt K H a N) (T : Tab K H) : Fwd K (fun b => b = a) H (upd H a o) := fwd_at T h (fun b u e n => by rw [upd_ne n]; exact e) (fun b e => upd_dom (e := e))
def sp_waits (K : PySem.W.Frag) : Sp := fun vs H Q _ => ∃ (a : Addr) (N : NetS), vs = [.ref a] ∧ NetAt K H a N ∧ ∀ H' p, Same H H' → H p = none → H' p = some (.lst N.wts) → Q (.ref p) H'
theorem O_Net_waits (T : Tx K mg) : ∃ fd, F_Net_waits K (He.fAd K ("Net", some "waits")) fd ∧ FnOk P w K mg base (CX0) (1) (He.fAd K ("Net", some "waits")) fd p_Net_waits (sp_waits K) := by
  obtain ⟨fd, F⟩ := T.f_Net_waits
  refine ⟨fd, F, F.ok sc_Net_waits (fun vs H Q E h => ?_) (fun cdv A outer s H vs Q E hr h => ?_)⟩
  · obtain ⟨a, N, rfl, _⟩ := h; rfl
  · obtain ⟨a, N, rfl, hN, q⟩ := h
    refine ⟨_, PSs.nox (pss_one (ps_ret (pe_callTy (call_list_ofK (K := K) rfl) (by rfl) T.b_list (by decide +kernel) (pa_cons (pe_fldC (K := K) rfl (pv 0) T.cls_Net T.n_Net_waiting) pa_nil)))), ?_⟩
    simp only [hN.net, tCutE, false_and, exists_false, false_or, or_false, tRet, tRetN, tAndV, tOrV, tNotV, tChain, rI, rI0, rU, tC, tCB, tCons, tNil, tVar, tOp, tUn, tTest, tB, tAnd, tOr, tNot, tIf, tIfS, tSeq, tAsg, tDrop, tNext, gName, gTup_ref, gCons_cons, gNil_nil, and_assoc, tYes, wipe, rEq, rNe, scal_ss, scal_ii, scal_bb, scal_ns, scal_sn, scal_nn, scal_in, scal_ni, tLc_eq, tFor_eq, iList, iTup, iStr, iRng1, iRng2, iZip, iEnum, gSub, tSl, rSetL_ref, rCat_ref, rRep_ref, rJoin_ref, rSlL_ref, rSlS_ref, rMulS_ref, rIxL_ref, rIxT_ref, rLenK_ref, rAll_ref, rIn_ref, tLst, tTup, tPar, tPar3, tAug, tPart, tNoPart, tCall, List.getElem?_cons_zero, List.getElem?_cons_succ, List.set_cons_zero, List.set_cons_succ, List.map_cons, List.map_nil, List.append_nil, List.nil_append, List.cons_append, Option.some.injEq, exists_eq_left', exists_eq_left, exists_eq_right, exists_eq_right', exists_eq', V.int.injEq, V.str.injEq, V.bl.injEq, V.ref.injEq, List.cons.injEq, tM0, tM1, rNewStrs, sgn_eq, split_dot, split_sp, split_nl, dot_len, sp_len, nl_len, cxOf_K, L2.start, List.length_cons, List.length_nil, List.replicate_succ, List.replicate_zero, Nat.reduceSub, Nat.zero_add, and_true, true_and, and_self, exists_and_left, exists_const, Bool.false_eq_true, if_false, if_true, ite_true, ite_false, reduceIte, decide_eq_true_eq, reduceCtorEq, Nat.reduceAdd, Nat.reduceLT, tMseq, tMret, tNdef1, tThru, tCallV, gFldC, tFldC, sFldC, sFldAugC, tMeth, tMethX, tMethS, tMake, tCKw, sDPut, tDGet2, tVeI, tOst, tWhy, tXf, tListZip, tCallX, tCallXU, tCallV, tCallVS, tLam1, tLamD, tCallS, tCls, tClsD, cx_cells, cx_scope, cx_N, cx_prog, cx_w, cx_base, cx_mg, cx_qual, tLstRg, tRg1, tRg2, HO.ins.injEq, HO.lst.injEq, HO.tup.injEq, HO.dK.injEq, upd_same, upd_upd, tBM, tBM0, tyV_lst, isL_lst, rAppend_ref, rExtend_ref, rClear_ref, rAdd_int, rSub_int, li_len, ne_len, Nat.reduceLT, Nat.reduceLeDiff, lk_number, lk_pattern, lk_work, lk_rank, lk_once, lk_gate, lk_group, lk_muted, lk_gone, pt_once, pt_gate, pt_group, pt_muted, pt_gone, lk_known, lk_policy, lk_most, lk_depth, lk_locks, lk_waiting, lk_store, lk_faulty, pt_depth, pt_locks, pt_waiting]
    exact ⟨_, _, rfl, .inl (.of hN.wt), fun p np => q _ p (same_put (Same.refl _) np) np upd_same⟩
theorem M_Net_waits_0 (T : Tx K mg) : MethG P w K mg base (CX0) (1) (He.ga K "Net") "waits" p_Net_waits ([]) (sp_waits K) := by
  obtain ⟨fd, F, ok⟩ := O_Net_waits T
  
  exact ⟨_, fd, [], T.cls_Net, T.m_Net_waits, ok, .nil, F.bindsN fun _ _ _ _ _ _ us hl => match us, hl with | [_], _ => rfl⟩
def sp_faults (K : PySem.W.Frag) : Sp := fun vs H Q _ => ∃ (a : Addr) (N : NetS), vs = [.ref a] ∧ NetAt K H a N ∧ ∀ H' p, Same H H' → H p = none → H' p = some (.lst N.fls) → Q (.ref p) H'
theorem O_Net_faults (T : Tx K mg) : ∃ fd, F_Net_faults K (He.fAd K ("Net", some "faults")) fd ∧ FnOk P w K mg base (CX0) (1) (He.fAd K ("Net", some "faults")) fd p_Net_faults (sp_faults K) := by
  obtain ⟨fd, F⟩ := T.f_Net_faults
  refine ⟨fd, F, F.ok sc_Net_faults (fun vs H Q E h => ?_) (fun cdv A outer s H vs Q E hr h => ?_)⟩
  · obtain ⟨a, N, rfl, _⟩ := h; rfl
  · obtain ⟨a, N, rfl, hN, q⟩ := h
    refine ⟨_, PSs.nox (pss_one (ps_ret (pe_callTy (call_list_ofK (K := K) rfl) (by rfl) T.b_list (by decide +kernel) (pa_cons (pe_fldC (K := K) rfl (pv 0) T.cls_Net T.n_Net_faulty) pa_nil)))), ?_⟩
    simp only [hN.net, tCutE, false_and, exists_false, false_or, or_false, tRet, tRetN, tAndV, tOrV, tNotV, tChain, rI, rI0, rU, tC, tCB, tCons, tNil, tVar, tOp, tUn, tTest, tB, tAnd, tOr, tNot, tIf, tIfS, tSeq, tAsg, tDrop, tNext, gName, gTup_ref, gCons_cons, gNil_nil, and_assoc, tYes, wipe, rEq, rNe, scal_ss, scal_ii, scal_bb, scal_ns, scal_sn, scal_nn, scal_in, scal_ni, tLc_eq, tFor_eq, iList, iTup, iStr, iRng1, iRng2, iZip, iEnum, gSub, tSl, rSetL_ref, rCat_ref, rRep_ref, rJoin_ref, rSlL_ref, rSlS_ref, rMulS_ref, rIxL_ref, rIxT_ref, rLenK_ref, rAll_ref, rIn_ref, tLst, tTup, tPar, tPar3, tAug, tPart, tNoPart, tCall, List.getElem?_cons_zero, List.getElem?_cons_succ, List.set_cons_zero, List.set_cons_succ, List.map_cons, List.map_nil, List.append_nil, List.nil_append, List.cons_append, Option.some.injEq, exists_eq_left', exists_eq_left, exists_eq_right, exists_eq_right', exists_eq', V.int.injEq, V.str.injEq, V.bl.injEq, V.ref.injEq, List.cons.injEq, tM0, tM1, rNewStrs, sgn_eq, split_dot, split_sp, split_nl, dot_len, sp_len, nl_len, cxOf_K, L2.start, List.length_cons, List.length_nil, List.replicate_succ, List.replicate_zero, Nat.reduceSub, Nat.zero_add, and_true, true_and, and_self, exists_and_left, exists_const, Bool.false_eq_true, if_false, if_true, ite_true, ite_false, reduceIte, decide_eq_true_eq, reduceCtorEq, Nat.reduceAdd, Nat.reduceLT, tMseq, tMret, tNdef1, tThru, tCallV, gFldC, tFldC, sFldC, sFldAugC, tMeth, tMethX, tMethS, tMake, tCKw, sDPut, tDGet2, tVeI, tOst, tWhy, tXf, tListZip, tCallX, tCallXU, tCallV, tCallVS, tLam1, tLamD, tCallS, tCls, tClsD, cx_cells, cx_scope, cx_N, cx_prog, cx_w, cx_base, cx_mg, cx_qual, tLstRg, tRg1, tRg2, HO.ins.injEq, HO.lst.injEq, HO.tup.injEq, HO.dK.injEq, upd_same, upd_upd, tBM, tBM0, tyV_lst, isL_lst, rAppend_ref, rExtend_ref, rClear_ref, rAdd_int, rSub_int, li_len, ne_len, Nat.reduceLT, Nat.reduceLeDiff, lk_number, lk_pattern, lk_work, lk_rank, lk_once, lk_gate, lk_group, lk_muted, lk_gone, pt_once, pt_gate, pt_group, pt_muted, pt_gone, lk_known, lk_policy, lk_most, lk_depth, lk_locks, lk_waiting, lk_store, lk_faulty, pt_depth, pt_locks, pt_waiting]
    exact ⟨_, _, rfl, .inl (.of hN.fl), fun p np => q _ p (same_put (Same.refl _) np) np upd_same⟩
theorem M_Net_faults_0 (T : Tx K mg) : MethG P w K mg base (CX0) (1) (He.ga K "Net") "faults" p_Net_faults ([]) (sp_faults K) := by
  obtain ⟨fd, F, ok⟩ := O_Net_faults T
  
  exact ⟨_, fd, [], T.cls_Net, T.m_Net_faults, ok, .nil, F.bindsN fun _ _ _ _ _ _ us hl => match us, hl with | [_], _ => rfl⟩
def sp_kept (K : PySem.W.Frag) : Sp := fun vs H Q E => ∃ (a : Addr) (N : NetS) (line : Str), vs = [.ref a, .str line] ∧ NetAt K H a N ∧ line.length ≤ 1000 ∧
  (isLine line = false → ∀ H', Same H H' → E (.ref (He.ga K "BadLine")) none H') ∧
  (isLine line = true → ∀ H' p, Same H H' → H p = none → H' p = some (.lst (getS N.sts line)) → Q (.ref p) H')
theorem O_Net_kept (T : Tx K mg) : ∃ fd, F_Net_kept K (He.fAd K ("Net", some "kept")) fd ∧ FnOk P w K mg base (L2.CX P w) (4) (He.fAd K ("Net", some "kept")) fd p_Net_kept (sp_kept K) := by
  obtain ⟨fd, F⟩ := T.f_Net_kept
  refine ⟨fd, F, F.ok sc_Net_kept (fun vs H Q E h => ?_) (fun cdv A outer s H vs Q E hr h => ?_)⟩
  · obtain ⟨a, N, line, rfl, _⟩ := h; rfl
  · obtain ⟨a, N, line, rfl, hN, hl, q1, q2⟩ := h
    refine ⟨_, (pss_cons (ps_expr (pe_callG (G_need_line T) (hr.mono (by first | decide | omega)) (by rfl) (passes_call (takes_of rfl rfl rfl rfl) (fun _ _ _ _ h => h)) (pa_cons (pv 1) pa_nil)))
      (pss_one (ps_ret (pe_callTy (call_list_ofK (K := K) rfl) (by rfl) T.b_list (by decide +kernel) (pa_cons (pe_dget2 (Nat.lt_of_le_of_lt (Nat.add_le_add_left (by decide : 1 ≤ 64) _) hr.units) (pe_fldC (K := K) rfl (pv 0) T.cls_Net T.n_Net_store) (pv 1) (pe_lst pa_nil) ⟨rfl, rfl, rfl, rfl⟩) pa_nil))))), ?_⟩
    simp only [tCutE, false_and, exists_false, false_or, or_false, tRet, tRetN, tAndV, tOrV, tNotV, tChain, rI, rI0, rU, tC, tCB, tCons, tNil, tVar, tOp, tUn, tTest, tB, tAnd, tOr, tNot, tIf, tIfS, tSeq, tAsg, tDrop, tNext, gName, gTup_ref, gCons_cons, gNil_nil, and_assoc, tYes, wipe, rEq, rNe, scal_ss, scal_ii, scal_bb, scal_ns, scal_sn, scal_nn, scal_in, scal_ni, tLc_eq, tFor_eq, iList, iTup, iStr, iRng1, iRng2, iZip, iEnum, gSub, tSl, rSetL_ref, rCat_ref, rRep_ref, rJoin_ref, rSlL_ref, rSlS_ref, rMulS_ref, rIxL_ref, rIxT_ref, rLenK_ref, rAll_ref, rIn_ref, tLst, tTup, tPar, tPar3, tAug, tPart, tNoPart, tCall, List.getElem?_cons_zero, List.getElem?_cons_succ, List.set_cons_zero, List.set_cons_succ, List.map_cons, List.map_nil, List.append_nil, List.nil_append, List.cons_append, Option.some.injEq, exists_eq_left', exists_eq_left, exists_eq_right, exists_eq_right', exists_eq', V.int.injEq, V.str.injEq, V.bl.injEq, V.ref.injEq, List.cons.injEq, tM0, tM1, rNewStrs, sgn_eq, split_dot, split_sp, split_nl, dot_len, sp_len, nl_len, cxOf_K, L2.start, List.length_cons, List.length_nil, List.replicate_succ, List.replicate_zero, Nat.reduceSub, Nat.zero_add, and_true, true_and, and_self, exists_and_left, exists_const, Bool.false_eq_true, if_false, if_true, ite_true, ite_false, reduceIte, decide_eq_true_eq, reduceCtorEq, Nat.reduceAdd, Nat.reduceLT, tMseq, tMret, tNdef1, tThru, tCallV, gFldC, tFldC, sFldC, sFldAugC, tMeth, tMethX, tMethS, tMake, tCKw, sDPut, tDGet2, tVeI, tOst, tWhy, tXf, tListZip, tCallX, tCallXU, tCallV, tCallVS, tLam1, tLamD, tCallS, tCls, tClsD, cx_cells, cx_scope, cx_N, cx_prog, cx_w, cx_base, cx_mg, cx_qual, tLstRg, tRg1, tRg2, HO.ins.injEq, HO.lst.injEq, HO.tup.injEq, HO.dK.injEq, upd_same, upd_upd, tBM, tBM0, tyV_lst, isL_lst, rAppend_ref, rExtend_ref, rClear_ref, rAdd_int, rSub_int, li_len, ne_len, Nat.reduceLT, Nat.reduceLeDiff, lk_number, lk_pattern, lk_work, lk_rank, lk_once, lk_gate, lk_group, lk_muted, lk_gone, pt_once, pt_gate, pt_group, pt_muted, pt_gone, lk_known, lk_policy, lk_most, lk_depth, lk_locks, lk_waiting, lk_store, lk_faulty, pt_depth, pt_locks, pt_waiting]
    refine ⟨line, rfl, by omega, fun e H1 s1 => ?_, fun e H1 s1 => q1 e H1 s1⟩
    have N1 := hN.same s1
    simp only [N1.net, tCutE, false_and, exists_false, false_or, or_false, tRet, tRetN, tAndV, tOrV, tNotV, tChain, rI, rI0, rU, tC, tCB, tCons, tNil, tVar, tOp, tUn, tTest, tB, tAnd, tOr, tNot, tIf, tIfS, tSeq, tAsg, tDrop, tNext, gName, gTup_ref, gCons_cons, gNil_nil, and_assoc, tYes, wipe, rEq, rNe, scal_ss, scal_ii, scal_bb, scal_ns, scal_sn, scal_nn, scal_in, scal_ni, tLc_eq, tFor_eq, iList, iTup, iStr, iRng1, iRng2, iZip, iEnum, gSub, tSl, rSetL_ref, rCat_ref, rRep_ref, rJoin_ref, rSlL_ref, rSlS_ref, rMulS_ref, rIxL_ref, rIxT_ref, rLenK_ref, rAll_ref, rIn_ref, tLst, tTup, tPar, tPar3, tAug, tPart, tNoPart, tCall, List.getElem?_cons_zero, List.getElem?_cons_succ, List.set_cons_zero, List.set_cons_succ, List.map_cons, List.map_nil, List.append_nil, List.nil_append, List.cons_append, Option.some.injEq, exists_eq_left', exists_eq_left, exists_eq_right, exists_eq_right', exists_eq', V.int.injEq, V.str.injEq, V.bl.injEq, V.ref.injEq, List.cons.injEq, tM0, tM1, rNewStrs, sgn_eq, split_dot, split_sp, split_nl, dot_len, sp_len, nl_len, cxOf_K, L2.start, List.length_cons, List.length_nil, List.replicate_succ, List.replicate_zero, Nat.reduceSub, Nat.zero_add, and_true, true_and, and_self, exists_and_left, exists_const, Bool.false_eq_true, if_false, if_true, ite_true, ite_false, reduceIte, decide_eq_true_eq, reduceCtorEq, Nat.reduceAdd, Nat.reduceLT, tMseq, tMret, tNdef1, tThru, tCallV, gFldC, tFldC, sFldC, sFldAugC, tMeth, tMethX, tMethS, tMake, tCKw, sDPut, tDGet2, tVeI, tOst, tWhy, tXf, tListZip, tCallX, tCallXU, tCallV, tCallVS, tLam1, tLamD, tCallS, tCls, tClsD, cx_cells, cx_scope, cx_N, cx_prog, cx_w, cx_base, cx_mg, cx_qual, tLstRg, tRg1, tRg2, HO.ins.injEq, HO.lst.injEq, HO.tup.injEq, HO.dK.injEq, upd_same, upd_upd, tBM, tBM0, tyV_lst, isL_lst, rAppend_ref, rExtend_ref, rClear_ref, rAdd_int, rSub_int, li_len, ne_len, Nat.reduceLT, Nat.reduceLeDiff, lk_number, lk_pattern, lk_work, lk_rank, lk_once, lk_gate, lk_group, lk_muted, lk_gone, pt_once, pt_gate, pt_group, pt_muted, pt_gone, lk_known, lk_policy, lk_most, lk_depth, lk_locks, lk_waiting, lk_store, lk_faulty, pt_depth, pt_locks, pt_waiting]
    refine ⟨.inl ⟨_, .inl N1.st⟩, Nat.zero_le _, fun p np => ?_⟩
    obtain ⟨sa, ha0⟩ := newF (H := H1) (o := .lst []) rfl np
    generalize upd H1 p _ = Ha at sa ha0 ⊢
    refine ⟨_, .k (k := .inr line) (sa _ _ N1.st), ?_⟩
    obtain ⟨g, eg, hg⟩ : ∃ g, (valV (stV N.sts) (.inr line)).getD (.ref p) = .ref g ∧ Ha g = some (.lst (getS N.sts line)) := by
      rw [stV_get]
      unfold getS
      cases e : N.sts.find? fun x => decide (x.1 = line) with
      | none => exact ⟨p, rfl, ha0⟩
      | some x =>
        have hx := N1.ss x (List.mem_of_find?_eq_some e)
        exact ⟨x.2.1, rfl, sa _ _ hx.1⟩
    rw [eg]
    exact ⟨g, _, rfl, .inl (.of hg), fun l nl => q2 e _ l ((s1.trans sa).trans (same_put (Same.refl _) nl)) (s1.free (sa.free nl)) upd_same⟩
theorem M_Net_kept_1 (T : Tx K mg) : MethG P w K mg base (L2.CX P w) (4) (He.ga K "Net") "kept" p_Net_kept ([]) (sp_kept K) := by
  obtain ⟨fd, F, ok⟩ := O_Net_kept T
  
  exact ⟨_, fd, [], T.cls_Net, T.m_Net_kept, ok, .nil, F.bindsN fun _ _ _ _ _ _ us hl => match us, hl with | [_, _], _ => rfl⟩
end
end Hk

set_option Elab.async false
set_option linter.all false
set_option maxRecDepth 100000
set_option maxHeartbeats 4000000
namespace Hk
open PySem PySem.Spec PyProof.Rows L2
open LamX NdefX
open TL
section
variable {P : Program} {w : World} {K : PySem.W.Frag} {mg : Str → Option Value} {base : Heap}
/-! ### listener, leave, mute, leave_group -/
/-- a listener's flags are set -/
theorem NetAt.setL {H : Hp} {a : Addr} {N : NetS} {i : Nat} {l l' : Lis} (hN : NetAt K H a N) (hT : Tab K H) (hx : N.ls[i]? = some l) (e1 : l'.ad = l.ad) (e2 : l'.p = l.p) : Fwd K (fun b => b = l.ad) H (upd H l.ad (.ins (LC K) l'.dx (liV l'))) ∧ NetAt K (upd H l.ad (.ins (LC K) l'.dx (liV l'))) a { N with ls := N.ls.set i l' } := by
  have hl : H l.ad = _ := (hN.li l (List.mem_of_getElem? hx)).1
  have hi := (List.getElem?_eq_some_iff.mp hx)
  have k : ∀ b o, H b = some o → (∀ dx fs, o ≠ .ins (LC K) dx fs) → upd H l.ad (.ins (LC K) l'.dx (liV l')) b = some o := fun b o h n => by rw [upd_ne (fun z => by rw [z, hl] at h; exact n _ _ (Option.some.inj h).symm)]; exact h
  have hm : (N.ls.set i l').map (fun l => l.ad) = N.ls.map (fun l => l.ad) := by
    rw [List.map_set, e1]
    refine List.ext_getElem? fun j => ?_
    rw [List.getElem?_set]
    split
    · rename_i e
      subst e
      rw [if_pos (by rw [List.length_map]; exact hi.1), List.getElem?_map, hx]; rfl
    · rfl
  have hm2 : (N.ls.set i l').map (fun l => V.ref l.ad) = N.ls.map (fun l => V.ref l.ad) := by
    have := congrArg (List.map V.ref) hm
    rw [List.map_map, List.map_map] at this
    exact this
  refine ⟨(Fw.refl hT).put hl (fun _ z => by cases z) (fun z => z) (.inl rfl), k _ _ hN.net (fun dx fs z => hN.ac (HO.ins.inj z).1), ?_, k _ _ hN.wt (fun _ _ z => by cases z), k _ _ hN.st (fun _ _ z => by cases z), k _ _ hN.fl (fun _ _ z => by cases z), hN.kw, hN.kf, hN.wf, fun y hy => ?_, ?_, hN.ac, ?_, hN.mo, hN.sf, fun q hq => ⟨k _ _ (hN.ss q hq).1 (fun _ _ z => by cases z), (hN.ss q hq).2⟩⟩
  · show _ = some (HO.lst ((N.ls.set i l').map fun l => V.ref l.ad))
    rw [hm2]
    exact k _ _ hN.kn (fun _ _ z => by cases z)
  · obtain ⟨j, hj⟩ := List.mem_iff_getElem?.mp hy
    have hj : (N.ls.set i l')[j]? = some y := hj
    rw [List.getElem?_set] at hj
    by_cases e : i = j
    · rw [if_pos e, if_pos hi.1] at hj
      cases hj
      exact ⟨by unfold LisAt; rw [e1]; exact upd_same, by rw [e2]; exact (hN.li l (List.mem_of_getElem? hx)).2⟩
    · rw [if_neg e] at hj
      have hya : y.ad ≠ l.ad := fun z => by
        have hj' := List.getElem?_eq_some_iff.mp hj
        exact e ((List.getElem_inj (i := i) (j := j) (h₀ := by rw [List.length_map]; exact hi.1) (h₁ := by rw [List.length_map]; exact hj'.1) hN.nd).mp (by rw [List.getElem_map, List.getElem_map, hj'.2, hi.2]; exact z.symm))
      have hm := List.mem_of_getElem? hj
      exact ⟨by unfold LisAt; rw [upd_ne hya]; exact (hN.li y hm).1, (hN.li y hm).2⟩
  · show ((N.ls.set i l').map fun l => l.ad).Nodup
    rw [hm]; exact hN.nd
  · show (N.ls.set i l').length ≤ _
    rw [List.length_set]; exact hN.few
theorem NetAt.mapL {H H' : Hp} {a : Addr} {N : NetS} {f : Lis → Lis} (hN : NetAt K H a N) (ha : ∀ l, (f l).ad = l.ad) (hp : ∀ l, (f l).p = l.p) (hl : ∀ l ∈ N.ls, LisAt K H' (f l)) (hk : ∀ b o, H b = some o → (∀ dx fs, o ≠ .ins (LC K) dx fs) → ¬ Imm o → (∀ ps, o ≠ .tbl ps) → H' b = some o) : NetAt K H' a { N with ls := N.ls.map f } := by
  have hm : (N.ls.map f).map (fun l => l.ad) = N.ls.map (fun l => l.ad) := by
    rw [List.map_map]; exact List.map_congr_left fun l _ => ha l
  have hm2 : (N.ls.map f).map (fun l => V.ref l.ad) = N.ls.map (fun l => V.ref l.ad) := by
    rw [List.map_map]; exact List.map_congr_left fun l _ => congrArg V.ref (ha l)
  refine ⟨hk _ _ hN.net (fun dx fs z => hN.ac (HO.ins.inj z).1) (fun z => z) (fun _ z => by cases z), ?_, hk _ _ hN.wt (fun _ _ z => by cases z) (fun z => z) (fun _ z => by cases z), hk _ _ hN.st (fun _ _ z => by cases z) (fun z => z) (fun _ z => by cases z), hk _ _ hN.fl (fun _ _ z => by cases z) (fun z => z) (fun _ z => by cases z), hN.kw, hN.kf, hN.wf, fun y hy => ?_, ?_, hN.ac, ?_, hN.mo, hN.sf, fun q hq => ⟨hk _ _ (hN.ss q hq).1 (fun _ _ z => by cases z) (fun z => z) (fun _ z => by cases z), (hN.ss q hq).2⟩⟩
  · show _ = some (HO.lst ((N.ls.map f).map fun l => V.ref l.ad))
    rw [hm2]; exact hk _ _ hN.kn (fun _ _ z => by cases z) (fun z => z) (fun _ z => by cases z)
  · obtain ⟨l, h, rfl⟩ := List.mem_map.mp hy
    exact ⟨hl l h, by rw [hp]; exact (hN.li l h).2⟩
  · show ((N.ls.map f).map fun l => l.ad).Nodup
    rw [hm]; exact hN.nd
  · show (N.ls.map f).length ≤ _
    rw [List.length_map]; exact hN.few
theorem NetAt.inj {H : Hp} {a : Addr} {N : NetS} (hN : NetAt K H a N) {x y : Lis} (hx : x ∈ N.ls) (hy : y ∈ N.ls) (e : x.ad = y.ad) : x = y := by
  have h1 := find_ad hN.nd hx
  have h2 := find_ad hN.nd hy
  rw [e, h2] at h1
  exact (Option.some.inj h1).symm
end
end Hk

set_option Elab.async false
set_option linter.all false
set_option maxRecDepth 100000
set_option maxHeartbeats 4000000
namespace Hk
open PySem PySem.Spec PyProof.Rows L2
open LamX NdefX
open LamX NdefX
section
variable {P : Program} {w : World} {K : PySem.W.Frag} {mg : Str → Option Value} {base : Heap}
/-! ### _law_kind: the word of a refusal -/
def words11 : List Str := ["line", "pattern", "word", "count", "listener", "busy", "deep", "held", "work", "text", "halt"]
/-- a refusal of one of ours, by its place among them -/
structure Ref11 (K : PySem.W.Frag) (x : Str) : Prop where
  C : ExcC K (He.ga K x)
  kit : ∀ y b, (y, b) ∈ own11.map (fun y => (y, decide (y = x))) → PySem.W.kitOne K (.ref (He.ga K x)) (.ref (He.ga K y)) = some b
  ve : PySem.W.kitOne K (.ref (He.ga K x)) (.type "ValueError") = some true
  he : PySem.W.exmOne K (.ref (He.ga K x)) (.ref (He.ga K "HearError")) = some true
theorem ref11_of (h : refB K x = true) : Ref11 K x := by
  unfold refB at h
  obtain ⟨h1, h⟩ := He.ba h
  obtain ⟨h2, h⟩ := He.ba h
  obtain ⟨h3, h4⟩ := He.ba h
  exact ⟨excB_ok h1, fun y b hm => kitsB_ok h2 hm, of_decide_eq_true h3, of_decide_eq_true h4⟩
def kinds11 (x : Str) : List V := own11.map fun y => V.bl (decide (y = x))
def kindB (j : Nat) (x : Str) : Bool := decide ((kinds11 x).countP (fun z => eqV z (.bl true)) = 1) && ((match (kinds11 x)[j]? with | some z => eqV z (.bl true) | none => false) && (((kinds11 x).take j).all (fun z => !eqV z (.bl true)) && ((kinds11 x).all flatV && decide (words11[j]? = some (words11.getD j "")))))
theorem kinds_ok : ∀ j ∈ List.range 11, (match own11[j]? with | some x => kindB j x | none => false) = true := by decide +kernel
def sp_law_kind (P : Program) (w : World) (K : PySem.W.Frag) (mg : Str → Option Value) (base : Heap) : Sp := fun vs H Q _ => ∃ (f : Addr), vs = [.ref f] ∧ ∃ sp, Act P w K mg base 40 f sp ∧
  ∀ E' : XK, (∀ cls d H', (∃ x j, cls = .ref (He.ga K x) ∧ XdAt H' d ∧ Ref11 K x ∧ own11[j]? = some x ∧ ∀ H'', Same H' H'' → Q (.str (words11.getD j "")) H'') → E' cls d H') → sp [] H (fun _ H' => Q (.str ("" : Str)) H') E'
theorem G_law_kind (T : Tx K mg) : Glob P w K mg base (CX0) 41 "_law_kind" p_law_kind [] (sp_law_kind P w K mg base) := by
  obtain ⟨fd, F⟩ := T.f_law_kind
  refine ⟨_, fd, [], F.ok sc_law_kind (fun vs H Q E h => ?_) (fun cdv A outer s H vs Q E hr h => ?_), T.g__law_kind, F.kp, .nil, F.bindsN fun _ _ _ _ _ _ us hl => match us, hl with | [_], _ => rfl⟩
  · obtain ⟨f, rfl, _⟩ := h; rfl
  · obtain ⟨f, rfl, sp, ac, q⟩ := h
    refine ⟨_, PSs.nox (pss_cons (ps_try_as (i := 1) rfl rfl sc_law_kind.nd rfl rfl ⟨rfl, by decide, .inl T.g_HearError⟩ L2.takes0 (fun W pn xe tk _ => (pss_one (ps_expr (pe_callVS0K (P := P) (w := w) (K := K) (mg := mg) (base := base) rfl rfl rfl rfl rfl (k := 40) (i := 0) (hr.mono (by first | decide | omega)) (fun σ => passAt tk σ) rfl (Or.inl rfl)))))
      (fun a oe cls d pn hz hf => pss_clsD (K := K) (fun D e1 hC => (pss_cons (ps_set (i := 2) sc_law_kind.nd rfl (Or.inl rfl) (pe_lst (pa_cons (pe_callB (call_isED (K := K) rfl hC e1 hz hf) (by rfl) T.b_isinstance (by decide +kernel) (pa_cons (pv 1) (pa_cons (pe_glob (v := V.ref (He.ga K "BadLine")) rfl T.g_BadLine rfl) pa_nil))) (pa_cons (pe_callB (call_isED (K := K) rfl hC e1 hz hf) (by rfl) T.b_isinstance (by decide +kernel) (pa_cons (pv 1) (pa_cons (pe_glob (v := V.ref (He.ga K "BadPattern")) rfl T.g_BadPattern rfl) pa_nil))) (pa_cons (pe_callB (call_isED (K := K) rfl hC e1 hz hf) (by rfl) T.b_isinstance (by decide +kernel) (pa_cons (pv 1) (pa_cons (pe_glob (v := V.ref (He.ga K "BadWord")) rfl T.g_BadWord rfl) pa_nil))) (pa_cons (pe_callB (call_isED (K := K) rfl hC e1 hz hf) (by rfl) T.b_isinstance (by decide +kernel) (pa_cons (pv 1) (pa_cons (pe_glob (v := V.ref (He.ga K "BadCount")) rfl T.g_BadCount rfl) pa_nil))) pa_nil))))))
      (pss_cons (ps_set (i := 2) sc_law_kind.nd rfl (Or.inl rfl) (pe_op op_cat (pv 2) (pe_lst (pa_cons (pe_callB (call_isED (K := K) rfl hC e1 hz hf) (by rfl) T.b_isinstance (by decide +kernel) (pa_cons (pv 1) (pa_cons (pe_glob (v := V.ref (He.ga K "NoListener")) rfl T.g_NoListener rfl) pa_nil))) (pa_cons (pe_callB (call_isED (K := K) rfl hC e1 hz hf) (by rfl) T.b_isinstance (by decide +kernel) (pa_cons (pv 1) (pa_cons (pe_glob (v := V.ref (He.ga K "Busy")) rfl T.g_Busy rfl) pa_nil))) (pa_cons (pe_callB (call_isED (K := K) rfl hC e1 hz hf) (by rfl) T.b_isinstance (by decide +kernel) (pa_cons (pv 1) (pa_cons (pe_glob (v := V.ref (He.ga K "TooDeep")) rfl T.g_TooDeep rfl) pa_nil))) (pa_cons (pe_callB (call_isED (K := K) rfl hC e1 hz hf) (by rfl) T.b_isinstance (by decide +kernel) (pa_cons (pv 1) (pa_cons (pe_glob (v := V.ref (He.ga K "NotHeld")) rfl T.g_NotHeld rfl) pa_nil))) pa_nil)))))))
      (pss_cons (ps_set (i := 2) sc_law_kind.nd rfl (Or.inl rfl) (pe_op op_cat (pv 2) (pe_lst (pa_cons (pe_callB (call_isED (K := K) rfl hC e1 hz hf) (by rfl) T.b_isinstance (by decide +kernel) (pa_cons (pv 1) (pa_cons (pe_glob (v := V.ref (He.ga K "NoWork")) rfl T.g_NoWork rfl) pa_nil))) (pa_cons (pe_callB (call_isED (K := K) rfl hC e1 hz hf) (by rfl) T.b_isinstance (by decide +kernel) (pa_cons (pv 1) (pa_cons (pe_glob (v := V.ref (He.ga K "BadText")) rfl T.g_BadText rfl) pa_nil))) (pa_cons (pe_callB (call_isED (K := K) rfl hC e1 hz hf) (by rfl) T.b_isinstance (by decide +kernel) (pa_cons (pv 1) (pa_cons (pe_glob (v := V.ref (He.ga K "Halt")) rfl T.g_Halt rfl) pa_nil))) pa_nil))))))
      (pss_cons (ps_set (i := 3) sc_law_kind.nd rfl (Or.inl rfl) (pe_lst (pa_cons pe_str (pa_cons pe_str (pa_cons pe_str (pa_cons pe_str (pa_cons pe_str (pa_cons pe_str (pa_cons pe_str (pa_cons pe_str (pa_cons pe_str (pa_cons pe_str (pa_cons pe_str pa_nil)))))))))))))
      (pss_cons (ps_if (PW.pt (pw_or (pt_cmpR op_ne (pe_bmK (K := K) rfl PySem.F.plainAttrs_list PySem.F.slot_list_count PySem.F.type_list_count (mt_countF (K := K) rfl) (pv 2) (pa_cons pe_bl pa_nil)) pe_int (nomark _)) (pw_or1 (pt_not (pt_val (pe_callB (call_isED (K := K) rfl hC e1 hz hf) (by rfl) T.b_isinstance (by decide +kernel) (pa_cons (pv 1) (pa_cons (pe_bltn (v := .ty "ValueError") (by rfl) T.b_ValueError (by decide +kernel) rfl) pa_nil))))))))
      (pss_one (ps_ret pe_str))
      pss_nil)
      (pss_one (ps_ret (pe_ix (ix_listK (K := K) rfl) (pv 3) (pe_bmK (K := K) rfl PySem.F.plainAttrs_list PySem.F.slot_list_index PySem.F.type_list_index (mt_indexK (K := K) rfl) (pv 2) (pa_cons pe_bl pa_nil)) (fun _ _ => rfl))))))))))))
      (pss_one (ps_ret pe_str))), ?_⟩
    simp only [tCutE, false_and, exists_false, false_or, or_false, tRet, tRetN, tAndV, tOrV, tNotV, tChain, rI, rI0, rU, tC, tCB, tCons, tNil, tVar, tOp, tUn, tTest, tB, tAnd, tOr, tNot, tIf, tIfS, tSeq, tAsg, tDrop, tNext, gName, gTup_ref, gCons_cons, gNil_nil, and_assoc, tYes, wipe, rEq, rNe, scal_ss, scal_ii, scal_bb, scal_ns, scal_sn, scal_nn, scal_in, scal_ni, tLc_eq, tFor_eq, iList, iTup, iStr, iRng1, iRng2, iZip, iEnum, gSub, tSl, rSetL_ref, rCat_ref, rRep_ref, rJoin_ref, rSlL_ref, rSlS_ref, rMulS_ref, rIxL_ref, rIxT_ref, rLenK_ref, rAll_ref, rIn_ref, tLst, tTup, tPar, tPar3, tAug, tPart, tNoPart, tCall, List.getElem?_cons_zero, List.getElem?_cons_succ, List.set_cons_zero, List.set_cons_succ, List.map_cons, List.map_nil, List.append_nil, List.nil_append, List.cons_append, Option.some.injEq, exists_eq_left', exists_eq_left, exists_eq_right, exists_eq_right', exists_eq', V.int.injEq, V.str.injEq, V.bl.injEq, V.ref.injEq, List.cons.injEq, tM0, tM1, rNewStrs, sgn_eq, split_dot, split_sp, split_nl, dot_len, sp_len, nl_len, cxOf_K, L2.start, List.length_cons, List.length_nil, List.replicate_succ, List.replicate_zero, Nat.reduceSub, Nat.zero_add, and_true, true_and, and_self, exists_and_left, exists_const, Bool.false_eq_true, if_false, if_true, ite_true, ite_false, reduceIte, decide_eq_true_eq, reduceCtorEq, Nat.reduceAdd, Nat.reduceLT, tMseq, tMret, tNdef1, tThru, tCallV, gFldC, tFldC, sFldC, sFldAugC, tMeth, tMethX, tMethS, tMake, tCKw, sDPut, tDGet2, tVeI, tOst, tWhy, tXf, tListZip, tCallX, tCallXU, tCallV, tCallVS, tLam1, tLamD, tCallS, tCls, tClsD, cx_cells, cx_scope, cx_N, cx_prog, cx_w, cx_base, cx_mg, cx_qual]
    refine ⟨sp, ac, q _ fun cls d H' hx => ?_⟩
    obtain ⟨x, j, rfl, hxd, R, hj, qq⟩ := hx
    refine ⟨true, R.he, fun _ a na => ⟨_, rfl, R.C, ?_⟩, fun z => by cases z⟩
    have hj' : j < 11 := (List.getElem?_eq_some_iff.mp hj).1
    have ko := kinds_ok j (List.mem_range.mpr hj')
    rw [hj] at ko
    obtain ⟨k1, ko⟩ := He.ba (show kindB j x = true from ko)
    obtain ⟨k2, ko⟩ := He.ba ko
    obtain ⟨k3, ko⟩ := He.ba ko
    obtain ⟨k4, k5⟩ := He.ba ko
    have k1 := of_decide_eq_true k1
    have k5 := of_decide_eq_true k5
    have kit : ∀ y, y ∈ own11 → PySem.W.kitOne K (.ref (He.ga K x)) (.ref (He.ga K y)) = some (decide (y = x)) := fun y hy => R.kit y _ (List.mem_map.mpr ⟨y, hy, rfl⟩)
    simp only [tCutE, false_and, exists_false, false_or, or_false, tRet, tRetN, tAndV, tOrV, tNotV, tChain, rI, rI0, rU, tC, tCB, tCons, tNil, tVar, tOp, tUn, tTest, tB, tAnd, tOr, tNot, tIf, tIfS, tSeq, tAsg, tDrop, tNext, gName, gTup_ref, gCons_cons, gNil_nil, and_assoc, tYes, wipe, rEq, rNe, scal_ss, scal_ii, scal_bb, scal_ns, scal_sn, scal_nn, scal_in, scal_ni, tLc_eq, tFor_eq, iList, iTup, iStr, iRng1, iRng2, iZip, iEnum, gSub, tSl, rSetL_ref, rCat_ref, rRep_ref, rJoin_ref, rSlL_ref, rSlS_ref, rMulS_ref, rIxL_ref, rIxT_ref, rLenK_ref, rAll_ref, rIn_ref, tLst, tTup, tPar, tPar3, tAug, tPart, tNoPart, tCall, List.getElem?_cons_zero, List.getElem?_cons_succ, List.set_cons_zero, List.set_cons_succ, List.map_cons, List.map_nil, List.append_nil, List.nil_append, List.cons_append, Option.some.injEq, exists_eq_left', exists_eq_left, exists_eq_right, exists_eq_right', exists_eq', V.int.injEq, V.str.injEq, V.bl.injEq, V.ref.injEq, List.cons.injEq, tM0, tM1, rNewStrs, sgn_eq, split_dot, split_sp, split_nl, dot_len, sp_len, nl_len, cxOf_K, L2.start, List.length_cons, List.length_nil, List.replicate_succ, List.replicate_zero, Nat.reduceSub, Nat.zero_add, and_true, true_and, and_self, exists_and_left, exists_const, Bool.false_eq_true, if_false, if_true, ite_true, ite_false, reduceIte, decide_eq_true_eq, reduceCtorEq, Nat.reduceAdd, Nat.reduceLT, tMseq, tMret, tNdef1, tThru, tCallV, gFldC, tFldC, sFldC, sFldAugC, tMeth, tMethX, tMethS, tMake, tCKw, sDPut, tDGet2, tVeI, tOst, tWhy, tXf, tListZip, tCallX, tCallXU, tCallV, tCallVS, tLam1, tLamD, tCallS, tCls, tClsD, cx_cells, cx_scope, cx_N, cx_prog, cx_w, cx_base, cx_mg, cx_qual]
    refine rIsED_ref (kit "BadLine" (by decide +kernel)) hxd (rIsED_ref (kit "BadPattern" (by decide +kernel)) hxd (rIsED_ref (kit "BadWord" (by decide +kernel)) hxd (rIsED_ref (kit "BadCount" (by decide +kernel)) hxd ?_)))
    refine ⟨by decide, fun p1 hp1 => ?_⟩
    have sa1 : ∀ o, Same H' (upd H' p1 o) := fun o => (newF (H := H') rfl hp1).1
    refine rIsED_ref (kit "NoListener" (by decide +kernel)) (hxd.same (sa1 _)) (rIsED_ref (kit "Busy" (by decide +kernel)) (hxd.same (sa1 _)) (rIsED_ref (kit "TooDeep" (by decide +kernel)) (hxd.same (sa1 _)) (rIsED_ref (kit "NotHeld" (by decide +kernel)) (hxd.same (sa1 _)) ?_)))
    refine ⟨by decide, fun p2 hp2 => ?_⟩
    generalize hA : upd H' p1 _ = Ha at hp2 ⊢
    obtain ⟨sa, fa1⟩ := newF hA ‹_›
    generalize hB : upd Ha p2 _ = Hb
    obtain ⟨sb, fb⟩ := newF hB hp2
    refine ⟨_, sb _ _ fa1, _, fb, small (by simp), fun p3 hp3 => ?_⟩
    generalize hC : upd Hb p3 _ = Hc
    obtain ⟨sc, fc⟩ := newF hC hp3
    have sc1 : Same H' Hc := (sa.trans sb).trans sc
    refine rIsED_ref (kit "NoWork" (by decide +kernel)) (hxd.same sc1) (rIsED_ref (kit "BadText" (by decide +kernel)) (hxd.same sc1) (rIsED_ref (kit "Halt" (by decide +kernel)) (hxd.same sc1) ?_))
    refine ⟨by decide, fun p4 hp4 => ?_⟩
    generalize hD : upd Hc p4 _ = Hd
    obtain ⟨sd, fd4⟩ := newF hD hp4
    refine ⟨_, sd _ _ fc, _, fd4, small (by simp), fun p5 hp5 => ?_⟩
    generalize hE : upd Hd p5 _ = He5
    obtain ⟨se, fe⟩ := newF hE hp5
    refine ⟨by decide, fun p6 hp6 => ?_⟩
    generalize hF : upd He5 p6 _ = Hf
    obtain ⟨sf, ff⟩ := newF hF hp6
    have fe' : Hf p5 = some (.lst (kinds11 x)) := sf _ _ fe
    have ff' : Hf p6 = some (.lst (words11.map V.str)) := ff
    have sH : Same H' Hf := ((((sa.trans sb).trans sc).trans sd).trans se).trans sf
    refine ⟨_, rfl, .inl ⟨rfl, _, .of fe'⟩, p5, _, _, rfl, rfl, .of fe', rfl, k4, rfl, ?_⟩
    rw [k1]
    refine ifN (by simp) (rIsED_ty R.ve (hxd.same sH) ⟨_, rfl, ifN (by simp) ⟨_, rfl, .inl ⟨rfl, _, .of fe'⟩, ?_⟩⟩)
    obtain ⟨z, hz1, hz2⟩ : ∃ z, (kinds11 x)[j]? = some z ∧ eqV z (.bl true) = true := by
      cases e : (kinds11 x)[j]? with
      | none => rw [e] at k2; cases k2
      | some z => rw [e] at k2; exact ⟨z, rfl, k2⟩
    refine ⟨p5, _, _, j, z, rfl, rfl, .of fe', rfl, k4, hz1, hz2, fun m z' hm hz' => ?_, p6, _, _, _, rfl, rfl, .of ff', atI_nat (j := j) ?_, qq _ sH⟩
    · have := List.all_eq_true.mp k3 z' (List.mem_iff_getElem?.mpr ⟨m, by rw [List.getElem?_take_of_lt hm]; exact hz'⟩)
      simpa using this
    · rw [List.getElem?_map, k5]; rfl
/-! ### a lambda told to _law_kind: its body over the heap without cells -/
theorem kind_lamG {cm : List (Str × Addr)} {sc : Scope} {N : List Str} {σ : L2.St} {obs : Addr → Obj} {H : Hp} {f : Addr} {L : LF} {fr : List Str} {dvs : List V} {spN : List (Option V) → Sp} {wd : Str} {ws : List V} {N' ps' : List Str} {Q : VK} {E : XK} {R : Hp → Prop} (C : CEnv cm sc N H) (hf : H f = some (LamO f L)) (hc : H L.c = some (CodeO L.c L.qual))
    (ac : Act P w K mg base 40 f (spLam f L fr dvs spN)) (js : List Nat) (hL : L.cl = cloFrom cm L.scope.names []) (hb : ndefB sc L.scope fr = true) (S : NScope N' ps' fr L.scope) (hjs : js.map (fun j => N[j]?) = fr.map some) (hws : js.map (fun j => σ[j]?) = ws.map (fun v => some (some v))) (hdt : DtOk H L.dT dvs)
    (tells : ∀ (Qf : VK) (Ef : XK), (wd = ("" : Str) → ∀ v H', R H' → Qf v H') → (∀ x j d, own11[j]? = some x → words11.getD j "" = wd → Ref11 K x → ∀ H', XdAt H' d → R H' → Ef (.ref (He.ga K x)) d H') → spN (ws.map some) dvs H Qf Ef)
    (q : ∀ H1 H2, R H1 → ((∀ b, InC cm b → exC cm sc N σ obs H b = none → H2 b = none) → Same H1 (delC cm H2)) → Q (.str wd) H2) : sp_law_kind P w K mg base [.ref f] (exC cm sc N σ obs H) Q E := by
  obtain ⟨sp, a, run⟩ := lam_all (vs := []) (R := fun v H' => wd = ("" : Str) ∧ R H') (RE := fun c d H' => XdAt H' d ∧ (∃ x j, own11[j]? = some x ∧ words11.getD j "" = wd ∧ Ref11 K x ∧ c = .ref (He.ga K x)) ∧ R H') (obs := obs) C hf hc ac js hL hb S hjs hws hdt
    (fun Q E hq he => tells Q E (fun z v H' r => hq v H' ⟨z, r⟩) (fun x j d h1 h2 h3 H' hx r => he _ _ H' ⟨hx, ⟨x, j, h1, h2, h3, rfl⟩, r⟩))
  refine ⟨f, rfl, sp, a, fun E' hE => run _ _ (fun v Hl H' ⟨hw, r⟩ o => ?_) (fun c d Hl H' ⟨hd, ⟨x, j, h1, h2, h3, h4⟩, r⟩ o => hE _ _ _ ⟨x, j, h4, fun dd e => (hd dd e).elim fun fs q => ⟨fs, (o dd _ q).1⟩, h3, h1, fun H2 s2 => ?_⟩)⟩
  · have := q H' Hl r (o.same (Same.refl _))
    rw [hw] at this
    exact this
  · rw [h2]
    exact q H' H2 r (o.same s2)
end
end Hk

set_option Elab.async false
set_option linter.all false
set_option maxRecDepth 100000
set_option maxHeartbeats 4000000
namespace Hk
open PySem PySem.Spec PyProof.Rows L2
open LamX NdefX
open TL
section
variable {P : Program} {w : World} {K : PySem.W.Frag} {mg : Str → Option Value} {base : Heap}
/-! ### works that note what they are called with -/
abbrev st_nfNoted : Stmt := (defBody s_law_noted).getD 0 (.Pass ⟨0, 0, 0, 0⟩)
def nfNoted (cl : List (Str × Addr)) (c : Addr) : NF := ⟨"_law_call", Str.ofString "_law_noted.<locals>." ++ Str.ofString "_law_call", defArgs st_nfNoted, defBody st_nfNoted, defScope st_nfNoted, cl, c⟩
def sp_law_noted (K : PySem.W.Frag) : Sp := fun vs H Q _ => ∃ (lg : Addr) (mark ans : V), vs = [.ref lg, mark, ans] ∧ Tab K H ∧ ∀ H' f, Fwd K No H H' → H f = none → CloAt H' f nfNoted ["_law_answer", "_law_log", "_law_mark"] [ans, .ref lg, mark] → Q (.ref f) H'
theorem G_law_noted (T : Tx K mg) (B : Tb K mg base) : Glob P w K mg base (CX0) (1) "_law_noted" p_law_noted [] (sp_law_noted K) := by
  obtain ⟨fd, F⟩ := T.f_law_noted
  refine ⟨_, fd, [], okM (p := ("_law_noted", none)) F sc_law_noted (fun vs H Q E h => ?_) (fun A outer s H vs Q E hr h => ?_), T.g__law_noted, F.kp, .nil, F.bindsN fun _ _ _ _ _ _ us hl => match us, hl with | [_, _, _], _ => rfl⟩
  · obtain ⟨lg, mark, ans, rfl, _⟩ := h; rfl
  · obtain ⟨lg, mark, ans, rfl, hT, q⟩ := h
    refine ⟨_, (pm_cons (ps_ndef1 (i := 3) (Ts := Ts K) (nm := nm) (B.t_law_noted) rfl (m_law_noted K) (show nm 303 4 = Str.ofString "_law_noted.<locals>." ++ Str.ofString "_law_call" by decide +kernel) (ndef_free (sc := defScope s_law_noted) (fr := ["_law_answer", "_law_log", "_law_mark"]) (by decide +kernel)) rfl rfl rfl sc_law_noted.nd rfl (Or.inl rfl) (Or.inr rfl))
      (pm_ret (pv 3) sc_law_noted.nd (fun _ _ _ => rfl))), ?_⟩
    simp only [tCutE, false_and, exists_false, false_or, or_false, tRet, tRetN, tAndV, tOrV, tNotV, tChain, rI, rI0, rU, tC, tCB, tCons, tNil, tVar, tOp, tUn, tTest, tB, tAnd, tOr, tNot, tIf, tIfS, tSeq, tAsg, tDrop, tNext, gName, gTup_ref, gCons_cons, gNil_nil, and_assoc, tYes, wipe, rEq, rNe, scal_ss, scal_ii, scal_bb, scal_ns, scal_sn, scal_nn, scal_in, scal_ni, tLc_eq, tFor_eq, iList, iTup, iStr, iRng1, iRng2, iZip, iEnum, gSub, tSl, rSetL_ref, rCat_ref, rRep_ref, rJoin_ref, rSlL_ref, rSlS_ref, rMulS_ref, rIxL_ref, rIxT_ref, rLenK_ref, rAll_ref, rIn_ref, tLst, tTup, tPar, tPar3, tAug, tPart, tNoPart, tCall, List.getElem?_cons_zero, List.getElem?_cons_succ, List.set_cons_zero, List.set_cons_succ, List.map_cons, List.map_nil, List.append_nil, List.nil_append, List.cons_append, Option.some.injEq, exists_eq_left', exists_eq_left, exists_eq_right, exists_eq_right', exists_eq', V.int.injEq, V.str.injEq, V.bl.injEq, V.ref.injEq, List.cons.injEq, tM0, tM1, rNewStrs, sgn_eq, split_dot, split_sp, split_nl, dot_len, sp_len, nl_len, cxOf_K, L2.start, List.length_cons, List.length_nil, List.replicate_succ, List.replicate_zero, Nat.reduceSub, Nat.zero_add, and_true, true_and, and_self, exists_and_left, exists_const, Bool.false_eq_true, if_false, if_true, ite_true, ite_false, reduceIte, decide_eq_true_eq, reduceCtorEq, Nat.reduceAdd, Nat.reduceLT, tMseq, tMret, tNdef1, tThru, tCallV, gFldC, tFldC, sFldC, sFldAugC, tMeth, tMethX, tMethS, tMake, tCKw, sDPut, tDGet2, tVeI, tOst, tWhy, tXf, tListZip, tCallX, tCallXU, tCallV, tCallVS, tLam1, tLamD, tCallS, tCls, tClsD, cx_cells, cx_scope, cx_N, cx_prog, cx_w, cx_base, cx_mg, cx_qual, tLstRg, tRg1, tRg2, HO.ins.injEq, HO.lst.injEq, HO.tup.injEq, HO.dK.injEq, upd_same, upd_upd, tBM, tBM0, tyV_lst, isL_lst, rAppend_ref, rExtend_ref, rClear_ref, rAdd_int, rSub_int, li_len, ne_len, Nat.reduceLT, Nat.reduceLeDiff, lk_number, lk_pattern, lk_work, lk_rank, lk_once, lk_gate, lk_group, lk_muted, lk_gone, pt_once, pt_gate, pt_group, pt_muted, pt_gone, lk_known, lk_policy, lk_most, lk_depth, lk_locks, lk_waiting, lk_store, lk_faulty, pt_depth, pt_locks, pt_waiting]
    refine ⟨hT, fun f c H1 e1 n1 T1 f0 f1 c1 C obs => ?_⟩
    refine q _ f ((Fw.of_off hT e1 n1 T1).same C.same) f0 (made_clo C f1 c1 rfl rfl rfl [2, 0, 1] (by kernel_rfl) (nscope_by (N := ["_law_line", "_law_thing", "_law_answer", "_law_log", "_law_mark"]) (ps := ["_law_line", "_law_thing"]) (by kernel_rfl)) rfl rfl)
def spNoted : List (Option V) → Sp := fun ws vs H Q _ => ∃ (lg : Addr) (mark ans line th : V) (xs : List V), ws = [some ans, some (.ref lg), some mark] ∧ vs = [line, th] ∧ H lg = some (.lst xs) ∧ xs.length ≤ 100000 ∧ ∀ t, H t = none → Q ans (upd (upd H t (.tup [mark, line, th])) lg (.lst (xs ++ [.ref t])))
theorem nok_noted (f : Addr) (cl : List (Str × Addr)) (c : Addr) : NOk P w K mg base (L2.CX P w) 1 f (nfNoted cl c) ["_law_line", "_law_thing"] ["_law_answer", "_law_log", "_law_mark"] spNoted := by
  have S : NScope ["_law_line", "_law_thing", "_law_answer", "_law_log", "_law_mark"] ["_law_line", "_law_thing"] ["_law_answer", "_law_log", "_law_mark"] (nfNoted cl c).scope := nscope_by (by kernel_rfl)
  refine nok_of S (fun doc pm ctv us hl => ?_) (fun ws vs H Q E h => ?_) (fun A outer s H vs ws Q E hr hf hc hl h => ?_)
  · match us, hl with
    | [_, _], _ => rfl
  · obtain ⟨_, _, _, _, _, _, _, rfl, _⟩ := h; rfl
  · obtain ⟨lg, mark, ans, line, th, xs, rfl, rfl, hlg, hx, q⟩ := h
    refine ⟨_, PSs.nox (pss_cons (ps_expr (pe_bmK (K := K) rfl PySem.F.plainAttrs_list PySem.F.slot_list_append PySem.F.type_list_append mt_append (pv 3) (pa_cons (pe_tup (pa_cons (pv 4) (pa_cons (pv 0) (pa_cons (pv 1) pa_nil)))) pa_nil)))
      (pss_one (ps_ret (pv 2)))), ?_⟩
    simp only [startF, hlg, tCutE, false_and, exists_false, false_or, or_false, tRet, tRetN, tAndV, tOrV, tNotV, tChain, rI, rI0, rU, tC, tCB, tCons, tNil, tVar, tOp, tUn, tTest, tB, tAnd, tOr, tNot, tIf, tIfS, tSeq, tAsg, tDrop, tNext, gName, gTup_ref, gCons_cons, gNil_nil, and_assoc, tYes, wipe, rEq, rNe, scal_ss, scal_ii, scal_bb, scal_ns, scal_sn, scal_nn, scal_in, scal_ni, tLc_eq, tFor_eq, iList, iTup, iStr, iRng1, iRng2, iZip, iEnum, gSub, tSl, rSetL_ref, rCat_ref, rRep_ref, rJoin_ref, rSlL_ref, rSlS_ref, rMulS_ref, rIxL_ref, rIxT_ref, rLenK_ref, rAll_ref, rIn_ref, tLst, tTup, tPar, tPar3, tAug, tPart, tNoPart, tCall, List.getElem?_cons_zero, List.getElem?_cons_succ, List.set_cons_zero, List.set_cons_succ, List.map_cons, List.map_nil, List.append_nil, List.nil_append, List.cons_append, Option.some.injEq, exists_eq_left', exists_eq_left, exists_eq_right, exists_eq_right', exists_eq', V.int.injEq, V.str.injEq, V.bl.injEq, V.ref.injEq, List.cons.injEq, tM0, tM1, rNewStrs, sgn_eq, split_dot, split_sp, split_nl, dot_len, sp_len, nl_len, cxOf_K, L2.start, List.length_cons, List.length_nil, List.replicate_succ, List.replicate_zero, Nat.reduceSub, Nat.zero_add, and_true, true_and, and_self, exists_and_left, exists_const, Bool.false_eq_true, if_false, if_true, ite_true, ite_false, reduceIte, decide_eq_true_eq, reduceCtorEq, Nat.reduceAdd, Nat.reduceLT, tMseq, tMret, tNdef1, tThru, tCallV, gFldC, tFldC, sFldC, sFldAugC, tMeth, tMethX, tMethS, tMake, tCKw, sDPut, tDGet2, tVeI, tOst, tWhy, tXf, tListZip, tCallX, tCallXU, tCallV, tCallVS, tLam1, tLamD, tCallS, tCls, tClsD, cx_cells, cx_scope, cx_N, cx_prog, cx_w, cx_base, cx_mg, cx_qual, tLstRg, tRg1, tRg2, HO.ins.injEq, HO.lst.injEq, HO.tup.injEq, HO.dK.injEq, upd_same, upd_upd, tBM, tBM0, tyV_lst, isL_lst, rAppend_ref, rExtend_ref, rClear_ref, rAdd_int, rSub_int, li_len, ne_len, Nat.reduceLT, Nat.reduceLeDiff, lk_number, lk_pattern, lk_work, lk_rank, lk_once, lk_gate, lk_group, lk_muted, lk_gone, pt_once, pt_gate, pt_group, pt_muted, pt_gone, lk_known, lk_policy, lk_most, lk_depth, lk_locks, lk_waiting, lk_store, lk_faulty, pt_depth, pt_locks, pt_waiting]
    refine ⟨by decide, fun t nt => ⟨_, by rw [upd_ne (ne_of_none hlg nt)]; exact hlg, smallLt hx, q t nt⟩⟩
theorem noted_runs {H : Hp} {f lg : Addr} {mark ans line th : V} {xs : List V} (C : CloAt H f nfNoted ["_law_answer", "_law_log", "_law_mark"] [ans, .ref lg, mark]) (hlg : H lg = some (.lst xs)) (hx : xs.length ≤ 100000) :
    ∃ sp, Act P w K mg base 1 f sp ∧ Runs sp [line, th] H (fun v H' => v = ans ∧ ∃ t, H t = none ∧ H' = upd (upd H t (.tup [mark, line, th])) lg (.lst (xs ++ [.ref t]))) E0 := by
  refine clo_runs C nok_noted fun cl hcl Q E hq he => ?_
  have nl : ¬ InC cl lg := fun z => by
    obtain ⟨v, ob, e⟩ := hcl lg z
    rw [hlg] at e; cases e
  refine ⟨lg, mark, ans, line, th, xs, rfl, rfl, by rw [delC_out nl]; exact hlg, hx, fun t nt => hq _ _ fun hz => ?_⟩
  have nt2 : ¬ InC cl t := fun z => by
    have := hz t z
    by_cases e : t = lg
    · rw [e, upd_same] at this; cases this
    · rw [upd_ne e, upd_same] at this; cases this
  rw [delC_out nt2] at nt
  refine ⟨rfl, t, nt, ?_⟩
  rw [putC_upd nl, putC_upd nt2, putC_del]
end
end Hk

set_option Elab.async false
set_option linter.all false
set_option maxRecDepth 100000
set_option maxHeartbeats 4000000
namespace Hk
open PySem PySem.Spec PyProof.Rows L2
open LamX NdefX
open TL
section
variable {P : Program} {w : World} {K : PySem.W.Frag} {mg : Str → Option Value} {base : Heap}
/-! ### rounds by a state of one's own -/
theorem hear_mem {ls : List Lis} {line : Str} {l : Lis} (h : l ∈ hearM ls line) : l ∈ ls ∧ l.gone = false := by
  have h1 := (List.mem_filter.mp h).1
  have h2 := (List.mergeSort_perm _ _).mem_iff.mp h1
  obtain ⟨h3, h4⟩ := List.mem_filter.mp h2
  exact ⟨h3, by simpa using h4⟩
/-- the listeners in turn: the state, what was told -/
def runL {A : Type} (step : A → Lis → A × List V) (s : A) (ls : List Lis) : A × List (Int × V) := ls.foldl (fun q l => ((step q.1 l).1, q.2 ++ (step q.1 l).2.map fun v => (l.n, v))) (s, [])
theorem runL_snoc {A : Type} {step : A → Lis → A × List V} {s : A} {hs : List Lis} {i : Nat} {l : Lis} (h : hs[i]? = some l) : runL step s (hs.take (i + 1)) = ((step (runL step s (hs.take i)).1 l).1, (runL step s (hs.take i)).2 ++ (step (runL step s (hs.take i)).1 l).2.map fun v => (l.n, v)) := by
  unfold runL
  rw [List.take_add_one, h, List.foldl_append]; rfl
theorem round_abs {A : Type} {H : Hp} {a : Addr} {N : NetS} {line : Str} {th : V} {Q : VK} {E : XK} {k : Nat} (Rep : A → Hp → Prop) (S : Addr → Prop) (step : A → Lis → A × List V) (s0 : A) (hN : NetAt K H a N) (hT : Tab K H) (hl : line.length ≤ 1000) (hm : N.most ≤ 0) (hs : N.sts.length < 1000) (hS : ∀ b, S b → H b ≠ none)
    (h0 : Rep s0 H) (hfr : ∀ s H1 H2 (Z : Addr → Prop), Rep s H1 → Fwd K S H H1 → Fwd K Z H1 H2 → (∀ b, Z b → H b = none) → Rep s H2) (hnet : ∀ s H1, Rep s H1 → ∃ dx fs, H1 a = some (.ins (NC K) dx fs) ∧ fs.lookup ("answer" : Str) = none)
    (hstep : ∀ i l H1 s, (hearM N.ls line)[i]? = some l → s = (runL step s0 ((hearM N.ls line).take i)).1 → Rep s H1 → Fwd K S H H1 → sp_answer P w K mg base k [.ref a, .ref l.ad, .str line, th] H1 (fun r H2 => ∃ (D : Addr) (l2 : Lis), r = .ref D ∧ H1 D = none ∧ H2 D = some (.lst (step s l).2) ∧ (step s l).2.length ≤ 1 ∧ Fwd K S H1 H2 ∧ l2.ad = l.ad ∧ l2.n = l.n ∧ LisAt K H2 l2 ∧ Rep (step s l).1 H2) E0)
    (q : ∀ H' D ts, Rep (runL step s0 (hearM N.ls line)).1 H' → Fwd K S H H' → H D = none → H' D = some (.lst (ts.map V.ref)) → TupsAt H' ts ((runL step s0 (hearM N.ls line)).2.map pairV) → Q (.ref D) H') :
    sp_tell_round P w K mg base k [.ref a, .str line, th] H Q E := by
  refine ⟨a, N, line, th, rfl, hN, hT, hl, hs, fun Z hZ => ?_⟩
  have nZ : ∀ {b o}, H b = some o → ¬ Z b := fun {b o} h z => by rw [hZ b z] at h; cases h
  have zS : ∀ b, Z b → ¬ S b := fun b z h => hS b h (hZ b z)
  have zT : ∀ b, Z b → b ∉ Ts K := fun b z h => by
    obtain ⟨ps, e, _⟩ := hT b h
    exact nZ e z
  refine ⟨fun i acc H1 => Fwd K S H H1 ∧ (∀ b, Z b → H1 b ≠ none) ∧ Rep (runL step s0 ((hearM N.ls line).take i)).1 H1 ∧ acc = (runL step s0 ((hearM N.ls line).take i)).2,
    ⟨fun i acc H1 H2 ⟨w1, z1, h1, h2⟩ w2 => ?_, fun i acc H1 h => h.1.tab, fun i acc H1 h => hnet _ _ h.2.2.1, fun i l acc H1 hi ⟨w1, z1, h1, h2⟩ => ?_⟩, fun H1 N1 kp z1 => ?_, fun acc H1 ts D ⟨w1, z1, h1, h2⟩ hD1 hD2 hD3 => ?_⟩
  · exact ⟨⟨fun b o h z => w2.keep b o (w1.keep b o h z) (z.imp id fun n => ⟨nZ h, n.2⟩), fun b h => w1.dom b (w2.dom b h), w2.tab⟩, fun b z h => z1 b z (w2.dom b h), hfr _ _ _ Z h1 w1 w2 hZ, h2⟩
  · refine answer_mono (hstep i l H1 _ hi rfl h1 w1) (fun r H2 hr => ?_) (fun _ _ _ z => z.elim)
    obtain ⟨D, l2, rfl, nD, hD, hlen, w2, e1, e2, hla, h3⟩ := hr
    have kz : ∀ b o, Z b → H1 b = some o → H2 b = some o := fun b o z h => w2.keep b o h (.inr ⟨zS b z, zT b z⟩)
    refine ⟨D, _, l2, rfl, hD, hlen, fun z => z1 D z nD, kz, fun t ys h => w2.tup h, e1, e2, hla, w1.trans w2, fun b z h => ?_, ?_, ?_⟩
    · exact z1 b z (w2.dom b h)
    · rw [runL_snoc hi]; exact h3
    · rw [runL_snoc hi, h2]
  · have w1 := kp.fw.mono (S' := No) fun b z => absurd z.2 (by omega)
    exact ⟨w1.mono fun _ z => z.elim, fun b z => (z1 b z).1, hfr _ _ _ No h0 (Fw.refl hT) w1 (fun _ z => z.elim), rfl⟩
  · rw [List.take_length] at h1 h2
    subst h2
    exact q H1 D ts h1 w1 (hZ D hD1) hD2 hD3
/-- nothing is told behind it -/
theorem clear_idle {H : Hp} {a : Addr} {N : NetS} {ds : List PyData} {Q : VK} {E : XK} {k : Nat} (hN : NetAt K H a N) (hT : Tab K H) (hD : DpAll K H N.wts ds) (hs : SeqAt.shaped (.list ds) = true) (h : N.wts = [] ∨ N.depth ≠ 0 ∨ N.locks ≠ 0) (q : ∀ H', Same H H' → Q .non H') : sp_clear P w K mg base k [.ref a] H Q E :=
  ⟨a, fun _ H1 => Same H H1, 0, rfl, Same.refl _, fun m H1 s1 => ⟨N, ds, hN.same s1, hT.ext s1, dpAll_same s1 hD, hs, fun _ H2 s2 => q H2 (s1.trans s2), fun e1 e2 v r e => (h.elim (fun z => by rw [z] at e; cases e) fun z => z.elim (fun z => absurd e1 z) fun z => absurd e2 z)⟩⟩
/-- told from without, at once -/
theorem tell_now {H : Hp} {a : Addr} {N : NetS} {line how : Str} {th : V} {Q : VK} {E : XK} {k : Nat} (hN : NetAt K H a N) (hT : Tab K H) (hi : isLine line = true) (hl : line.length ≤ 1000) (hh : how ∈ [("deep" : Str), ("behind" : Str), ("never" : Str)]) (hd : N.depth = 0) (hk : N.locks = 0)
    (q : ∀ H1, Fwd K (fun b => b = a) H H1 → NetAt K H1 a { N with depth := N.depth + 1 } → sp_tell_round P w K mg base k [.ref a, .str line, th] H1 (endV K a fun v H3 => sp_clear P w K mg base k [.ref a] H3 (fun _ H4 => Q v H4) E) (excV K a E)) :
    sp_tell P w K mg base k [.ref a, .str line, th, .str how] H Q E := by
  have nc : ¬ (0 < N.locks ∨ (0 < N.depth ∧ how ≠ "deep")) := fun z => z.elim (fun z => by omega) fun z => by omega
  exact ⟨a, N, line, how, th, rfl, hN, hT, hl, fun z => (by rw [hi] at z; cases z), fun _ z => absurd hh z, fun _ z => absurd z nc, fun _ z => absurd z nc, fun _ _ _ => ⟨fun z => by omega, fun _ H1 w1 N1 => q H1 w1 N1⟩⟩
end
end Hk

set_option Elab.async false
set_option linter.all false
set_option maxRecDepth 100000
set_option maxHeartbeats 4000000
namespace Hk
open PySem PySem.Spec PyProof.Rows L2
open LamX NdefX
open TL
section
variable {P : Program} {w : World} {K : PySem.W.Frag} {mg : Str → Option Value} {base : Heap}
/-! ### rounds by a state of one's own, that may be refused -/
/-- the state behind some listeners, and what was told; none: refused -/
def preX {A : Type} (step : A → Lis → A × Option (List V)) (s : A) (ls : List Lis) : Option (A × List (Int × V)) :=
  ls.foldl (fun q l => q.bind fun z => match step z.1 l with
    | (s', some vs) => some (s', z.2 ++ vs.map fun v => (l.n, v))
    | (_, none) => none) (some (s, []))
theorem preX_snoc {A : Type} {step : A → Lis → A × Option (List V)} {s0 s s' : A} {hs : List Lis} {i : Nat} {l : Lis} {acc : List (Int × V)} {vs : List V} (h : hs[i]? = some l) (e : preX step s0 (hs.take i) = some (s, acc)) (e2 : step s l = (s', some vs)) : preX step s0 (hs.take (i + 1)) = some (s', acc ++ vs.map fun v => (l.n, v)) := by
  unfold preX at e ⊢
  rw [List.take_add_one, h, List.foldl_append, e]
  show (match step s l with | (s', some vs) => some (s', acc ++ vs.map fun v => (l.n, v)) | (_, none) => none) = _
  rw [e2]
theorem preX_inv {A : Type} {step : A → Lis → A × Option (List V)} {s0 s1 : A} {hs : List Lis} {i : Nat} {l : Lis} {acc : List (Int × V)} (h : hs[i]? = some l) (e : preX step s0 (hs.take (i + 1)) = some (s1, acc)) : ∃ s2 acc2 vs, preX step s0 (hs.take i) = some (s2, acc2) ∧ step s2 l = (s1, some vs) ∧ acc = acc2 ++ vs.map fun v => (l.n, v) := by
  unfold preX at e ⊢
  rw [List.take_add_one, h, List.foldl_append] at e
  cases q : (hs.take i).foldl (fun q l => q.bind fun z => match step z.1 l with
    | (s', some vs) => some (s', z.2 ++ vs.map fun v => (l.n, v))
    | (_, none) => none) (some (s0, [])) with
  | none => rw [q] at e; cases e
  | some z =>
    rw [q] at e
    obtain ⟨s2, acc2⟩ := z
    have e : (match step s2 l with | (s', some vs) => some (s', acc2 ++ vs.map fun v => (l.n, v)) | (_, none) => none) = some (s1, acc) := e
    cases r : step s2 l with
    | mk s3 o =>
      rw [r] at e
      cases o with
      | none => cases e
      | some vs =>
        cases e
        exact ⟨s2, acc2, vs, rfl, r, rfl⟩
theorem round_absX {A : Type} {H : Hp} {a : Addr} {N : NetS} {line : Str} {th : V} {Q : VK} {E : XK} {k : Nat} (Rep : (Addr → Prop) → A → Hp → Prop) (step : A → Lis → A × Option (List V)) (s0 : A) (XR : A → Value → Option Addr → Hp → Prop) (hN : NetAt K H a N) (hT : Tab K H) (hl : line.length ≤ 1000) (hs : N.sts.length < 1000)
    (h0 : ∀ Z G N1, Kept K a N line th H G N1 → (∀ b, Z b → H b = none ∧ G b ≠ none ∧ ¬ Foot a N1 b) → Rep Z s0 G) (hfr : ∀ Z s H1 H2, Rep Z s H1 → Fwd K Z H1 H2 → Rep Z s H2) (htab : ∀ Z s H1, Rep Z s H1 → Tab K H1) (hnet : ∀ Z s H1, Rep Z s H1 → ∃ dx fs, H1 a = some (.ins (NC K) dx fs) ∧ fs.lookup ("answer" : Str) = none)
    (hstep : ∀ Z i l s acc H1, (hearM N.ls line)[i]? = some l → preX step s0 ((hearM N.ls line).take i) = some (s, acc) → Rep Z s H1 → sp_answer P w K mg base k [.ref a, .ref l.ad, .str line, th] H1
      (fun r H2 => ∃ (D : Addr) (s' : A) (vs : List V) (l2 : Lis), r = .ref D ∧ step s l = (s', some vs) ∧ H2 D = some (.lst vs) ∧ vs.length ≤ 1 ∧ ¬ Z D ∧ (∀ b o, Z b → H1 b = some o → H2 b = some o) ∧ (∀ t ys, H1 t = some (.tup ys) → H2 t = some (.tup ys)) ∧ l2.ad = l.ad ∧ l2.n = l.n ∧ LisAt K H2 l2 ∧ Rep Z s' H2)
      (fun c d H2 => ∃ s', step s l = (s', none) ∧ XR s' c d H2))
    (qE : ∀ i l s acc s' c d H2, (hearM N.ls line)[i]? = some l → preX step s0 ((hearM N.ls line).take i) = some (s, acc) → step s l = (s', none) → XR s' c d H2 → E c d H2)
    (q : ∀ Z s acc H' D ts, preX step s0 (hearM N.ls line) = some (s, acc) → Rep Z s H' → Z D → H' D = some (.lst (ts.map V.ref)) → TupsAt H' ts (acc.map pairV) → Q (.ref D) H') :
    sp_tell_round P w K mg base k [.ref a, .str line, th] H Q E := by
  refine ⟨a, N, line, th, rfl, hN, hT, hl, hs, fun Z hZ => ?_⟩
  refine ⟨fun i acc H1 => ∃ s, preX step s0 ((hearM N.ls line).take i) = some (s, acc) ∧ Rep Z s H1, ⟨fun i acc H1 H2 ⟨s, e, r⟩ w2 => ⟨s, e, hfr Z s H1 H2 r w2⟩, fun i acc H1 ⟨s, e, r⟩ => htab _ _ _ r, fun i acc H1 ⟨s, e, r⟩ => hnet _ _ _ r, fun i l acc H1 hi ⟨s, e, r⟩ => ?_⟩, fun G N1 kp z1 => ⟨s0, rfl, h0 Z G N1 kp fun b z => ⟨hZ b z, z1 b z⟩⟩, fun acc H1 ts D ⟨s, e, r⟩ z1 z2 z3 => ?_⟩
  · refine answer_mono (hstep Z i l s acc H1 hi e r) (fun v H2 hv => ?_) (fun c d H2 ⟨s', e2, hx⟩ => qE i l s acc s' c d H2 hi e e2 hx)
    obtain ⟨D, s', vs, l2, x1, x2, x3, x4, x5, x6, x7, x8, x9, x10, x11⟩ := hv
    exact ⟨D, vs, l2, x1, x3, x4, x5, x6, x7, x8, x9, x10, s', preX_snoc hi e x2, x11⟩
  · rw [List.take_length] at e
    exact q Z s acc H1 D ts e r z1 z2 z3
/-! ### a listener's turn, at the net -/
/-- a listener that is called once leaves -/
def onceN (N : NetS) (i : Nat) (x : Lis) : NetS := if x.once = true then { N with ls := N.ls.set i { x with gone := true } } else N
theorem answer_net0 {H : Hp} {a : Addr} {N : NetS} {x : Lis} {i : Nat} {line : Str} {th : V} {Q : VK} {E : XK} {k : Nat} (hN : NetAt K H a N) (hT : Tab K H) (hx : N.ls[i]? = some x) (hg : x.gate = .non)
    (q0 : (x.gone || x.muted) = true → ∀ D, H D = none → Q (.ref D) (upd H D (.lst [])))
    (q1 : (x.gone || x.muted) = false → ∀ H1, Fwd K (fun b => b = x.ad) H H1 → NetAt K H1 a (onceN N i x) → ∃ f sp, x.wk = .ref f ∧ Act P w K mg base (k + 3) f sp ∧ Runs sp [.str line, th] H1 (fun v H2 => ∀ D, H2 D = none → Q (.ref D) (upd H2 D (.lst [v]))) (faultV K a x.ad line Q E)) :
    sp_answer P w K mg base k [.ref a, .ref x.ad, .str line, th] H Q E := by
  have hla : LisAt K H x := (hN.li x (List.mem_of_getElem? hx)).1
  refine ⟨a, x, line, th, rfl, hla, ⟨_, _, hN.net, rfl⟩, a, x, line, th, rfl, hla, fun e => .inl ⟨rfl, q0 e⟩, fun e _ => ?_, fun _ z => absurd hg z⟩
  unfold dueFin
  by_cases ho : x.once = true
  · rw [if_pos ho]
    obtain ⟨w1, N1⟩ := hN.setL hT hx (l' := { x with gone := true }) rfl rfl
    have eo : onceN N i x = { N with ls := N.ls.set i { x with gone := true } } := by unfold onceN; rw [if_pos ho]
    obtain ⟨f, sp, ef, ac, r⟩ := q1 e _ w1 (by rw [eo]; exact N1)
    exact .inr ⟨rfl, { x with gone := true }, f, sp, rfl, upd_same, ef, ac, r⟩
  · rw [if_neg ho]
    have eo : onceN N i x = N := by unfold onceN; rw [if_neg ho]
    obtain ⟨f, sp, ef, ac, r⟩ := q1 e H (Fw.refl hT) (by rw [eo]; exact hN)
    exact .inr ⟨rfl, x, f, sp, rfl, hla, ef, ac, r⟩
theorem fault_net {H : Hp} {a : Addr} {N : NetS} {x : Lis} {i : Nat} {la : Addr} {line : Str} {Q : VK} {E : XK} {c : Value} {d : Option Addr} (hN : NetAt K H a N) (hT : Tab K H) (hx : N.ls[i]? = some x) (ha : x.ad = la) (hc : Ex K c) (stop : N.pol = "stop" → E c d H)
    (go : N.pol ≠ "stop" → N.fls.length ≤ 10000 ∧ ∀ H3 t, Fwd K (fun b => b = N.fl) H H3 → H t = none → H3 t = some (.tup [.int x.n, .str line]) → NetAt K H3 a { N with fls := N.fls ++ [.ref t] } → ∀ D, H D = none → H3 D = none → Q (.ref D) (upd H3 D (.lst []))) : faultV K a la line Q E c d H := by
  refine ⟨hc, N, hN.net, stop, fun e => ?_⟩
  obtain ⟨hl, g⟩ := go e
  refine ⟨x, N.fls, ha, (hN.li x (List.mem_of_getElem? hx)).1, hN.fl, by omega, fun t D nt nD ne => ?_⟩
  obtain ⟨s1, ht1⟩ := newF (H := H) (o := .tup [V.int x.n, V.str line]) rfl nt
  generalize hH1 : upd H t (.tup [V.int x.n, V.str line]) = H1 at s1 ht1
  have N1 := hN.same s1
  have ntf : t ≠ N.fl := fun z => by rw [z, N1.fl] at ht1; cases ht1
  have nDf : D ≠ N.fl := (ne_of_none hN.fl nD).symm
  have nD1 : H1 D = none := by rw [← hH1, upd_ne ne.symm]; exact nD
  refine g _ t ((Fw.of_same s1 hT).put N1.fl (fun _ z => by cases z) (fun z => z) (.inl rfl)) nt (by rw [upd_ne ntf]; exact ht1) ?_ D nD (by rw [upd_ne nDf]; exact nD1)
  exact N1.re (N' := { N with fls := N.fls ++ [.ref t] }) (fun b o hb _ _ _ n _ _ => by rw [upd_ne n]; exact hb) (by rw [upd_ne (fun z => by have := N1.net; rw [z, N1.fl] at this; cases this)]; exact N1.net) (by rw [upd_ne N1.kf]; exact N1.kn) (by rw [upd_ne N1.wf]; exact N1.wt) upd_same N1.kw N1.kf N1.wf rfl rfl rfl rfl (fun _ _ z => z)
/-! ### the order where all ranks are 0 -/
theorem order_flat {ls : List Lis} (h : ∀ (i : Nat) x, ls[i]? = some x → x.n = i ∧ x.r = 0) : orderM ls = ls.filter fun x => !x.gone := by
  unfold orderM
  refine List.mergeSort_of_pairwise ?_
  have hp : ls.Pairwise fun x y => leL x y = true := by
    rw [List.pairwise_iff_getElem]
    intro i j hi hj hij
    obtain ⟨h1, h2⟩ := h i _ (List.getElem?_eq_getElem hi)
    obtain ⟨h3, h4⟩ := h j _ (List.getElem?_eq_getElem hj)
    unfold leL
    rw [h1, h2, h3, h4]
    simp
    omega
  exact hp.sublist List.filter_sublist
theorem hear_flat {ls : List Lis} {line : Str} (h : ∀ (i : Nat) x, ls[i]? = some x → x.n = i ∧ x.r = 0 ∧ doesFit x.p line = true) : hearM ls line = ls.filter fun x => !x.gone := by
  unfold hearM
  rw [order_flat fun i x e => ⟨(h i x e).1, (h i x e).2.1⟩]
  refine List.filter_eq_self.mpr fun x hx => ?_
  obtain ⟨i, hi⟩ := List.mem_iff_getElem?.mp (List.mem_filter.mp hx).1
  exact (h i x hi).2.2
end
end Hk

set_option Elab.async false
set_option linter.all false
set_option maxRecDepth 100000
set_option maxHeartbeats 4000000
namespace Hk
open PySem PySem.Spec PyProof.Rows L2
open LamX NdefX
open TL
section
variable {P : Program} {w : World} {K : PySem.W.Frag} {mg : Str → Option Value} {base : Heap}
/-- lists of one number each -/
def Ones (H : Hp) (zs : List (Addr × Int)) : Prop := ∀ z ∈ zs, H z.1 = some (.lst [.int z.2])
def l4 : List Str := ["a", "a.b", "b", "ab"]
def Mut8 (h l : Addr) (pA : Nat → Addr) (b : Addr) : Prop := b = h ∨ b = l ∨ ∃ i < 4, b = pA i
def kv8 (pA : Nat → Addr) : List (Key × V) := [(.inr "a", .ref (pA 0)), (.inr "a.b", .ref (pA 1)), (.inr "b", .ref (pA 2)), (.inr "ab", .ref (pA 3))]
def zV (zs : List (Addr × Int)) : List V := zs.map fun z => V.ref z.1
structure S8 (K : PySem.W.Frag) (H : Hp) (h l a : Addr) (N : NetS) (lv sd : Addr) (pA : Nat → Addr) (zl zn : Nat → List (Addr × Int)) : Prop where
  src : SrcOk H h l
  tab : Tab K H
  net : NetAt K H a N
  hlv : H lv = some (.lst (l4.map V.str))
  hsd : H sd = some (.dK (kv8 pA))
  nsd : sd ≠ N.st
  hp : ∀ i < 4, H (pA i) = some (.lst (zV (zl i)))
  hl : ∀ i < 4, Ones H (zl i)
  hn : ∀ i < 4, Ones H (zn i)
  hg : ∀ i < 4, getS N.sts (l4.getD i "") = zV (zn i)
  inj : ∀ i < 4, ∀ j < 4, pA i = pA j → i = j
  nhl : ∀ i < 4, pA i ≠ h ∧ pA i ≠ l
  foot : ∀ b, Mut8 h l pA b → ¬ Foot a N b
  nlv : ¬ Mut8 h l pA lv
  nzl : ∀ i < 4, ∀ z ∈ zl i, ¬ Mut8 h l pA z.1
  nzn : ∀ i < 4, ∀ z ∈ zn i, ¬ Mut8 h l pA z.1
  idle : N.depth = 0 ∧ N.locks = 0 ∧ N.wts = [] ∧ N.ls = []
  keys : ∀ x ∈ N.sts, x.1 ∈ l4
  ndk : (N.sts.map (·.1)).Nodup
section
variable {H H' : Hp} {h l a lv sd : Addr} {N : NetS} {pA : Nat → Addr} {zl zn : Nat → List (Addr × Int)}
theorem S8.mlst (s : S8 K H h l a N lv sd pA zl zn) {b : Addr} (m : Mut8 h l pA b) : ∃ xs, H b = some (.lst xs) := by
  obtain ⟨m', p, cs, e1, e2, _⟩ := s.src
  rcases m with rfl | rfl | ⟨i, hi, rfl⟩
  · exact ⟨_, e1⟩
  · exact ⟨_, e2⟩
  · exact ⟨_, s.hp i hi⟩
theorem S8.nmut (s : S8 K H h l a N lv sd pA zl zn) {p : Addr} (n : H p = none) : ¬ Mut8 h l pA p := fun z => by
  obtain ⟨xs, e⟩ := s.mlst z
  rw [n] at e; cases e
/-- nothing of it is changed -/
theorem S8.fw {S : Addr → Prop} (s : S8 K H h l a N lv sd pA zl zn) (w : Fwd K S H H') (hS : ∀ b xs, H b = some (.lst xs) → ¬ S b) (hs : ¬ S sd) {N' : NetS} {zn' : Nat → List (Addr × Int)} (net : NetAt K H' a N') (nsd : sd ≠ N'.st) (hn : ∀ i < 4, Ones H' (zn' i)) (hg : ∀ i < 4, getS N'.sts (l4.getD i "") = zV (zn' i)) (foot : ∀ b, Mut8 h l pA b → ¬ Foot a N' b) (nzn : ∀ i < 4, ∀ z ∈ zn' i, ¬ Mut8 h l pA z.1) (idle : N'.depth = 0 ∧ N'.locks = 0 ∧ N'.wts = [] ∧ N'.ls = []) (keys : ∀ x ∈ N'.sts, x.1 ∈ l4) (ndk : (N'.sts.map (·.1)).Nodup) : S8 K H' h l a N' lv sd pA zl zn' := by
  have k : ∀ {b xs}, H b = some (.lst xs) → H' b = some (.lst xs) := fun {b xs} e => w.lst s.tab e (hS b xs e)
  obtain ⟨m, p, cs, e1, e2, r⟩ := s.src
  exact ⟨⟨m, p, cs, k e1, k e2, r⟩, w.tab, net, k s.hlv, w.at_ s.tab s.hsd (fun _ z => by cases z) hs, nsd, fun i hi => k (s.hp i hi), fun i hi z hz => k (s.hl i hi z hz), hn, hg, s.inj, s.nhl, foot, s.nlv, s.nzl, nzn, idle, keys, ndk⟩
theorem S8.fno (s : S8 K H h l a N lv sd pA zl zn) (w : Fwd K No H H') : S8 K H' h l a N lv sd pA zl zn :=
  s.fw w (fun _ _ _ z => z) (fun z => z) (s.net.fw w s.tab fun _ _ z => z) s.nsd (fun i hi z hz => w.lst s.tab (s.hn i hi z hz) (fun z => z)) s.hg s.foot s.nzn s.idle s.keys s.ndk
theorem S8.same (s : S8 K H h l a N lv sd pA zl zn) (e : Same H H') : S8 K H' h l a N lv sd pA zl zn := s.fno (.of_same e s.tab)
theorem drawF8 {H H' : Hp} {h l : Addr} (S : SrcOk H h l) (S' : SrcOk H' h l) (x : Ext (DrS h l) H H') (t : Tab K H) : Fwd K (DrS h l) H H' := by
  obtain ⟨m, p, cs, e1, e2, _⟩ := id S
  obtain ⟨m', p', cs', e1', e2', _⟩ := id S'
  have nS : ∀ {b o}, H b = some o → (∀ xs, o ≠ .lst xs) → ¬ DrS h l b := fun {b o} hb n z => by
    rcases z with z | z
    · rw [z, e1] at hb; exact n _ (Option.some.inj hb).symm
    · rw [z, e2] at hb; exact n _ (Option.some.inj hb).symm
  refine ⟨fun b o hb z => x b o (z.elim (fun i => nS hb (fun xs e => by rw [e] at i; exact i)) fun n => n.1) hb, fun b hb => ?_, t.ext2 (fun b ps hb => x _ _ (nS hb (fun _ z => by cases z)) hb) (fun c q hc => x _ _ (nS hc (fun xs e => by have := imm_code (f := c) (q := q); rw [e] at this; exact this)) hc)⟩
  by_cases z : DrS h l b
  · rcases z with z | z
    · rw [z, e1'] at hb; cases hb
    · rw [z, e2'] at hb; cases hb
  · exact x.free z hb
theorem S8.draw (s : S8 K H h l a N lv sd pA zl zn) (x : Ext (DrS h l) H H') (S' : SrcOk H' h l) : S8 K H' h l a N lv sd pA zl zn := by
  have w := drawF8 s.src S' x s.tab
  have nm : ∀ {b}, ¬ Mut8 h l pA b → ¬ DrS h l b := fun {b} n z => n (z.elim .inl fun z => .inr (.inl z))
  refine ⟨S', w.tab, s.net.fw w s.tab (fun b hb z => s.foot b (z.elim .inl fun z => .inr (.inl z)) hb), w.lst s.tab s.hlv (nm s.nlv), w.at_ s.tab s.hsd (fun _ z => by cases z) (fun z => ?_), s.nsd, fun i hi => w.lst s.tab (s.hp i hi) (fun z => z.elim (s.nhl i hi).1 (s.nhl i hi).2), fun i hi z hz => w.lst s.tab (s.hl i hi z hz) (nm (s.nzl i hi z hz)), fun i hi z hz => w.lst s.tab (s.hn i hi z hz) (nm (s.nzn i hi z hz)), s.hg, s.inj, s.nhl, s.foot, s.nlv, s.nzl, s.nzn, s.idle, s.keys, s.ndk⟩
  obtain ⟨m, p, cs, e1, e2, _⟩ := s.src
  rcases z with z | z
  · have := s.hsd; rw [z, e1] at this; cases this
  · have := s.hsd; rw [z, e2] at this; cases this
def set8 (f : Nat → List (Addr × Int)) (i : Nat) (xs : List (Addr × Int)) : Nat → List (Addr × Int) := fun j => if j = i then xs else f j
/-- the law's own list of a line grows -/
theorem S8.app (s : S8 K H h l a N lv sd pA zl zn) {i : Nat} (hi : i < 4) {u : Addr} {t : Int} (hu : H u = some (.lst [.int t])) (nu : ¬ Mut8 h l pA u) : S8 K (upd H (pA i) (.lst (zV (zl i) ++ [.ref u]))) h l a N lv sd pA (set8 zl i (zl i ++ [(u, t)])) zn := by
  have w : Fwd K (fun b => b = pA i) H (upd H (pA i) (.lst (zV (zl i) ++ [.ref u]))) := (Fw.refl s.tab).put (s.hp i hi) (fun _ z => by cases z) (fun z => z) (.inl rfl)
  have mi : Mut8 h l pA (pA i) := .inr (.inr ⟨i, hi, rfl⟩)
  have nm : ∀ {b}, ¬ Mut8 h l pA b → ¬ b = pA i := fun {b} n z => n (z ▸ mi)
  obtain ⟨m, p, cs, e1, e2, r⟩ := s.src
  refine ⟨⟨m, p, cs, w.lst s.tab e1 (s.nhl i hi).1.symm, w.lst s.tab e2 (s.nhl i hi).2.symm, r⟩, w.tab, s.net.fw w s.tab (fun b hb z => s.foot b (z ▸ mi) hb), w.lst s.tab s.hlv (nm s.nlv), w.at_ s.tab s.hsd (fun _ z => by cases z) (fun z => ?_), s.nsd, fun j hj => ?_, fun j hj z hz => ?_, fun j hj z hz => w.lst s.tab (s.hn j hj z hz) (nm (s.nzn j hj z hz)), s.hg, s.inj, s.nhl, s.foot, s.nlv, fun j hj z hz => ?_, s.nzn, s.idle, s.keys, s.ndk⟩
  · have := s.hsd; rw [z, s.hp i hi] at this; cases this
  · unfold set8
    by_cases e : j = i
    · rw [e, if_pos rfl, upd_same]
      unfold zV
      rw [List.map_append]; rfl
    · rw [if_neg e, upd_ne (fun z => e (s.inj j hj i hi z))]
      exact s.hp j hj
  · unfold set8 at hz
    by_cases e : j = i
    · rw [if_pos e] at hz
      rcases List.mem_append.mp hz with hz | hz
      · exact w.lst s.tab (s.hl i hi z hz) (nm (s.nzl i hi z hz))
      · rw [List.mem_singleton.mp hz]
        exact w.lst s.tab hu (nm nu)
    · rw [if_neg e] at hz
      exact w.lst s.tab (s.hl j hj z hz) (nm (s.nzl j hj z hz))
  · unfold set8 at hz
    by_cases e : j = i
    · rw [if_pos e] at hz
      rcases List.mem_append.mp hz with hz | hz
      · exact s.nzl i hi z hz
      · rw [List.mem_singleton.mp hz]
        exact nu
    · rw [if_neg e] at hz
      exact s.nzl j hj z hz
end
end
end Hk

set_option Elab.async false
set_option linter.all false
set_option maxRecDepth 100000
set_option maxHeartbeats 4000000
namespace Hk
open PySem PySem.Spec PyProof.Rows L2
open LamX NdefX
open TL
section
variable {P : Program} {w : World} {K : PySem.W.Frag} {mg : Str → Option Value} {base : Heap}
theorem getS_hit (q : List (Str × Addr × List V)) (z : Str) (p : Addr) (xs : List V) : getS (putS q z p xs) z = xs := by
  unfold putS
  split
  · next h =>
    unfold getS
    rw [List.find?_map]
    have e : ((fun x : Str × Addr × List V => decide (x.1 = z)) ∘ fun x => if x.1 = z then (x.1, p, xs) else x) = fun x => decide (x.1 = z) := funext fun x => by
      by_cases hx : x.1 = z <;> simp [hx]
    rw [e]
    obtain ⟨y, hy, hz⟩ := List.any_eq_true.mp h
    cases e2 : q.find? fun x => decide (x.1 = z) with
    | none => exact absurd hz (by have := List.find?_eq_none.mp e2 y hy; simpa using this)
    | some x =>
      have := List.find?_some e2
      have hx : x.1 = z := by simpa using this
      simp [hx]
  · next h =>
    unfold getS
    rw [List.find?_append]
    have : q.find? (fun x => decide (x.1 = z)) = none := List.find?_eq_none.mpr fun x hx hz => h (List.any_eq_true.mpr ⟨x, hx, hz⟩)
    rw [this]
    simp
theorem getS_miss (q : List (Str × Addr × List V)) (z y : Str) (p : Addr) (xs : List V) (n : y ≠ z) : getS (putS q z p xs) y = getS q y := by
  unfold putS
  split
  · unfold getS
    rw [List.find?_map]
    have e : ((fun x : Str × Addr × List V => decide (x.1 = y)) ∘ fun x => if x.1 = z then (x.1, p, xs) else x) = fun x => decide (x.1 = y) := funext fun x => by
      by_cases hx : x.1 = z <;> simp [hx]
    rw [e]
    cases e2 : q.find? fun x => decide (x.1 = y) with
    | none => rfl
    | some x =>
      have := List.find?_some e2
      have hx : x.1 = y := by simpa using this
      have hz : x.1 ≠ z := fun e => n (hx.symm.trans e)
      simp [hz]
  · unfold getS
    rw [List.find?_append]
    have : ([(z, p, xs)] : List (Str × Addr × List V)).find? (fun x => decide (x.1 = y)) = none := by simp [n.symm]
    rw [this, Option.or_none]
theorem putS_keys (q : List (Str × Addr × List V)) (z : Str) (p : Addr) (xs : List V) (h : (q.map (·.1)).Nodup) : ((putS q z p xs).map (·.1)).Nodup := by
  unfold putS
  split
  · rw [List.map_map]
    have e : ((fun x : Str × Addr × List V => x.1) ∘ fun x => if x.1 = z then (x.1, p, xs) else x) = fun x => x.1 := funext fun x => by
      by_cases hx : x.1 = z <;> simp [hx]
    rw [e]; exact h
  · next hn =>
    rw [List.map_append, List.nodup_append]
    refine ⟨h, by simp, fun x hx y hy => ?_⟩
    obtain ⟨q, hq, rfl⟩ := List.mem_map.mp hx
    simp only [List.map_cons, List.map_nil, List.mem_singleton] at hy
    rw [hy]
    exact fun e => hn (List.any_eq_true.mpr ⟨q, hq, by simpa using e⟩)
theorem nodup_len {α : Type} [DecidableEq α] : ∀ (xs ys : List α), xs.Nodup → (∀ x ∈ xs, x ∈ ys) → xs.length ≤ ys.length
  | [], ys, _, _ => Nat.zero_le _
  | x :: xs, ys, hn, hs => by
    obtain ⟨h1, h2⟩ := List.nodup_cons.mp hn
    have := nodup_len xs (ys.erase x) h2 (fun z hz => (List.mem_erase_of_ne (fun e : z = x => h1 (by rw [← e]; exact hz))).mpr (hs z (List.mem_cons_of_mem _ hz)))
    have hx := hs x (List.mem_cons_self ..)
    rw [List.length_erase_of_mem hx] at this
    have hp : 0 < ys.length := List.length_pos_of_mem hx
    rw [List.length_cons]; omega
def last8 (m : Nat) {α : Type} (xs : List α) : List α := xs.drop (xs.length - m)
theorem last8_app {α : Type} (m : Nat) (hm : 0 < m) (xs : List α) (x : α) : last8 m (last8 m xs ++ [x]) = last8 m (xs ++ [x]) := by
  unfold last8
  simp only [List.length_append, List.length_drop, List.length_singleton]
  by_cases h : xs.length < m
  · have e : xs.length - m = 0 := by omega
    simp [e]
  · have e1 : xs.length - (xs.length - m) + 1 - m = 1 := by omega
    have e2 : xs.length + 1 - m = (xs.length - m) + 1 := by omega
    rw [e1, e2, ← List.drop_drop, List.drop_append_of_le_length (l₁ := xs) (by omega)]
theorem l4_nd {i j : Nat} (hi : i < 4) (hj : j < 4) (n : i ≠ j) : l4.getD i "" ≠ l4.getD j "" := by
  have : i = 0 ∨ i = 1 ∨ i = 2 ∨ i = 3 := by omega
  have : j = 0 ∨ j = 1 ∨ j = 2 ∨ j = 3 := by omega
  rcases ‹i = 0 ∨ _› with rfl | rfl | rfl | rfl <;> rcases ‹j = 0 ∨ _› with rfl | rfl | rfl | rfl <;> first | exact absurd rfl n | decide +kernel
theorem l4_ok {i : Nat} (hi : i < 4) : isLine (l4.getD i "") = true ∧ (l4.getD i "").length ≤ 1000 ∧ l4.getD i "" ∈ l4 := by
  have : i = 0 ∨ i = 1 ∨ i = 2 ∨ i = 3 := by omega
  rcases this with rfl | rfl | rfl | rfl <;> exact ⟨by decide +kernel, by decide +kernel, by decide +kernel⟩
section
variable {H H' : Hp} {h l a lv sd : Addr} {N : NetS} {pA : Nat → Addr} {zl zn : Nat → List (Addr × Int)}
theorem S8.few (s : S8 K H h l a N lv sd pA zl zn) : N.sts.length ≤ 4 := by
  have := nodup_len _ l4 s.ndk (fun x hx => by
    obtain ⟨y, hy, rfl⟩ := List.mem_map.mp hx
    exact s.keys y hy)
  rw [List.length_map] at this
  exact this
/-- what the net keeps of a line, one more told -/
def told8 (m : Int) (zs : List (Addr × Int)) (z : Addr × Int) : List (Addr × Int) := if 0 < m then last8 m.toNat (zs ++ [z]) else zs
theorem tell8 (s : S8 K H h l a N lv sd pA zl zn) {i : Nat} (hi : i < 4) {u : Addr} {t : Int} (hu : H u = some (.lst [.int t])) (nu : ¬ Mut8 h l pA u) {Q : VK} {E : XK}
    (q : ∀ v H' N', S8 K H' h l a N' lv sd pA zl (set8 zn i (told8 N.most (zn i) (u, t))) → N'.most = N.most → (∀ b xs, H b = some (.lst xs) → H' b = some (.lst xs)) → Q v H') : sp_tell P w K mg base 20 [.ref a, .str (l4.getD i ""), .ref u, .str ("deep" : Str)] H Q E := by
  obtain ⟨ok1, ok2, ok3⟩ := l4_ok hi
  obtain ⟨i1, i2, i3, i4⟩ := s.idle
  have hst := s.few
  refine tell_now s.net s.tab ok1 ok2 (by simp) i1 i2 (fun H1 w1 N1 => ?_)
  have eh : hearM N.ls (l4.getD i "") = [] := List.eq_nil_of_length_eq_zero (Nat.le_zero.mp (Nat.le_trans (List.length_filter_le _ _) (Nat.le_trans order_len (by rw [i4]; exact Nat.le_refl _))))
  refine ⟨a, _, _, _, rfl, N1, w1.tab, ok2, by show N.sts.length < 1000; omega, fun Z hZ => ⟨fun j acc H' => acc = [] ∧ ∃ H2 N2, Kept K a { N with depth := N.depth + 1 } (l4.getD i "") (.ref u) H1 H2 N2 ∧ NetAt K H' a N2 ∧ Fwd K (fun b => b = N.st) H1 H' ∧ ∀ b, Z b → ¬ Foot a N2 b, ⟨?_, ?_, ?_, ?_⟩, ?_, ?_⟩⟩
  · intro j acc Ha Hb ⟨e, H2, N2, kp, n2, w2, hz⟩ wz
    exact ⟨e, H2, N2, kp, n2.fw wz w2.tab (fun b hb z => hz b z hb), w2.after wz (fun b z => .inl (hZ b z)), hz⟩
  · intro j acc Ha ⟨e, H2, N2, kp, n2, w2, hz⟩
    exact w2.tab
  · intro j acc Ha ⟨e, H2, N2, kp, n2, w2, hz⟩
    exact ⟨_, _, n2.net, rfl⟩
  · intro j x acc Ha hj
    rw [show hearM ({ N with depth := N.depth + 1 } : NetS).ls (l4.getD i "") = [] from eh] at hj
    cases hj
  · intro H2 N2 kp hz
    exact ⟨rfl, H2, N2, kp, kp.net, kp.fw.mono fun b z => z.1, fun b z => (hz b z).2⟩
  · intro acc Ha ts D ⟨e, H2, N2, kp, n2, w2, hz⟩ hZD hD hts
    refine ⟨w2.tab, N2, n2, fun H3 w3 N3 => ?_⟩
    have ex : N2.depth = 1 ∧ N2.locks = 0 ∧ N2.wts = [] ∧ N2.ls = [] ∧ N2.st = N.st ∧ N2.most = N.most ∧ (∀ x ∈ N2.sts, x.1 ∈ l4) ∧ (N2.sts.map (·.1)).Nodup ∧ (∀ b, Foot a N2 b → Foot a N b ∨ H1 b = none) ∧ (∀ j < 4, getS N2.sts (l4.getD j "") = zV (set8 zn i (told8 N.most (zn i) (u, t)) j)) := by
      by_cases hm : 0 < N.most
      · obtain ⟨p, np, rfl⟩ := kp.yes hm
        refine ⟨by show N.depth + 1 = 1; omega, i2, i3, i4, rfl, rfl, fun x hx => ?_, putS_keys _ _ _ _ s.ndk, fun b hb => ?_, fun j hj => ?_⟩
        · rcases putS_mem hx with hx | rfl
          · exact s.keys x hx
          · exact ok3
        · unfold Foot at hb ⊢
          rcases hb with z | z | z | z | z | z | z
          · exact .inl (.inl z)
          · exact .inl (.inr (.inl z))
          · exact .inl (.inr (.inr (.inl z)))
          · exact .inl (.inr (.inr (.inr (.inl z))))
          · exact .inl (.inr (.inr (.inr (.inr (.inl z)))))
          · exact .inl (.inr (.inr (.inr (.inr (.inr (.inl z))))))
          · obtain ⟨x, hx, rfl⟩ := List.mem_map.mp z
            rcases putS_mem hx with hx | rfl
            · exact .inl (.inr (.inr (.inr (.inr (.inr (.inr (List.mem_map_of_mem (f := (·.2.1)) hx)))))))
            · exact .inr np
        · show getS (putS N.sts _ _ _) _ = _
          unfold set8
          by_cases e : j = i
          · rw [e, getS_hit, if_pos rfl, cut_end _ hm, show getS ({ N with depth := N.depth + 1 } : NetS).sts (l4.getD i "") = zV (zn i) from s.hg i hi]
            unfold told8 last8 zV
            rw [if_pos hm, List.map_drop, List.map_append]
            simp
          · rw [getS_miss _ _ _ _ _ (l4_nd hj hi e), if_neg e]
            exact s.hg j hj
      · have e2 := kp.no (Int.not_lt.mp hm)
        subst e2
        refine ⟨by show N.depth + 1 = 1; omega, i2, i3, i4, rfl, rfl, s.keys, s.ndk, fun b hb => .inl hb, fun j hj => ?_⟩
        unfold set8 told8
        rw [if_neg hm]
        by_cases e : j = i
        · rw [if_pos e, ← e]; exact s.hg j hj
        · rw [if_neg e]; exact s.hg j hj
    obtain ⟨x1, x2, x3, x4, x5, x6, x7, x8, x9, x10⟩ := ex
    refine clear_idle N3 w3.tab (ds := []) (by show DpAll K H3 N2.wts []; rw [x3]; exact .nil) rfl (.inl x3) (fun H4 s4 => ?_)
    have wA : Fwd K (fun b => b = a ∨ b = N.st) H H4 := ((w1.mono fun b z => .inl z).trans ((w2.mono fun b z => .inr z).trans (w3.mono fun b z => .inl z))).same s4
    have nl : ∀ b xs, H b = some (.lst xs) → ¬ (b = a ∨ b = N.st) := fun b xs hb z => by
      rcases z with z | z
      · rw [z, s.net.net] at hb; cases hb
      · rw [z, s.net.st] at hb; cases hb
    have nm : ∀ j < 4, ∀ z ∈ set8 zn i (told8 N.most (zn i) (u, t)) j, z = (u, t) ∨ ∃ j' < 4, z ∈ zn j' := fun j hj z hz => by
      unfold set8 at hz
      by_cases e : j = i
      · rw [if_pos e] at hz
        unfold told8 at hz
        by_cases hm : 0 < N.most
        · rw [if_pos hm] at hz
          rcases List.mem_append.mp (List.mem_of_mem_drop hz) with hz | hz
          · exact .inr ⟨i, hi, hz⟩
          · exact .inl (List.mem_singleton.mp hz)
        · rw [if_neg hm] at hz
          exact .inr ⟨i, hi, hz⟩
      · rw [if_neg e] at hz
        exact .inr ⟨j, hj, hz⟩
    refine q _ H4 { N2 with depth := N2.depth - 1 } (s.fw wA nl (fun z => ?_) (N3.same s4) (by show sd ≠ N2.st; rw [x5]; exact s.nsd) (fun j hj z hz => ?_) x10 (fun b hb hf => ?_) (fun j hj z hz => ?_) ⟨by show N2.depth - 1 = 0; omega, x2, x3, x4⟩ x7 x8) x6 (fun b xs hb => wA.lst s.tab hb (nl b xs hb))
    · rcases z with z | z
      · have := s.hsd; rw [z, s.net.net] at this; cases this
      · exact s.nsd z
    · rcases nm j hj z hz with rfl | ⟨j', hj', hz⟩
      · exact wA.lst s.tab hu (nl _ _ hu)
      · exact wA.lst s.tab (s.hn j' hj' z hz) (nl _ _ (s.hn j' hj' z hz))
    · rcases x9 b hf with hf | hf
      · exact s.foot b hb hf
      · obtain ⟨xs, e⟩ := s.mlst hb
        rw [w1.dom b hf] at e; cases e
    · rcases nm j hj z hz with rfl | ⟨j', hj', hz⟩
      · exact nu
      · exact s.nzn j' hj' z hz
end
end
end Hk

set_option Elab.async false
set_option linter.all false
set_option maxRecDepth 100000
set_option maxHeartbeats 4000000
namespace Hk
open PySem PySem.Spec PyProof.Rows L2
open LamX NdefX
open TL
section
variable {P : Program} {w : World} {K : PySem.W.Frag} {mg : Str → Option Value} {base : Heap}
/-! ### the lines, sorted -/
def ord4 : List Nat := [0, 1, 3, 2]
def s4 : List Str := ["a", "a.b", "ab", "b"]
def allL : Nat → List (List Str)
  | 0 => [[]]
  | n + 1 => [] :: s4.flatMap fun x => (allL n).map (x :: ·)
theorem allL_mem : ∀ (n : Nat) (ys : List Str), ys.length ≤ n → (∀ y ∈ ys, y ∈ s4) → ys ∈ allL n
  | 0, [], _, _ => List.mem_singleton.mpr rfl
  | _ + 1, [], _, _ => List.mem_cons_self ..
  | n + 1, y :: ys, h, hs => List.mem_cons_of_mem _ (List.mem_flatMap.mpr ⟨y, hs y (List.mem_cons_self ..), List.mem_map.mpr ⟨ys, allL_mem n ys (Nat.le_of_succ_le_succ h) (fun z hz => hs z (List.mem_cons_of_mem _ hz)), rfl⟩⟩)
theorem allL_ok : (allL 4).all (fun ys => !(decide ys.Nodup && sortedS ys) || decide (ys = s4.filter fun y => decide (y ∈ ys))) = true := by decide +kernel
theorem sort4 {ys : List Str} (hn : ys.Nodup) (hs : sortedS ys = true) (hm : ∀ y ∈ ys, y ∈ s4) : ys = s4.filter fun y => decide (y ∈ ys) := by
  have hl : ys.length ≤ 4 := nodup_len ys s4 hn hm
  have := List.all_eq_true.mp allL_ok ys (allL_mem 4 ys hl hm)
  simpa [hn, hs] using this
theorem sort_l4 {ys : List Str} (hp : ys.Perm l4) (hs : sortedS ys = true) : ys = s4 := by
  have hm : ∀ y, y ∈ ys ↔ y ∈ s4 := fun y => by
    rw [hp.mem_iff]
    simp only [l4, s4, List.mem_cons, List.not_mem_nil, or_false]
    constructor <;> (rintro (z | z | z | z) <;> simp [z])
  have hn : ys.Nodup := hp.nodup_iff.mpr (by decide +kernel)
  rw [sort4 hn hs fun y hy => (hm y).mp hy]
  exact List.filter_eq_self.mpr fun y hy => by simpa using (hm y).mpr hy
/-- the rows that a new listener hears -/
def R8 (p : Str) (z : Nat → List (Addr × Int)) : List (Str × (Addr × Int)) := ord4.flatMap fun i => if doesFit p (l4.getD i "") = true then (z i).map fun y => (l4.getD i "", y) else []
def rV8 (x : Str × (Addr × Int)) : Str × V := (x.1, .ref x.2.1)
theorem flat_filter {α β : Type} (xs : List α) (c : α → Bool) (F : α → List β) (h : ∀ x ∈ xs, c x = false → F x = []) : (xs.filter c).flatMap F = xs.flatMap F := by
  induction xs with
  | nil => rfl
  | cons x xs ih =>
    have ih := ih fun y hy => h y (List.mem_cons_of_mem _ hy)
    by_cases e : c x = true
    · rw [List.filter_cons_of_pos e, List.flatMap_cons, List.flatMap_cons, ih]
    · rw [List.filter_cons_of_neg e, List.flatMap_cons, ih, h x (List.mem_cons_self ..) (by simpa using e)]
      rfl
section
variable {H H' : Hp} {h l a lv sd : Addr} {N : NetS} {pA : Nat → Addr} {zl zn : Nat → List (Addr × Int)}
theorem S8.rows (s : S8 K H h l a N lv sd pA zl zn) {ys : List Str} (hy : ys.Perm (N.sts.map (·.1))) (hs : sortedS ys = true) (p : Str) : pastRows N.sts ys p = (R8 p zn).map rV8 := by
  have hk : ∀ y ∈ ys, y ∈ s4 := fun y h => by
    obtain ⟨x, hx, rfl⟩ := List.mem_map.mp (hy.mem_iff.mp h)
    have := s.keys x hx
    simp only [l4, s4, List.mem_cons, List.not_mem_nil, or_false] at this ⊢
    rcases this with z | z | z | z <;> simp [z]
  have e := sort4 (hy.nodup_iff.mpr s.ndk) hs hk
  unfold pastRows
  rw [e, flat_filter]
  rotate_left
  · intro y hy4 hc
    have hc : y ∉ ys := by simpa using hc
    have : getS N.sts y = [] := by
      unfold getS
      have : N.sts.find? (fun x => decide (x.1 = y)) = none := List.find?_eq_none.mpr fun x hx hz => hc (hy.mem_iff.mpr (List.mem_map.mpr ⟨x, hx, by simpa using hz⟩))
      rw [this]; rfl
    rw [this]; simp
  · have g : ∀ i < 4, (if doesFit p (l4.getD i "") = true then (getS N.sts (l4.getD i "")).map fun v => ((l4.getD i "", v) : Str × V) else []) = (if doesFit p (l4.getD i "") = true then (zn i).map fun y => (l4.getD i "", y) else []).map rV8 := fun i hi => by
      rw [s.hg i hi]
      unfold zV
      split
      · rw [List.map_map, List.map_map]; rfl
      · rfl
    have g0 := g 0 (by omega)
    have g1 := g 1 (by omega)
    have g2 := g 2 (by omega)
    have g3 := g 3 (by omega)
    unfold R8 ord4 s4
    simp only [List.flatMap_cons, List.flatMap_nil, List.map_append, List.append_nil]
    rw [← g0, ← g1, ← g3, ← g2]
    rfl
def note8 (x : Str × (Addr × Int)) : List V := [.int 9, .str x.1, .ref x.2.1]
/-- how many of so many rows are heard -/
def hrd (once : Bool) (n : Nat) : Nat := if once = true then min 1 n else n
theorem listen8 (s : S8 K H h l a N lv sd pA zl zn) {p : Str} {f lg : Addr} {once : Bool} {Q : VK} {E : XK} (hp : isPat p = true) (hpl : p.length ≤ 1000) (C : CloAt H f nfNoted ["_law_answer", "_law_log", "_law_mark"] [.non, .ref lg, .int 9]) (hlg : H lg = some (.lst [])) (nlg : ¬ Foot a N lg) (hfew : ∀ i < 4, (zn i).length ≤ 1000)
    (q : ∀ H4 N4 x ts, NetAt K H4 a N4 → N4.ls = [x] → x.n = 0 → x.p = p → x.r = 0 → x.muted = false → x.gone = decide (once = true ∧ R8 p zn ≠ []) → Fwd K (fun b => b = a ∨ b = N.kn ∨ b = lg) H H4 → H4 lg = some (.lst (ts.map V.ref)) → TupsAt H4 ts (((R8 p zn).take (hrd once (R8 p zn).length)).map note8) → Q (.int 0) H4) :
    sp_Net_listen P w K mg base 20 [.ref a, .str p, .ref f, .int 0, .bl once, .non, .str ("" : Str), .bl true] H Q E := by
  obtain ⟨i1, i2, i3, i4⟩ := s.idle
  have hst := s.few
  have rl : (R8 p zn).length ≤ 4000 := by
    have g : ∀ i < 4, (if doesFit p (l4.getD i "") = true then (zn i).map fun y => ((l4.getD i "", y) : Str × (Addr × Int)) else []).length ≤ 1000 := fun i hi => by
      split
      · rw [List.length_map]; exact hfew i hi
      · simp
    have g0 := g 0 (by omega)
    have g1 := g 1 (by omega)
    have g2 := g 2 (by omega)
    have g3 := g 3 (by omega)
    unfold R8 ord4
    simp only [List.flatMap_cons, List.flatMap_nil, List.length_append, List.length_nil]
    omega
  refine ⟨a, N, p, .ref f, 0, once, .non, "", true, rfl, s.net, s.tab, hpl, by rw [i4]; decide, fun z => (by rw [hp] at z; cases z), fun _ z => absurd ⟨by decide, by decide⟩ z, fun _ _ _ H1 la dx w1 nla N1 => ⟨fun z => (by cases z), fun _ => ⟨fun z => by omega, fun _ B wB NB => ?_⟩⟩⟩
  have en : (N.ls.length : Int) = 0 := by rw [i4]; rfl
  rw [i4, List.nil_append] at NB
  have nlk : lg ≠ N.kn := fun z => nlg (.inr (.inl z))
  have nla' : lg ≠ a := fun z => nlg (.inl z)
  have hlgB : B lg = some (.lst []) := wB.lst w1.tab (w1.lst s.tab hlg nlk) nla'
  have CB := (C.fw w1).fw wB
  obtain ⟨x, ex⟩ : ∃ x : Lis, x = ⟨la, dx, (N.ls.length : Nat), p, .ref f, 0, once, .non, "", false, false⟩ := ⟨_, rfl⟩
  rw [show ([⟨la, dx, (([] : List Lis).length : Nat), p, .ref f, 0, once, .non, "", false, false⟩] : List Lis) = [x] by rw [ex, i4]] at NB
  have ela : la = x.ad := by rw [ex]
  rw [ela]
  refine ⟨a, _, x, rfl, NB, wB.tab, List.mem_singleton.mpr rfl, by show N.sts.length < 64; omega, fun y hy => ?_, fun ys hy hs Z hZ => ?_⟩
  · have := s.keys y hy
    simp only [l4, List.mem_cons, List.not_mem_nil, or_false] at this
    rcases this with z | z | z | z <;> (rw [z]; decide +kernel)
  rw [show x.p = p by rw [ex], show pastRows ({ N with ls := [x], depth := N.depth + 1 } : NetS).sts ys p = (R8 p zn).map rV8 from s.rows hy hs p, List.length_map]
  have nZ : ∀ b, Z b → b ≠ lg ∧ b ≠ x.ad ∧ b ∉ Ts K := fun b z => by
    have hb := hZ b z
    refine ⟨fun e => ?_, fun e => ?_, fun e => ?_⟩
    · rw [e, hlgB] at hb; cases hb
    · have h2 := (NB.li x (List.mem_singleton.mpr rfl)).1
      unfold LisAt at h2
      rw [e, h2] at hb; cases hb
    · obtain ⟨ps, h2, _⟩ := wB.tab b e
      rw [hb] at h2; cases h2
  obtain ⟨Pv, hPv⟩ : ∃ Pv : Nat → Hp → Prop, ∀ i H', Pv i H' ↔ ∃ ts, NetAt K H' a { N with ls := [{ x with gone := decide (once = true ∧ 0 < i) }], depth := N.depth + 1 } ∧ Fwd K (fun b => b = lg ∨ b = x.ad) B H' ∧ H' lg = some (.lst (ts.map V.ref)) ∧ TupsAt H' ts (((R8 p zn).take (hrd once i)).map note8) := ⟨_, fun _ _ => Iff.rfl⟩
  refine ⟨Pv, ⟨fun i H' hP => ?_, fun i y H' hi hP => ?_⟩, fun H' wH _ => ?_, fun H' hP => ?_⟩
  · obtain ⟨ts, n, _⟩ := (hPv _ _).mp hP
    exact ⟨_, _, n.net, rfl⟩
  · obtain ⟨ts, n, w2, l2, t2⟩ := (hPv _ _).mp hP
    rw [List.getElem?_map] at hi
    obtain ⟨z, hz, rfl⟩ := Option.map_eq_some_iff.mp hi
    have hil : i < (R8 p zn).length := by
      rcases Nat.lt_or_ge i (R8 p zn).length with h | h
      · exact h
      · rw [List.getElem?_eq_none h] at hz; cases hz
    have tlen := t2.len
    rw [List.length_map, List.length_take] at tlen
    have wrap : ∀ H2 ts2, NetAt K H2 a { N with ls := [{ x with gone := decide (once = true ∧ 0 < i + 1) }], depth := N.depth + 1 } → Fwd K (fun b => b = lg ∨ b = x.ad) H' H2 → H2 lg = some (.lst (ts2.map V.ref)) → TupsAt H2 ts2 (((R8 p zn).take (hrd once (i + 1))).map note8) → (∀ b o, Z b → H' b = some o → H2 b = some o) ∧ (∀ t ys, H' t = some (.tup ys) → H2 t = some (.tup ys)) ∧ Pv (i + 1) H2 := fun H2 ts2 n2 w3 l3 t3 =>
      ⟨fun b o zb hb => w3.keep b o hb (.inr ⟨fun e => e.elim (nZ b zb).1 (nZ b zb).2.1, (nZ b zb).2.2⟩), fun t ys h => w3.tup h, (hPv _ _).mpr ⟨ts2, n2, w2.trans w3, l3, t3⟩⟩
    refine answer_net0 (x := { x with gone := decide (once = true ∧ 0 < i) }) (i := 0) n w2.tab rfl (by rw [ex]) (fun hg D nD => ?_) (fun hg H1 w1' N1' => ?_)
    · have hmu : x.muted = false := by rw [ex]
      have hg : once = true ∧ 0 < i := by simpa [hmu] using hg
      have s1 : Same H' (upd H' D (.lst [])) := same_put (Same.refl _) nD
      have e1 : hrd once (i + 1) = hrd once i := by unfold hrd; rw [if_pos hg.1, if_pos hg.1]; omega
      refine wrap _ ts ?_ (Fw.of_same s1 w2.tab) (s1 _ _ l2) (by rw [e1]; exact t2.mono fun t y h => s1 _ _ h)
      have := n.same s1
      simp only [hg.1, hg.2, true_and, decide_true] at this
      simp only [hg.1, Nat.succ_pos, true_and, decide_true]
      exact this
    · have hmu : x.muted = false := by rw [ex]
      have hg : once = true → i = 0 := fun e => by
        have : ¬ (once = true ∧ 0 < i) := by simpa [hmu] using hg
        exact Nat.eq_zero_of_not_pos fun z => this ⟨e, z⟩
      have hl1 := w1'.lst w2.tab l2 (fun e => by
        have e : lg = x.ad := e
        have h2 := (NB.li x (List.mem_singleton.mpr rfl)).1
        unfold LisAt at h2
        rw [← e, hlgB] at h2; cases h2)
      have C1 := (CB.fw w2).fw w1'
      obtain ⟨sp, ac, r⟩ := noted_runs (P := P) (w := w) (mg := mg) (base := base) (K := K) (line := .str (rV8 z).1) (th := (rV8 z).2) C1 hl1 (by rw [List.length_map]; omega)
      refine ⟨f, sp, by rw [ex], ac.mono (by decide), r.mono (fun v H2 ⟨ev, t, nt, eH⟩ D nD => ?_) (fun _ _ _ z => z.elim)⟩
      have ntl : lg ≠ t := ne_of_none hl1 nt
      have w3 : Fwd K (fun b => b = lg ∨ b = x.ad) H' H2 := by
        rw [eH]
        exact ((w1'.mono fun b z => .inr z).new nt).put (o' := .lst _) (by rw [upd_ne ntl]; exact hl1) (fun _ z => by cases z) (fun z => z) (.inl (.inl rfl))
      have hl2 : H2 lg = some (.lst ((ts ++ [t]).map V.ref)) := by rw [eH, upd_same, List.map_append]; rfl
      have ht2 : H2 t = some (.tup (note8 z)) := by rw [eH, upd_ne ntl.symm, upd_same]; rfl
      have s4 : Same H2 (upd H2 D (.lst [v])) := same_put (Same.refl _) nD
      have e0 : hrd once i = i := by
        unfold hrd
        split
        · next e => rw [hg e]; rfl
        · rfl
      have e1 : hrd once (i + 1) = i + 1 := by
        unfold hrd
        split
        · next e => rw [hg e]; rfl
        · rfl
      refine wrap _ (ts ++ [t]) ?_ (w3.same s4) (s4 _ _ hl2) ?_
      · have n2 : NetAt K H2 a (onceN { N with ls := [{ x with gone := decide (once = true ∧ 0 < i) }], depth := N.depth + 1 } 0 { x with gone := decide (once = true ∧ 0 < i) }) := by
          have wl : Fwd K (fun b => b = lg) H1 H2 := by
            rw [eH]
            exact ((Fw.refl w1'.tab).new nt).put (o' := .lst _) (by rw [upd_ne ntl]; exact hl1) (fun _ z => by cases z) (fun z => z) (.inl rfl)
          refine N1'.fw wl w1'.tab (fun b hb z => ?_)
          rw [z] at hb
          have hb2 : Foot a { N with ls := [x], depth := N.depth + 1 } lg := by
            unfold onceN at hb
            split at hb <;> exact hb
          unfold Foot at hb2 nlg
          rcases hb2 with y | y | y | y | y | y | y
          · exact nlg (.inl y)
          · exact nlg (.inr (.inl y))
          · exact nlg (.inr (.inr (.inl y)))
          · exact nlg (.inr (.inr (.inr (.inl y))))
          · exact nlg (.inr (.inr (.inr (.inr (.inl y)))))
          · have e : lg = x.ad := by simpa using y
            have h2 := (NB.li x (List.mem_singleton.mpr rfl)).1
            unfold LisAt at h2
            rw [← e, hlgB] at h2; cases h2
          · exact nlg (.inr (.inr (.inr (.inr (.inr (.inr y))))))
        have n3 := n2.same s4
        unfold onceN at n3
        have eo : x.once = once := by rw [ex]
        by_cases e : once = true
        · rw [if_pos (by show x.once = true; rw [eo]; exact e)] at n3
          simp only [e, Nat.succ_pos, true_and, decide_true]
          exact n3
        · rw [if_neg (by show ¬ x.once = true; rw [eo]; exact e)] at n3
          simp only [e, false_and, decide_false] at n3 ⊢
          exact n3
      · rw [e1, List.take_add_one, hz, List.map_append]
        rw [e0] at t2
        exact (TupsAt.snoc ht2 (t2.mono fun t y h => w3.tup h)).mono fun t y h => s4 _ _ h
  · refine (hPv _ _).mpr ⟨[], ?_, wH.mono (fun _ z => z.elim), wH.lst wB.tab hlgB (fun z => z), ?_⟩
    · have : ({ x with gone := decide (once = true ∧ 0 < 0) } : Lis) = x := by rw [ex]; simp
      rw [this]
      exact NB.fw wH wB.tab (fun _ _ z => z)
    · have : hrd once 0 = 0 := by unfold hrd; split <;> rfl
      rw [this]; trivial
  · obtain ⟨ts, n, w2, l2, t2⟩ := (hPv _ _).mp hP
    refine ⟨w2.tab, _, n, fun H3 w3 N3 => clear_idle N3 w3.tab (ds := []) (by show DpAll K H3 N.wts []; rw [i3]; exact .nil) rfl (.inl i3) (fun H4 s4 => ?_)⟩
    have n4 := N3.same s4
    refine ⟨{ x with gone := decide (once = true ∧ 0 < (R8 p zn).length) }, rfl, (n4.li _ (List.mem_singleton.mpr rfl)).1, ?_⟩
    rw [show ({ x with gone := decide (once = true ∧ 0 < (R8 p zn).length) } : Lis).n = 0 by rw [ex]; exact en]
    refine q H4 _ _ ts n4 rfl (by rw [ex]; exact en) (by rw [ex]) (by rw [ex]) (by rw [ex]) ?_ ?_ (s4 _ _ (w3.lst w2.tab l2 nla')) (t2.mono fun t y h => s4 _ _ (w3.tup h))
    · have : 0 < (R8 p zn).length ↔ R8 p zn ≠ [] := List.length_pos_iff
      simp only [this]
    · have wa : Fwd K (fun b => b = a ∨ b = N.kn ∨ b = lg) H B := (w1.mono fun b z => .inr (.inl z)).trans (wB.mono fun b z => .inl z)
      have wb : Fwd K (fun b => b = a ∨ b = N.kn ∨ b = lg) H H' := wa.after w2 (fun b z => z.elim (fun z => .inr (.inr (.inr z))) fun z => .inl (by rw [z, ← ela]; exact nla))
      exact (wb.trans (w3.mono fun b z => .inl z)).same s4
end
end
end Hk

set_option Elab.async false
set_option linter.all false
set_option maxRecDepth 100000
set_option maxHeartbeats 4000000
namespace Hk
open PySem PySem.Spec PyProof.Rows L2
open LamX NdefX
open TL
section
variable {P : Program} {w : World} {K : PySem.W.Frag} {mg : Str → Option Value} {base : Heap}
structure B8 (K : PySem.W.Frag) (H : Hp) (h l lv : Addr) : Prop where
  src : SrcOk H h l
  tab : Tab K H
  hlv : H lv = some (.lst (l4.map V.str))
section
variable {H H' : Hp} {h l lv : Addr}
theorem B8.ne (s : B8 K H h l lv) : lv ≠ h ∧ lv ≠ l := by
  obtain ⟨m, p, cs, e1, e2, _⟩ := s.src
  refine ⟨fun e => ?_, fun e => ?_⟩
  · have := s.hlv
    rw [e, e1] at this
    cases this
  · have := s.hlv
    rw [e, e2] at this
    have : cs.map V.int = l4.map V.str := by injection (Option.some.inj this)
    cases cs with
    | nil => cases this
    | cons c cs =>
      unfold l4 at this
      simp at this
theorem B8.same (s : B8 K H h l lv) (e : Same H H') : B8 K H' h l lv := ⟨s.src.same e, s.tab.ext e, e _ _ s.hlv⟩
theorem B8.draw (s : B8 K H h l lv) (x : Ext (DrS h l) H H') (S' : SrcOk H' h l) : B8 K H' h l lv := by
  have w := drawF8 s.src S' x s.tab
  exact ⟨S', w.tab, w.lst s.tab s.hlv fun z => z.elim s.ne.1 s.ne.2⟩
end
/-- [(x, []) for x in xs] -/
theorem lc_empties (xs : List Str) {J : It} {G : Hp → Prop} {Y : Nat → Hp → V → Hp → Prop} (w : Walk J xs.length G Y) {g : TG} {te : TE} {vs : List Nat} {σ : L2.St} {H1 : Hp} {Q : VK}
    (hn : xs.length ≤ 100000) (hG : ∀ H, Same H1 H → G H) (hY : ∀ i H x H', Y i H x H' → H' = H)
    (hs : ∀ i a x H H' (R : V → Hp → Prop), xs[i]? = some a → Same H1 H → Y i H x H' → (∀ p t, H' p = none → upd H' p (.lst []) t = none → R (.ref t) (upd (upd H' p (.lst [])) t (.tup [.str a, .ref p]))) → g x (wipe σ vs) H' fun σ2 H2 => wipe σ2 vs = wipe σ vs ∧ te σ2 H2 (fun y H4 => R y H4))
    (hd : ∀ D H ts ps, H1 D = none → Same H1 H → H D = some (.lst (ts.map V.ref)) → ps.length = xs.length → ps.Nodup → (∀ p ∈ ps, H p = some (.lst []) ∧ H1 p = none ∧ p ≠ D) → TupsAt H ts ((xs.zip ps).map fun z => [V.str z.1, V.ref z.2]) → Q (.ref D) H) : LcG J g tYes te vs σ H1 Q := by
  refine lc_accH w No (fun i acc H => Same H1 H ∧ ∃ ts ps, acc = ts.map V.ref ∧ ps.length = i ∧ ps.Nodup ∧ (∀ p ∈ ps, H p = some (.lst []) ∧ H1 p = none) ∧ TupsAt H ts (((xs.take i).zip ps).map fun z => [V.str z.1, V.ref z.2])) (Nat.lt_of_le_of_lt hn (by decide)) (fun _ _ z => z) ⟨Same.refl _, [], [], rfl, rfl, List.nodup_nil, (fun _ hp => nomatch hp), trivial⟩ (fun H D i acc nD e _ => hG H e.same)
    (fun D i x H H' acc R nD hD hi e hJ hy r0 r1 => ?_) (fun D acc H nD hl e hJ hD => ?_)
  · obtain ⟨s1, ts, ps, rfl, pl, pn, pe, ht⟩ := hJ
    have hx : xs[i]? = some xs[i] := List.getElem?_eq_getElem hi
    obtain rfl := hY _ _ _ _ hy
    have r2 : ∀ p t, H' p = none → upd H' p (.lst []) t = none → R (some (.ref t)) (upd (upd H' p (.lst [])) t (.tup [.str xs[i], .ref p])) := fun p t np nt => by
      have sa : Same H' (upd H' p (.lst [])) := same_put (Same.refl _) np
      have sb : Same H' (upd (upd H' p (.lst [])) t (.tup [.str xs[i], .ref p])) := sa.trans (same_put (Same.refl _) nt)
      have npt : p ≠ t := fun z => by rw [← z, upd_same] at nt; cases nt
      have npD : p ≠ D := fun z => by rw [z, hD] at np; cases np
      have ntD : t ≠ D := fun z => by rw [z, sa _ _ hD] at nt; cases nt
      refine r1 _ _ (.of_same sb) ⟨s1.trans (offA_mono sb), ts ++ [t], ps ++ [p], by simp, by simp [pl], ?_, fun b hb => ?_, ?_⟩
      · rw [List.nodup_append]
        refine ⟨pn, by simp, fun x hx y hy => ?_⟩
        rw [List.mem_singleton.mp hy]
        intro z
        have := (pe x hx).1
        rw [z] at this
        rw [offA_same _ _ this] at np
        cases np
      · rcases List.mem_append.mp hb with hb | hb
        · exact ⟨offA_mono sb _ _ (pe b hb).1, (pe b hb).2⟩
        · rw [List.mem_singleton.mp hb]
          exact ⟨by rw [offA_ne npD, upd_ne npt, upd_same], e.same.free np⟩
      · rw [List.take_add_one, hx, List.zip_append (by rw [List.length_take, pl]; omega), List.map_append]
        exact TupsAt.snoc (by rw [offA_ne ntD]; exact upd_same) (TupsAt.mono (fun t x h => offA_mono sb _ _ h) ht)
    have key := hs i xs[i] x H' H' (fun y H4 => R (some y) H4) hx e.same hy r2
    simp only [tYes, if_true]
    exact key
  · obtain ⟨s1, ts, ps, rfl, pl, pn, pe, ht⟩ := hJ
    rw [List.take_length] at ht
    exact hd D H ts ps nD e.same hD pl pn (fun p hp => ⟨offA_same _ _ (pe p hp).1, (pe p hp).2, fun z => by
      have := (pe p hp).1
      rw [z] at this
      simp [offA] at this⟩) (TupsAt.mono (fun t x h => offA_same _ _ h) ht)
theorem dg8 {H : Hp} {h l a lv sd : Addr} {N : NetS} {pA : Nat → Addr} {zl zn : Nat → List (Addr × Int)} (s : S8 K H h l a N lv sd pA zl zn) {i : Nat} (hi : i < 4) : DGet H sd (.str (l4.getD i "")) (some (.ref (pA i))) := by
  have n1 : ("a" : Str) ≠ ("a.b" : Str) := by decide +kernel
  have n2 : ("a" : Str) ≠ ("b" : Str) := by decide +kernel
  have n3 : ("a" : Str) ≠ ("ab" : Str) := by decide +kernel
  have n4 : ("a.b" : Str) ≠ ("b" : Str) := by decide +kernel
  have n5 : ("a.b" : Str) ≠ ("ab" : Str) := by decide +kernel
  have n6 : ("b" : Str) ≠ ("ab" : Str) := by decide +kernel
  have e : valV (kv8 pA) (.inr (l4.getD i "")) = some (.ref (pA i)) := by
    have : i = 0 ∨ i = 1 ∨ i = 2 ∨ i = 3 := by omega
    rcases this with rfl | rfl | rfl | rfl <;> simp [valV, kv8, l4, n1, n2, n3, n4, n5, n6]
  have := DGet.k (k := .inr (l4.getD i "")) s.hsd
  rw [e] at this
  exact this
theorem cut8 (xs : List V) {k : Int} (hk : 0 ≤ k) : cutV xs (some (if (xs.length : Int) - k > 0 then (xs.length : Int) - k else 0)) none = last8 k.toNat xs := by
  have e : (if (xs.length : Int) - k > 0 then (xs.length : Int) - k else 0) = ((xs.length - k.toNat : Nat) : Int) := by
    split <;> omega
  unfold cutV last8
  rw [e, HT.sIx_nat, HT.sIx_none, Nat.min_eq_left (by omega)]
  exact List.take_of_length_le (by rw [List.length_drop]; omega)
theorem last8_map {α β : Type} (f : α → β) (m : Nat) (xs : List α) : (last8 m xs).map f = last8 m (xs.map f) := by
  unfold last8
  rw [List.map_drop, List.length_map]
theorem dp8 {H : Hp} : ∀ {zs : List (Addr × Int)}, Ones H zs → DpAll K H (zV zs) ((zs.map (·.2)).map fun t => PyData.list [.int t])
  | [], _ => .nil
  | z :: zs, h => .cons (.lst (.of (h z (List.mem_cons_self ..))) (.cons (.int _) .nil)) (dp8 fun y hy => h y (List.mem_cons_of_mem _ hy))
theorem dok8 (ts : List Int) (h : ts.length ≤ 100) : DOk 2 (.list (ts.map fun t => PyData.list [.int t])) := DOk.list (dok_map fun _ _ => DOk.list (dok_cons .int dok_nil) (by simp)) (by rw [List.length_map]; omega)
theorem ones_last {H : Hp} {zs : List (Addr × Int)} (m : Nat) (h : Ones H zs) : Ones H (last8 m zs) := fun z hz => h z (List.mem_of_mem_drop hz)
def due8 (p : Str) (z : Nat → List (Addr × Int)) (j : Nat) : List (Str × (Addr × Int)) := (ord4.take j).flatMap fun i => if doesFit p (l4.getD i "") = true then (z i).map fun y => (l4.getD i "", y) else []
theorem due8_all (p : Str) (z : Nat → List (Addr × Int)) : due8 p z 4 = R8 p z := rfl
theorem due8_succ (p : Str) (z : Nat → List (Addr × Int)) {j m : Nat} (h : ord4[j]? = some m) : due8 p z (j + 1) = due8 p z j ++ if doesFit p (l4.getD m "") = true then (z m).map fun y => (l4.getD m "", y) else [] := by
  unfold due8
  rw [List.take_add_one, h, List.flatMap_append]
  simp
theorem ord_at {j : Nat} (h : j < 4) : ∃ m, m < 4 ∧ ord4[j]? = some m ∧ s4[j]? = some (l4.getD m "") := by
  have : j = 0 ∨ j = 1 ∨ j = 2 ∨ j = 3 := by omega
  rcases this with rfl | rfl | rfl | rfl
  · exact ⟨0, by decide, rfl, rfl⟩
  · exact ⟨1, by decide, rfl, rfl⟩
  · exact ⟨3, by decide, rfl, rfl⟩
  · exact ⟨2, by decide, rfl, rfl⟩
theorem due8_len (p : Str) (z : Nat → List (Addr × Int)) (h : ∀ i < 4, (z i).length ≤ 50) : ∀ j ≤ 4, (due8 p z j).length ≤ 50 * j
  | 0, _ => by simp [due8]
  | j + 1, hj => by
    obtain ⟨m, hm, e1, _⟩ := ord_at (show j < 4 by omega)
    have ih := due8_len p z h j (by omega)
    rw [due8_succ p z e1, List.length_append]
    have : (if doesFit p (l4.getD m "") = true then (z m).map fun y => ((l4.getD m "", y) : Str × (Addr × Int)) else []).length ≤ 50 := by
      split
      · rw [List.length_map]; exact h m hm
      · simp
    omega
def d8x (x : Str × (Addr × Int)) : PyData := .tuple [.int 9, .str x.1, .list [.int x.2.2]]
theorem R8_d (p : Str) {z y : Nat → List (Addr × Int)} (h : ∀ i < 4, (z i).map (·.2) = (y i).map (·.2)) : (R8 p z).map d8x = (R8 p y).map d8x := by
  have g : ∀ i < 4, (if doesFit p (l4.getD i "") = true then (z i).map fun y => ((l4.getD i "", y) : Str × (Addr × Int)) else []).map d8x = (if doesFit p (l4.getD i "") = true then (y i).map fun y => ((l4.getD i "", y) : Str × (Addr × Int)) else []).map d8x := fun i hi => by
    split
    · rw [List.map_map, List.map_map]
      have e : (d8x ∘ fun y : Addr × Int => ((l4.getD i "", y) : Str × (Addr × Int))) = (fun t : Int => PyData.tuple [.int 9, .str (l4.getD i ""), .list [.int t]]) ∘ fun z : Addr × Int => z.2 := rfl
      rw [e, ← List.map_map, ← List.map_map, h i hi]
    · rfl
  unfold R8 ord4
  simp only [List.flatMap_cons, List.flatMap_nil, List.map_append]
  rw [g 0 (by omega), g 1 (by omega), g 3 (by omega), g 2 (by omega)]
theorem R8_mem {p : Str} {z : Nat → List (Addr × Int)} {x : Str × (Addr × Int)} (h : x ∈ R8 p z) : ∃ i < 4, x.2 ∈ z i := by
  unfold R8 at h
  obtain ⟨i, hi, hx⟩ := List.mem_flatMap.mp h
  have hi4 : i < 4 := by
    simp only [ord4, List.mem_cons, List.not_mem_nil, or_false] at hi
    omega
  split at hx
  · obtain ⟨y, hy, rfl⟩ := List.mem_map.mp hx
    exact ⟨i, hi4, hy⟩
  · cases hx
theorem dp8x {H : Hp} {q : Addr} {ts : List Addr} {xs : List (Str × (Addr × Int))} (h : H q = some (.lst (ts.map V.ref))) (t : TupsAt H ts (xs.map note8)) (o : ∀ x ∈ xs, H x.2.1 = some (.lst [.int x.2.2])) : Dp K H (.ref q) (.list (xs.map d8x)) :=
  dp_rows h t fun x hx => ⟨.cons (.int _) (.cons (.str _) (.cons (.lst (.of (o x hx)) (.cons (.int _) .nil)) .nil)), _, rfl⟩
theorem dok8x (xs : List (Str × (Addr × Int))) (h : xs.length ≤ 200) : DOk 3 (.list (xs.map d8x)) := DOk.list (dok_map fun _ _ => DOk.tuple (dok_cons .int (dok_cons .str (dok_cons (DOk.list (dok_cons .int dok_nil) (by simp)) dok_nil))) (by simp)) (by rw [List.length_map]; omega)
theorem cut_to8 (xs : List V) (k : Nat) : cutV xs none (some (k : Int)) = xs.take k := by
  unfold cutV
  rw [HT.sIx_nat, HT.sIx_none, List.drop_zero, Nat.sub_zero]
  by_cases h : k ≤ xs.length
  · rw [Nat.min_eq_left h]
  · rw [Nat.min_eq_right (by omega), List.take_of_length_le (Nat.le_refl _), List.take_of_length_le (by omega)]
theorem tups_take8 {H : Hp} : ∀ {ts : List Addr} {xs : List (List V)} (m : Nat), TupsAt H ts xs → TupsAt H (ts.take m) (xs.take m)
  | [], [], _, _ => by simp [TupsAt]
  | [], _ :: _, _, h => h.elim
  | _ :: _, [], _, h => h.elim
  | _ :: _, _ :: _, 0, _ => by simp [TupsAt]
  | _ :: _, _ :: _, m + 1, h => ⟨h.1, tups_take8 m h.2⟩
theorem R8_ok {p : Str} {z : Nat → List (Addr × Int)} {x : Str × (Addr × Int)} (h : x ∈ R8 p z) : PyData.strOk x.1 = true := by
  unfold R8 at h
  obtain ⟨i, hi, hx⟩ := List.mem_flatMap.mp h
  split at hx
  · obtain ⟨y, hy, rfl⟩ := List.mem_map.mp hx
    simp only [ord4, List.mem_cons, List.not_mem_nil, or_false] at hi
    show PyData.strOk (l4.getD i "") = true
    rcases hi with rfl | rfl | rfl | rfl <;> decide +kernel
  · cases hx
end
end Hk

set_option Elab.async false
set_option linter.all false
set_option maxRecDepth 100000
set_option maxHeartbeats 4000000
namespace Hk
open PySem PySem.Spec PyProof.Rows L2
open LamX NdefX
open TL
section
variable {P : Program} {w : World} {K : PySem.W.Frag} {mg : Str → Option Value} {base : Heap}
theorem K_Net_1 (T : Tx K mg) : MakeG P w K mg base (L2.CX P w) (2) (He.ga K "Net") p_Net___init__ (([V.int 0, V.str "stop"] : List V).drop 1) (sp_Net_init K) := by
  obtain ⟨fd, F, ok⟩ := O_Net___init__ T
  obtain ⟨ds, vd, hb⟩ := F.binds1 (ps := p_Net___init__) 2 1 (by simp) rfl (fun T kV doc pm an cdv ct us its h1 h2 => match us, h1, its, h2 with | [_, _], _, [_, _], _ => ⟨_, rfl, rfl⟩)
  exact ⟨_, fd, ds, T.k_Net, ok, vd, hb⟩
theorem merge8 (pA : Nat → Addr) : mergeK [] (kv8 pA) = kv8 pA := by
  have n1 : ("a" : Str) ≠ ("a.b" : Str) := by decide +kernel
  have n2 : ("a" : Str) ≠ ("b" : Str) := by decide +kernel
  have n3 : ("a" : Str) ≠ ("ab" : Str) := by decide +kernel
  have n4 : ("a.b" : Str) ≠ ("b" : Str) := by decide +kernel
  have n5 : ("a.b" : Str) ≠ ("ab" : Str) := by decide +kernel
  have n6 : ("b" : Str) ≠ ("ab" : Str) := by decide +kernel
  simp [mergeK, kv8, putK, n1, n2, n3, n4, n5, n6]
def spNew8 (K : PySem.W.Frag) (vs0 : List V) : List (Option V) → Sp := fun ws vs H Q E => ∃ far : Int, ws = [some (.int far)] ∧ 0 ≤ far ∧ vs = vs0 ∧ ∀ H', Same H H' → E (.ref (He.ga K "BadCount")) none H'
def sp_law (K : PySem.W.Frag) : Sp := fun vs H Q _ => ∃ (a : Addr) (ns : List Int), vs = [.ref a] ∧ SqL K H a (ns.map V.int) ∧ ns.length ≤ 63 ∧ Tabs1 (Ts K) nm H ∧ ∀ H', Q (.bl true) H'
theorem F_law_ok (T : Tx K mg) (B : Tb K mg base) {fd : FuncData} (F : F_law K (He.fAd K ("law", none)) fd) : FnOk P w K mg base CX0 45 (He.fAd K ("law", none)) fd p_law (sp_law K) := by
  refine okT (p := ("law", none)) F sc_law (fun vs H Q E h => ?_) (fun A outer s H vs Q E hr h => ?_)
  · obtain ⟨a, ns, rfl, _⟩ := h; rfl
  · obtain ⟨a, ns, rfl, hS, hn, hT, q⟩ := h
    refine ⟨_, PSs.nox (pss_cons (ps_set (i := 1) sc_law.nd rfl (Or.inl rfl) (pe_callG (G_law_mix T) (hr.mono (by first | decide | omega)) (by rfl) pass0 (pa_cons (pv 0) (pa_cons pe_int pa_nil))))
      (pss_cons (ps_set (i := 2) sc_law.nd rfl (Or.inl rfl) (pe_lst (pa_cons pe_str (pa_cons pe_str (pa_cons pe_str (pa_cons pe_str pa_nil))))))
      (pss_cons (ps_for PassesOwn.never rfl (pi_range1 (by rfl) T.b_range (pa_cons pe_int pa_nil)) (pg_name (i := 3) sc_law.nd rfl (Or.inl rfl))
      (pss_cons (ps_set (i := 4) sc_law.nd rfl (Or.inl rfl) (pe_ix (ix_listK (K := K) rfl) (pe_lst (pa_cons pe_int (pa_cons pe_int (pa_cons pe_int (pa_cons pe_int (pa_cons (pe_callG (G_law_next T) (hr.mono (by first | decide | omega)) (by rfl) pass0 (pa_cons (pv 1) (pa_cons pe_int pa_nil))) pa_nil)))))) (pe_callG (G_law_next T) (hr.mono (by first | decide | omega)) (by rfl) pass0 (pa_cons (pv 1) (pa_cons pe_int pa_nil))) (fun _ _ => rfl)))
      (pss_cons (ps_par (i := 5) (j := 6) rfl sc_law.nd rfl rfl (by decide) rfl rfl (pa_cons (pe_makeG (K_Net_1 T) (hr.mono (by first | decide | omega)) (by rfl) T.g_Net passN (pa_cons (pv 4) pa_nil)) (pa_cons (pe_callTy (cr_dictP (K := K) rfl rfl) (by rfl) T.b_dict (by decide +kernel) (pa_cons (pe_lc (own := [("_law_line", 7)]) (g := (gName 7)) (tt := tYes) rfl sc_law.nd (pi_listK (K := K) rfl (pv 2)) (blkOk_by (by kernel_rfl)) (fun _ _ _ _ _ => (pg_name (i := 7) sc_law.nd rfl (Or.inl rfl))) (fun _ _ _ _ _ => pts_nil) (fun _ _ _ _ _ => (pe_tup (pa_cons (pv 7) (pa_cons (pe_lst pa_nil) pa_nil))))) pa_nil)) pa_nil)) (by rfl))
      (pss_cons (ps_for PassesOwn.never rfl (pi_range1 (by rfl) T.b_range (pa_cons (pe_callG (G_law_next T) (hr.mono (by first | decide | omega)) (by rfl) pass0 (pa_cons (pv 1) (pa_cons pe_int pa_nil))) pa_nil)) (pg_name (i := 8) sc_law.nd rfl (Or.inl rfl))
      (pss_cons (ps_set (i := 7) sc_law.nd rfl (Or.inr rfl) (pe_ix (ix_listK (K := K) rfl) (pv 2) (pe_callG (G_law_next T) (hr.mono (by first | decide | omega)) (by rfl) pass0 (pa_cons (pv 1) (pa_cons pe_int pa_nil))) (fun _ _ => rfl)))
      (pss_cons (ps_expr (pe_methG (pv 5) (M_Net_tell_2 T B 20) (hr.mono (by first | decide | omega)) passN (pa_cons (pv 7) (pa_cons (pe_lst (pa_cons (pv 8) pa_nil)) pa_nil))))
      (pss_one (ps_expr (pe_bmK (K := K) rfl PySem.F.plainAttrs_list PySem.F.slot_list_append PySem.F.type_list_append mt_append (pe_dget (hu_of hr) (pv 6) (pv 7) (fun _ _ => rfl)) (pa_cons (pe_lst (pa_cons (pv 8) pa_nil)) pa_nil)))))))
      (pss_cons (ps_for PassesOwn.never rfl (pi_listK (K := K) rfl (pv 2)) (pg_name (i := 7) sc_law.nd rfl (Or.inr rfl))
      (pss_cons (ps_set (i := 9) sc_law.nd rfl (Or.inl rfl) (pe_methG (pv 5) (M_Net_kept_1 T) (hr.mono (by first | decide | omega)) passN (pa_cons (pv 7) pa_nil)))
      (pss_cons (ps_if (pt_not (pt_val (pe_callG (G_law_alike T 8) (hr.mono (by first | decide | omega)) (by rfl) pass0 (pa_cons (pv 9) (pa_cons (pe_slice (sl_listK (K := K) rfl) (pe_dget (hu_of hr) (pv 6) (pv 7) (fun _ _ => rfl)) (po_some (pe_callB (call_max2 rfl) (by rfl) T.b_max (by decide +kernel) (pa_cons pe_int (pa_cons (pe_op op_sub (pe_callB (call_len_seqK (K := K) rfl) (by rfl) T.b_len (by decide +kernel) (pa_cons (pe_dget (hu_of hr) (pv 6) (pv 7) (fun _ _ => rfl)) pa_nil)) (pv 4)) pa_nil)))) po_none) pa_nil)))))
      (pss_one (ps_ret pe_bl))
      pss_nil)
      (pss_one (ps_expr (pe_bmK (K := K) rfl PySem.F.plainAttrs_list PySem.F.slot_list_append PySem.F.type_list_append mt_append (pv 9) (pa_cons pe_int pa_nil)))))))
      (pss_cons (ps_asg (pe_tup (pa_cons (pe_ix (ix_listK (K := K) rfl) (pe_lst (pa_cons pe_str (pa_cons pe_str (pa_cons pe_str (pa_cons pe_str (pa_cons pe_str pa_nil)))))) (pe_callG (G_law_next T) (hr.mono (by first | decide | omega)) (by rfl) pass0 (pa_cons (pv 1) (pa_cons pe_int pa_nil))) (fun _ _ => rfl)) (pa_cons (pe_cmpR op_eq (pe_callG (G_law_next T) (hr.mono (by first | decide | omega)) (by rfl) pass0 (pa_cons (pv 1) (pa_cons pe_int pa_nil))) pe_int (nomark _)) (pa_cons (pe_lst pa_nil) pa_nil)))) (pg_tupK (K := K) rfl rfl (pgs_cons (pg_name (i := 10) sc_law.nd rfl (Or.inr rfl)) (pgs_cons (pg_name (i := 11) sc_law.nd rfl (Or.inl rfl)) (pgs_cons (pg_name (i := 12) sc_law.nd rfl (Or.inl rfl)) pgs_nil)))))
      (pss_cutE (ps_set (i := 13) sc_law.nd rfl (Or.inl rfl) (pe_lst pa_nil))
      (pss_cons (ps_for PassesOwn.never rfl (pi_listK (K := K) rfl (pe_callB (cr_sortedSK (K := K) rfl) (by rfl) T.b_sorted (by decide +kernel) (pa_cons (pv 2) pa_nil))) (pg_name (i := 7) sc_law.nd rfl (Or.inr rfl))
      (pss_cons (ps_set (i := 14) sc_law.nd rfl (Or.inl rfl) (pe_slice (sl_listK (K := K) rfl) (pe_dget (hu_of hr) (pv 6) (pv 7) (fun _ _ => rfl)) (po_some (pe_callB (call_max2 rfl) (by rfl) T.b_max (by decide +kernel) (pa_cons pe_int (pa_cons (pe_op op_sub (pe_callB (call_len_seqK (K := K) rfl) (by rfl) T.b_len (by decide +kernel) (pa_cons (pe_dget (hu_of hr) (pv 6) (pv 7) (fun _ _ => rfl)) pa_nil)) (pv 4)) pa_nil)))) po_none))
      (pss_one (ps_set (i := 13) sc_law.nd rfl (Or.inl rfl) (pe_op op_cat (pv 13) (pe_lc (own := [("_law_thing", 15)]) (g := (gName 15)) rfl sc_law.nd (pi_listK (K := K) rfl (pv 14)) (blkOk_by (by kernel_rfl)) (fun _ _ _ _ _ => (pg_name (i := 15) sc_law.nd rfl (Or.inl rfl))) (fun _ _ _ _ _ => (pts_one (pt_val (pe_callG (G_law_fits T) (hr.mono (by first | decide | omega)) (by rfl) pass0 (pa_cons (pv 10) (pa_cons (pv 7) pa_nil)))))) (fun _ _ _ _ _ => (pe_tup (pa_cons pe_int (pa_cons (pv 7) (pa_cons (pv 15) pa_nil)))))))))))
      (pss_cons (ps_if (pt_not (pt_val (pe_callG (G_law_alike T 8) (hr.mono (by first | decide | omega)) (by rfl) pass0 (pa_cons (pe_methG (pv 5) (M_Net_listen_7 T B 20) (hr.mono (by first | decide | omega)) passN (pa_cons (pv 10) (pa_cons (pe_callG (G_law_noted T B) (hr.mono (by first | decide | omega)) (by rfl) pass0 (pa_cons (pv 12) (pa_cons pe_int (pa_cons pe_non pa_nil)))) (pa_cons pe_int (pa_cons (pv 11) (pa_cons pe_non (pa_cons pe_str (pa_cons pe_bl pa_nil)))))))) (pa_cons pe_int pa_nil)))))
      (pss_one (ps_ret pe_bl))
      pss_nil)
      (pss_cons (ps_if (pt_not (pt_val (pe_callG (G_law_alike T 8) (hr.mono (by first | decide | omega)) (by rfl) pass0 (pa_cons (pv 12) (pa_cons (pe_ifExp (pt_val (pv 11)) (pe_slice (sl_listK (K := K) rfl) (pv 13) po_none (po_some pe_int)) (pv 13)) pa_nil)))))
      (pss_one (ps_ret pe_bl))
      pss_nil)
      (pss_one (ps_if (pt_cmpR (op_neDK (K := K) rfl hr.units) (pe_methG0 (pv 5) (M_Net_listeners_0 T B) (hr.mono (by first | decide | omega)) pass0) (pe_op op_rep (pe_lst (pa_cons (pe_tup (pa_cons pe_int (pa_cons (pv 10) (pa_cons pe_int (pa_cons pe_bl pa_nil))))) pa_nil)) (pe_callTy call_int1 (by rfl) T.b_int (by decide +kernel) (pa_cons (pe_or (pe_cmpR (op_eqDK (K := K) rfl hr.units) (pv 12) (pe_lst pa_nil) (nomark _)) (pe_one (pe_not (pv 11)))) pa_nil))) (nomark _))
      (pss_one (ps_ret pe_bl))
      pss_nil))))))))))))
      (pss_cons (ps_set (i := 16) sc_law.nd rfl (Or.inr rfl) (pe_callG (G_law_next T) (hr.mono (by first | decide | omega)) (by rfl) pass0 (pa_cons (pv 1) (pa_cons (pe_op op_pow pe_int pe_int) pa_nil))))
      (pss_one (ps_ret (pe_cmpR (op_eqDK (K := K) rfl hr.units) (pe_lst (pa_cons (pe_callXU ((G_law_kind T)).weak (hr.mono (by first | decide | omega)) (by rfl) passN sc_law.nd (fun _ _ _ => rfl) (pa_cons (pe_lam (Ts := Ts K) (nm := nm) (B.t_law) rfl (m_law K) (show nm 334 22 = Str.ofString "law.<locals>." ++ Str.ofString "<lambda>" by decide +kernel) (ndef_free (sc := defScope s_law) (fr := ["_law_far"]) (by decide +kernel)) rfl) pa_nil)) (pa_cons (pe_callXU ((G_law_kind T)).weak (hr.mono (by first | decide | omega)) (by rfl) passN sc_law.nd (fun _ _ _ => rfl) (pa_cons (pe_lamD (Ts := Ts K) (nm := nm) (B.t_law) rfl (m_law K) (show nm 334 61 = Str.ofString "law.<locals>." ++ Str.ofString "<lambda>" by decide +kernel) (ndef_free (sc := defScope s_law) (fr := ["_law_far"]) (by decide +kernel)) pe_int rfl) pa_nil)) pa_nil))) (pe_op op_rep (pe_lst (pa_cons pe_str pa_nil)) pe_int) (nomark _)))))))), ?_⟩
    simp only [tCutE, false_and, exists_false, false_or, or_false, tRet, tRetN, tAndV, tOrV, tNotV, tChain, rI, rI0, rU, tC, tCB, tCons, tNil, tVar, tOp, tUn, tTest, tB, tAnd, tOr, tNot, tIf, tIfS, tSeq, tAsg, tDrop, tNext, gName, gTup_ref, gCons_cons, gNil_nil, and_assoc, tYes, wipe, rEq, rNe, scal_ss, scal_ii, scal_bb, scal_ns, scal_sn, scal_nn, scal_in, scal_ni, tLc_eq, tFor_eq, iList, iTup, iStr, iRng1, iRng2, iZip, iEnum, gSub, tSl, rSetL_ref, rCat_ref, rRep_ref, rJoin_ref, rSlL_ref, rSlS_ref, rMulS_ref, rIxL_ref, rIxT_ref, rLenK_ref, rAll_ref, rIn_ref, tLst, tTup, tPar, tPar3, tAug, tPart, tNoPart, tCall, List.getElem?_cons_zero, List.getElem?_cons_succ, List.set_cons_zero, List.set_cons_succ, List.map_cons, List.map_nil, List.append_nil, List.nil_append, List.cons_append, Option.some.injEq, exists_eq_left', exists_eq_left, exists_eq_right, exists_eq_right', exists_eq', V.int.injEq, V.str.injEq, V.bl.injEq, V.ref.injEq, List.cons.injEq, tM0, tM1, rNewStrs, sgn_eq, split_dot, split_sp, split_nl, dot_len, sp_len, nl_len, cxOf_K, L2.start, List.length_cons, List.length_nil, List.replicate_succ, List.replicate_zero, Nat.reduceSub, Nat.zero_add, and_true, true_and, and_self, exists_and_left, exists_const, Bool.false_eq_true, if_false, if_true, ite_true, ite_false, reduceIte, decide_eq_true_eq, reduceCtorEq, Nat.reduceAdd, Nat.reduceLT, tMseq, tMret, tNdef1, tThru, tCallV, gFldC, tFldC, sFldC, sFldAugC, tMeth, tMethX, tMethS, tMake, tCKw, sDPut, tDGet2, tVeI, tOst, tWhy, tXf, tListZip, tCallX, tCallXU, tCallV, tCallVS, tLam1, tLamD, tCallS, tCls, tClsD, cx_cells, cx_scope, cx_N, cx_prog, cx_w, cx_base, cx_mg, cx_qual, tLstRg, tRg1, tRg2, HO.ins.injEq, HO.lst.injEq, HO.tup.injEq, HO.dK.injEq, upd_same, upd_upd, tBM, tBM0, tyV_lst, isL_lst, rAppend_ref, rExtend_ref, rClear_ref, rAdd_int, rSub_int, li_len, ne_len, Nat.reduceLT, Nat.reduceLeDiff, lk_number, lk_pattern, lk_work, lk_rank, lk_once, lk_gate, lk_group, lk_muted, lk_gone, pt_once, pt_gate, pt_group, pt_muted, pt_gone, lk_known, lk_policy, lk_most, lk_depth, lk_locks, lk_waiting, lk_store, lk_faulty, pt_depth, pt_locks, pt_waiting]
    refine ⟨a, ns, 23, rfl, hS, hn, by decide, by decide, fun H1 h l s1 n1 n2 S1 => ?_⟩
    simp only [tCutE, false_and, exists_false, false_or, or_false, tRet, tRetN, tAndV, tOrV, tNotV, tChain, rI, rI0, rU, tC, tCB, tCons, tNil, tVar, tOp, tUn, tTest, tB, tAnd, tOr, tNot, tIf, tIfS, tSeq, tAsg, tDrop, tNext, gName, gTup_ref, gCons_cons, gNil_nil, and_assoc, tYes, wipe, rEq, rNe, scal_ss, scal_ii, scal_bb, scal_ns, scal_sn, scal_nn, scal_in, scal_ni, tLc_eq, tFor_eq, iList, iTup, iStr, iRng1, iRng2, iZip, iEnum, gSub, tSl, rSetL_ref, rCat_ref, rRep_ref, rJoin_ref, rSlL_ref, rSlS_ref, rMulS_ref, rIxL_ref, rIxT_ref, rLenK_ref, rAll_ref, rIn_ref, tLst, tTup, tPar, tPar3, tAug, tPart, tNoPart, tCall, List.getElem?_cons_zero, List.getElem?_cons_succ, List.set_cons_zero, List.set_cons_succ, List.map_cons, List.map_nil, List.append_nil, List.nil_append, List.cons_append, Option.some.injEq, exists_eq_left', exists_eq_left, exists_eq_right, exists_eq_right', exists_eq', V.int.injEq, V.str.injEq, V.bl.injEq, V.ref.injEq, List.cons.injEq, tM0, tM1, rNewStrs, sgn_eq, split_dot, split_sp, split_nl, dot_len, sp_len, nl_len, cxOf_K, L2.start, List.length_cons, List.length_nil, List.replicate_succ, List.replicate_zero, Nat.reduceSub, Nat.zero_add, and_true, true_and, and_self, exists_and_left, exists_const, Bool.false_eq_true, if_false, if_true, ite_true, ite_false, reduceIte, decide_eq_true_eq, reduceCtorEq, Nat.reduceAdd, Nat.reduceLT, tMseq, tMret, tNdef1, tThru, tCallV, gFldC, tFldC, sFldC, sFldAugC, tMeth, tMethX, tMethS, tMake, tCKw, sDPut, tDGet2, tVeI, tOst, tWhy, tXf, tListZip, tCallX, tCallXU, tCallV, tCallVS, tLam1, tLamD, tCallS, tCls, tClsD, cx_cells, cx_scope, cx_N, cx_prog, cx_w, cx_base, cx_mg, cx_qual, tLstRg, tRg1, tRg2, HO.ins.injEq, HO.lst.injEq, HO.tup.injEq, HO.dK.injEq, upd_same, upd_upd, tBM, tBM0, tyV_lst, isL_lst, rAppend_ref, rExtend_ref, rClear_ref, rAdd_int, rSub_int, li_len, ne_len, Nat.reduceLT, Nat.reduceLeDiff, lk_number, lk_pattern, lk_work, lk_rank, lk_once, lk_gate, lk_group, lk_muted, lk_gone, pt_once, pt_gate, pt_group, pt_muted, pt_gone, lk_known, lk_policy, lk_most, lk_depth, lk_locks, lk_waiting, lk_store, lk_faulty, pt_depth, pt_locks, pt_waiting]
    refine ⟨by decide, fun lv nlv => ⟨by decide, by decide, ?_⟩⟩
    have S1' := S1.new (o := .lst (l4.map V.str)) nlv
    have T1' : Tab K _ := (hT.ext s1).new (o := .lst (l4.map V.str)) nlv
    have hlv1 : upd H1 lv (.lst (l4.map V.str)) lv = some (.lst (l4.map V.str)) := upd_same
    have nlv1 := S1.neD nlv
    obtain ⟨Pt, hPt⟩ : ∃ Pt : Nat → L2.St → Hp → Prop, ∀ i σ H', Pt i σ H' ↔ ∃ x3 x4 x5 x6 x7 x8 x9 x10 x11 x12 x13 x14 x15 x16, σ = [some (.ref a), some (.ref h), some (.ref lv), x3, x4, x5, x6, x7, x8, x9, x10, x11, x12, x13, x14, x15, x16] ∧ SrcOk H' h l ∧ Tab K H' ∧ H' lv = some (.lst (l4.map V.str)) := ⟨_, fun _ _ _ => Iff.rfl⟩
    refine forG walk_range Pt ((hPt _ _ _).mpr ⟨_, _, _, _, _, _, _, _, _, _, _, _, _, _, rfl, S1', T1', hlv1⟩) (fun _ _ _ _ _ => trivial) (fun i x σ H2 H2' hi hP hy => ?_) (fun σ H2 hP => ?_)
    rotate_left
    · obtain ⟨x3, x4, x5, x6, x7, x8, x9, x10, x11, x12, x13, x14, x15, x16, rfl, S2, T2, hlv2⟩ := (hPt _ _ _).mp hP
      simp only [tCutE, false_and, exists_false, false_or, or_false, tRet, tRetN, tAndV, tOrV, tNotV, tChain, rI, rI0, rU, tC, tCB, tCons, tNil, tVar, tOp, tUn, tTest, tB, tAnd, tOr, tNot, tIf, tIfS, tSeq, tAsg, tDrop, tNext, gName, gTup_ref, gCons_cons, gNil_nil, and_assoc, tYes, wipe, rEq, rNe, scal_ss, scal_ii, scal_bb, scal_ns, scal_sn, scal_nn, scal_in, scal_ni, tLc_eq, tFor_eq, iList, iTup, iStr, iRng1, iRng2, iZip, iEnum, gSub, tSl, rSetL_ref, rCat_ref, rRep_ref, rJoin_ref, rSlL_ref, rSlS_ref, rMulS_ref, rIxL_ref, rIxT_ref, rLenK_ref, rAll_ref, rIn_ref, tLst, tTup, tPar, tPar3, tAug, tPart, tNoPart, tCall, List.getElem?_cons_zero, List.getElem?_cons_succ, List.set_cons_zero, List.set_cons_succ, List.map_cons, List.map_nil, List.append_nil, List.nil_append, List.cons_append, Option.some.injEq, exists_eq_left', exists_eq_left, exists_eq_right, exists_eq_right', exists_eq', V.int.injEq, V.str.injEq, V.bl.injEq, V.ref.injEq, List.cons.injEq, tM0, tM1, rNewStrs, sgn_eq, split_dot, split_sp, split_nl, dot_len, sp_len, nl_len, cxOf_K, L2.start, List.length_cons, List.length_nil, List.replicate_succ, List.replicate_zero, Nat.reduceSub, Nat.zero_add, and_true, true_and, and_self, exists_and_left, exists_const, Bool.false_eq_true, if_false, if_true, ite_true, ite_false, reduceIte, decide_eq_true_eq, reduceCtorEq, Nat.reduceAdd, Nat.reduceLT, tMseq, tMret, tNdef1, tThru, tCallV, gFldC, tFldC, sFldC, sFldAugC, tMeth, tMethX, tMethS, tMake, tCKw, sDPut, tDGet2, tVeI, tOst, tWhy, tXf, tListZip, tCallX, tCallXU, tCallV, tCallVS, tLam1, tLamD, tCallS, tCls, tClsD, cx_cells, cx_scope, cx_N, cx_prog, cx_w, cx_base, cx_mg, cx_qual, tLstRg, tRg1, tRg2, HO.ins.injEq, HO.lst.injEq, HO.tup.injEq, HO.dK.injEq, upd_same, upd_upd, tBM, tBM0, tyV_lst, isL_lst, rAppend_ref, rExtend_ref, rClear_ref, rAdd_int, rSub_int, li_len, ne_len, Nat.reduceLT, Nat.reduceLeDiff, lk_number, lk_pattern, lk_work, lk_rank, lk_once, lk_gate, lk_group, lk_muted, lk_gone, pt_once, pt_gate, pt_group, pt_muted, pt_gone, lk_known, lk_policy, lk_most, lk_depth, lk_locks, lk_waiting, lk_store, lk_faulty, pt_depth, pt_locks, pt_waiting]
      refine ⟨⟨by decide, by decide, by decide⟩, h, l, 1000000, rfl, S2, by decide, by decide, fun H3 far xt3 S3 far0 far1 => ?_⟩
      have T3 : Tab K H3 := (drawF8 S2 S3 xt3 T2).tab
      clear hP S1 s1 n1 n2 hT S1' T1' hlv1 S2 T2 hlv2 xt3 S3
      simp only [tCutE, false_and, exists_false, false_or, or_false, tRet, tRetN, tAndV, tOrV, tNotV, tChain, rI, rI0, rU, tC, tCB, tCons, tNil, tVar, tOp, tUn, tTest, tB, tAnd, tOr, tNot, tIf, tIfS, tSeq, tAsg, tDrop, tNext, gName, gTup_ref, gCons_cons, gNil_nil, and_assoc, tYes, wipe, rEq, rNe, scal_ss, scal_ii, scal_bb, scal_ns, scal_sn, scal_nn, scal_in, scal_ni, tLc_eq, tFor_eq, iList, iTup, iStr, iRng1, iRng2, iZip, iEnum, gSub, tSl, rSetL_ref, rCat_ref, rRep_ref, rJoin_ref, rSlL_ref, rSlS_ref, rMulS_ref, rIxL_ref, rIxT_ref, rLenK_ref, rAll_ref, rIn_ref, tLst, tTup, tPar, tPar3, tAug, tPart, tNoPart, tCall, List.getElem?_cons_zero, List.getElem?_cons_succ, List.set_cons_zero, List.set_cons_succ, List.map_cons, List.map_nil, List.append_nil, List.nil_append, List.cons_append, Option.some.injEq, exists_eq_left', exists_eq_left, exists_eq_right, exists_eq_right', exists_eq', V.int.injEq, V.str.injEq, V.bl.injEq, V.ref.injEq, List.cons.injEq, tM0, tM1, rNewStrs, sgn_eq, split_dot, split_sp, split_nl, dot_len, sp_len, nl_len, cxOf_K, L2.start, List.length_cons, List.length_nil, List.replicate_succ, List.replicate_zero, Nat.reduceSub, Nat.zero_add, and_true, true_and, and_self, exists_and_left, exists_const, Bool.false_eq_true, if_false, if_true, ite_true, ite_false, reduceIte, decide_eq_true_eq, reduceCtorEq, Nat.reduceAdd, Nat.reduceLT, tMseq, tMret, tNdef1, tThru, tCallV, gFldC, tFldC, sFldC, sFldAugC, tMeth, tMethX, tMethS, tMake, tCKw, sDPut, tDGet2, tVeI, tOst, tWhy, tXf, tListZip, tCallX, tCallXU, tCallV, tCallVS, tLam1, tLamD, tCallS, tCls, tClsD, cx_cells, cx_scope, cx_N, cx_prog, cx_w, cx_base, cx_mg, cx_qual, tLstRg, tRg1, tRg2, HO.ins.injEq, HO.lst.injEq, HO.tup.injEq, HO.dK.injEq, upd_same, upd_upd, tBM, tBM0, tyV_lst, isL_lst, rAppend_ref, rExtend_ref, rClear_ref, rAdd_int, rSub_int, li_len, ne_len, Nat.reduceLT, Nat.reduceLeDiff, lk_number, lk_pattern, lk_work, lk_rank, lk_once, lk_gate, lk_group, lk_muted, lk_gone, pt_once, pt_gate, pt_group, pt_muted, pt_gone, lk_known, lk_policy, lk_most, lk_depth, lk_locks, lk_waiting, lk_store, lk_faulty, pt_depth, pt_locks, pt_waiting]
      refine ⟨T3, fun f c H4 e4 n4 T4 f0 f1 c1 C4 obs => ?_⟩
      refine kind_lamG (fr := ["_law_far"]) (dvs := []) (ws := [.int far]) (spN := spNew8 K []) (wd := "count") (R := fun H' => Same H4 H') C4 f1 c1
        (act_lam (N := ["_law_far"]) (ps := []) (nscope_by (by kernel_rfl)) rfl (fun ws vs H Q E h => ?_) (fun pm ctv us hl => ?_) (fun A outer s H vs ws Q E hr hl h => ?_))
        [16] rfl (by kernel_rfl) (nscope_by (N := ["_law_far"]) (ps := []) (by kernel_rfl)) (by rfl) (by rfl) (by rfl) (fun Qf Ef _ g2 => ⟨far, rfl, far0, rfl, fun H' s' => g2 "BadCount" 3 none rfl rfl (ref11_of T.e_rC) H' (fun dd e => by cases e) s'⟩) (fun H5 H6 s5 o5 u6 => ?_)
      · obtain ⟨_, _, _, rfl, _⟩ := h; rfl
      · match us, hl with
        | [], _ => rfl
      · obtain ⟨far, rfl, far0, rfl, h⟩ := h
        refine ⟨_, (pe_makeG (K_Net_1 T) (hr.mono (by first | decide | omega)) (by rfl) T.g_Net (passes_call (takes_of rfl rfl rfl rfl) (fun _ _ _ _ h => h)) (pa_cons (pe_op op_add pe_int (pv 0)) pa_nil)), ?_⟩
        simp only [startF, tCutE, false_and, exists_false, false_or, or_false, tRet, tRetN, tAndV, tOrV, tNotV, tChain, rI, rI0, rU, tC, tCB, tCons, tNil, tVar, tOp, tUn, tTest, tB, tAnd, tOr, tNot, tIf, tIfS, tSeq, tAsg, tDrop, tNext, gName, gTup_ref, gCons_cons, gNil_nil, and_assoc, tYes, wipe, rEq, rNe, scal_ss, scal_ii, scal_bb, scal_ns, scal_sn, scal_nn, scal_in, scal_ni, tLc_eq, tFor_eq, iList, iTup, iStr, iRng1, iRng2, iZip, iEnum, gSub, tSl, rSetL_ref, rCat_ref, rRep_ref, rJoin_ref, rSlL_ref, rSlS_ref, rMulS_ref, rIxL_ref, rIxT_ref, rLenK_ref, rAll_ref, rIn_ref, tLst, tTup, tPar, tPar3, tAug, tPart, tNoPart, tCall, List.getElem?_cons_zero, List.getElem?_cons_succ, List.set_cons_zero, List.set_cons_succ, List.map_cons, List.map_nil, List.append_nil, List.nil_append, List.cons_append, Option.some.injEq, exists_eq_left', exists_eq_left, exists_eq_right, exists_eq_right', exists_eq', V.int.injEq, V.str.injEq, V.bl.injEq, V.ref.injEq, List.cons.injEq, tM0, tM1, rNewStrs, sgn_eq, split_dot, split_sp, split_nl, dot_len, sp_len, nl_len, cxOf_K, L2.start, List.length_cons, List.length_nil, List.replicate_succ, List.replicate_zero, Nat.reduceSub, Nat.zero_add, and_true, true_and, and_self, exists_and_left, exists_const, Bool.false_eq_true, if_false, if_true, ite_true, ite_false, reduceIte, decide_eq_true_eq, reduceCtorEq, Nat.reduceAdd, Nat.reduceLT, tMseq, tMret, tNdef1, tThru, tCallV, gFldC, tFldC, sFldC, sFldAugC, tMeth, tMethX, tMethS, tMake, tCKw, sDPut, tDGet2, tVeI, tOst, tWhy, tXf, tListZip, tCallX, tCallXU, tCallV, tCallVS, tLam1, tLamD, tCallS, tCls, tClsD, cx_cells, cx_scope, cx_N, cx_prog, cx_w, cx_base, cx_mg, cx_qual, tLstRg, tRg1, tRg2, HO.ins.injEq, HO.lst.injEq, HO.tup.injEq, HO.dK.injEq, upd_same, upd_upd, tBM, tBM0, tyV_lst, isL_lst, rAppend_ref, rExtend_ref, rClear_ref, rAdd_int, rSub_int, li_len, ne_len, Nat.reduceLT, Nat.reduceLeDiff, lk_number, lk_pattern, lk_work, lk_rank, lk_once, lk_gate, lk_group, lk_muted, lk_gone, pt_once, pt_gate, pt_group, pt_muted, pt_gone, lk_known, lk_policy, lk_most, lk_depth, lk_locks, lk_waiting, lk_store, lk_faulty, pt_depth, pt_locks, pt_waiting]
        exact fun x dx nx ndx ne => ⟨x, dx, 21 + far, "stop", rfl, upd_same, fun _ => h _ (same_put (same_put (Same.refl _) ndx) nx), fun _ z => absurd z (by omega), fun _ z => absurd z (by omega)⟩
      have s6 := s5.trans (o5 u6)
      generalize delC _ H6 = H7 at s6 ⊢
      have T7 : Tab K H7 := T4.ext s6
      clear s6 u6 o5 s5 C4 T3 T4 e4 n4 f0 f1 c1
      refine fun T0 nT0 => ?_
      obtain ⟨s8, hT8⟩ := newF (H := H7) (o := .tup [V.int 0]) rfl nT0
      generalize upd H7 T0 _ = H8 at s8 hT8 ⊢
      have T8 : Tab K H8 := T7.ext s8
      refine ⟨T8, fun f c H9 e9 n9 T9 f0 f1 c1 C9 obs => ?_⟩
      have w9 : Fwd K No H8 H9 := .of_off T8 e9 n9 T9
      refine kind_lamG (fr := ["_law_far"]) (dvs := [.int 0]) (ws := [.int far]) (spN := spNew8 K [.int 0]) (wd := "count") (R := fun H' => Same H9 H') C9 f1 c1
        (act_lamD (T := T0) (dv := .int 0) (x := "_law_a") (N := ["_law_a", "_law_far"]) (nscope_by (by kernel_rfl)) rfl (fun ws vs H Q E h => ?_) (fun pm ctv u => ⟨_, rfl, rfl⟩) (fun A outer s H vs ws Q E hr hl h => ?_))
        [16] rfl (by kernel_rfl) (nscope_by (N := ["_law_a", "_law_far"]) (ps := ["_law_a"]) (by kernel_rfl)) (by rfl) (by rfl) (w9.tup hT8) (fun Qf Ef _ g2 => ⟨far, rfl, far0, rfl, fun H' s' => g2 "BadCount" 3 none rfl rfl (ref11_of T.e_rC) H' (fun dd e => by cases e) s'⟩) (fun H10 H11 s10 o10 u11 => ?_)
      · obtain ⟨_, _, _, rfl, _⟩ := h; rfl
      · obtain ⟨far, rfl, far0, rfl, h⟩ := h
        refine ⟨_, (pe_makeG (K_Net_1 T) (hr.mono (by first | decide | omega)) (by rfl) T.g_Net (passes_call (takes_of rfl rfl rfl rfl) (fun _ _ _ _ h => h)) (pa_cons (pe_op op_sub (pe_op op_sub pe_int pe_int) (pv 1)) pa_nil)), ?_⟩
        simp only [startF, tCutE, false_and, exists_false, false_or, or_false, tRet, tRetN, tAndV, tOrV, tNotV, tChain, rI, rI0, rU, tC, tCB, tCons, tNil, tVar, tOp, tUn, tTest, tB, tAnd, tOr, tNot, tIf, tIfS, tSeq, tAsg, tDrop, tNext, gName, gTup_ref, gCons_cons, gNil_nil, and_assoc, tYes, wipe, rEq, rNe, scal_ss, scal_ii, scal_bb, scal_ns, scal_sn, scal_nn, scal_in, scal_ni, tLc_eq, tFor_eq, iList, iTup, iStr, iRng1, iRng2, iZip, iEnum, gSub, tSl, rSetL_ref, rCat_ref, rRep_ref, rJoin_ref, rSlL_ref, rSlS_ref, rMulS_ref, rIxL_ref, rIxT_ref, rLenK_ref, rAll_ref, rIn_ref, tLst, tTup, tPar, tPar3, tAug, tPart, tNoPart, tCall, List.getElem?_cons_zero, List.getElem?_cons_succ, List.set_cons_zero, List.set_cons_succ, List.map_cons, List.map_nil, List.append_nil, List.nil_append, List.cons_append, Option.some.injEq, exists_eq_left', exists_eq_left, exists_eq_right, exists_eq_right', exists_eq', V.int.injEq, V.str.injEq, V.bl.injEq, V.ref.injEq, List.cons.injEq, tM0, tM1, rNewStrs, sgn_eq, split_dot, split_sp, split_nl, dot_len, sp_len, nl_len, cxOf_K, L2.start, List.length_cons, List.length_nil, List.replicate_succ, List.replicate_zero, Nat.reduceSub, Nat.zero_add, and_true, true_and, and_self, exists_and_left, exists_const, Bool.false_eq_true, if_false, if_true, ite_true, ite_false, reduceIte, decide_eq_true_eq, reduceCtorEq, Nat.reduceAdd, Nat.reduceLT, tMseq, tMret, tNdef1, tThru, tCallV, gFldC, tFldC, sFldC, sFldAugC, tMeth, tMethX, tMethS, tMake, tCKw, sDPut, tDGet2, tVeI, tOst, tWhy, tXf, tListZip, tCallX, tCallXU, tCallV, tCallVS, tLam1, tLamD, tCallS, tCls, tClsD, cx_cells, cx_scope, cx_N, cx_prog, cx_w, cx_base, cx_mg, cx_qual, tLstRg, tRg1, tRg2, HO.ins.injEq, HO.lst.injEq, HO.tup.injEq, HO.dK.injEq, upd_same, upd_upd, tBM, tBM0, tyV_lst, isL_lst, rAppend_ref, rExtend_ref, rClear_ref, rAdd_int, rSub_int, li_len, ne_len, Nat.reduceLT, Nat.reduceLeDiff, lk_number, lk_pattern, lk_work, lk_rank, lk_once, lk_gate, lk_group, lk_muted, lk_gone, pt_once, pt_gate, pt_group, pt_muted, pt_gone, lk_known, lk_policy, lk_most, lk_depth, lk_locks, lk_waiting, lk_store, lk_faulty, pt_depth, pt_locks, pt_waiting]
        exact fun x dx nx ndx ne => ⟨x, dx, 0 - 1 - far, "stop", rfl, upd_same, fun _ => h _ (same_put (same_put (Same.refl _) ndx) nx), fun z _ => absurd z (by omega), fun z _ => absurd z (by omega)⟩
      have s11 := s10.trans (o10 u11)
      generalize delC _ H11 = H12 at s11 ⊢
      refine ⟨by decide, fun p1 np1 => ⟨by decide, fun p2 np2 => ?_⟩⟩
      generalize hA : upd H12 p1 _ = Ha at np2 ⊢
      obtain ⟨sa, fa1⟩ := newF hA np1
      generalize hB : upd Ha p2 _ = Hb
      obtain ⟨sb, fb⟩ := newF hB np2
      refine ⟨by decide, by decide, by decide, fun p3 np3 => ?_⟩
      obtain ⟨sc, fc⟩ := newF (H := Hb) (o := .lst [V.str (Str.ofString "count"), V.str (Str.ofString "count")]) rfl np3
      refine ⟨.list ([("count" : Str), ("count" : Str)].map PyData.str), .list ([("count" : Str), ("count" : Str)].map PyData.str), .lst (.of (sc _ _ (sb _ _ fa1))) (.cons (.str _) (.cons (.str _) .nil)), .lst (.of fc) (.cons (.str _) (.cons (.str _) .nil)), shaped_strs (us := [("count" : Str), ("count" : Str)]) (by decide +kernel), shaped_strs (us := [("count" : Str), ("count" : Str)]) (by decide +kernel), ?_⟩
      have e5 : PyData.eqv (.list ([("count" : Str), ("count" : Str)].map PyData.str)) (.list ([("count" : Str), ("count" : Str)].map PyData.str)) = decide ([("count" : Str), ("count" : Str)] = [("count" : Str), ("count" : Str)]) := by
        rw [PyData.eqv]
        exact eqv_strs _ _
      rw [e5, decide_eq_true rfl]
      exact q _
    · obtain ⟨x3, x4, x5, x6, x7, x8, x9, x10, x11, x12, x13, x14, x15, x16, rfl, S2, T2, hlv2⟩ := (hPt _ _ _).mp hP
      obtain ⟨rfl, rfl⟩ := hy
      clear hP S1 S1' T1' hlv1 s1 n1 n2 hT
      have Z2 : B8 K H2' h l lv := ⟨S2, T2, hlv2⟩
      clear S2 T2 hlv2
      simp only [tCutE, false_and, exists_false, false_or, or_false, tRet, tRetN, tAndV, tOrV, tNotV, tChain, rI, rI0, rU, tC, tCB, tCons, tNil, tVar, tOp, tUn, tTest, tB, tAnd, tOr, tNot, tIf, tIfS, tSeq, tAsg, tDrop, tNext, gName, gTup_ref, gCons_cons, gNil_nil, and_assoc, tYes, wipe, rEq, rNe, scal_ss, scal_ii, scal_bb, scal_ns, scal_sn, scal_nn, scal_in, scal_ni, tLc_eq, tFor_eq, iList, iTup, iStr, iRng1, iRng2, iZip, iEnum, gSub, tSl, rSetL_ref, rCat_ref, rRep_ref, rJoin_ref, rSlL_ref, rSlS_ref, rMulS_ref, rIxL_ref, rIxT_ref, rLenK_ref, rAll_ref, rIn_ref, tLst, tTup, tPar, tPar3, tAug, tPart, tNoPart, tCall, List.getElem?_cons_zero, List.getElem?_cons_succ, List.set_cons_zero, List.set_cons_succ, List.map_cons, List.map_nil, List.append_nil, List.nil_append, List.cons_append, Option.some.injEq, exists_eq_left', exists_eq_left, exists_eq_right, exists_eq_right', exists_eq', V.int.injEq, V.str.injEq, V.bl.injEq, V.ref.injEq, List.cons.injEq, tM0, tM1, rNewStrs, sgn_eq, split_dot, split_sp, split_nl, dot_len, sp_len, nl_len, cxOf_K, L2.start, List.length_cons, List.length_nil, List.replicate_succ, List.replicate_zero, Nat.reduceSub, Nat.zero_add, and_true, true_and, and_self, exists_and_left, exists_const, Bool.false_eq_true, if_false, if_true, ite_true, ite_false, reduceIte, decide_eq_true_eq, reduceCtorEq, Nat.reduceAdd, Nat.reduceLT, tMseq, tMret, tNdef1, tThru, tCallV, gFldC, tFldC, sFldC, sFldAugC, tMeth, tMethX, tMethS, tMake, tCKw, sDPut, tDGet2, tVeI, tOst, tWhy, tXf, tListZip, tCallX, tCallXU, tCallV, tCallVS, tLam1, tLamD, tCallS, tCls, tClsD, cx_cells, cx_scope, cx_N, cx_prog, cx_w, cx_base, cx_mg, cx_qual, tLstRg, tRg1, tRg2, HO.ins.injEq, HO.lst.injEq, HO.tup.injEq, HO.dK.injEq, upd_same, upd_upd, tBM, tBM0, tyV_lst, isL_lst, rAppend_ref, rExtend_ref, rClear_ref, rAdd_int, rSub_int, li_len, ne_len, Nat.reduceLT, Nat.reduceLeDiff, lk_number, lk_pattern, lk_work, lk_rank, lk_once, lk_gate, lk_group, lk_muted, lk_gone, pt_once, pt_gate, pt_group, pt_muted, pt_gone, lk_known, lk_policy, lk_most, lk_depth, lk_locks, lk_waiting, lk_store, lk_faulty, pt_depth, pt_locks, pt_waiting]
      refine ⟨h, l, 21, rfl, Z2.src, by decide, by decide, fun H3 k0 xt3 S3 k01 k02 => ⟨by decide, fun pk npk => ?_⟩⟩
      have Z3 := Z2.draw xt3 S3
      obtain ⟨s4, f4⟩ := newF (H := H3) (o := .lst [V.int 0, V.int 1, V.int 2, V.int 20, V.int k0]) rfl npk
      have npk' := S3.nD npk
      generalize upd H3 pk (.lst [V.int 0, V.int 1, V.int 2, V.int 20, V.int k0]) = H4 at s4 f4 ⊢
      have Z4 := Z3.same s4
      refine ⟨h, l, 5, rfl, Z4.src, by decide, by decide, fun H5 r xt5 S5 r1 r2 => ?_⟩
      have Z5 := Z4.draw xt5 S5
      have f5 := xt5 _ _ npk' f4
      obtain ⟨kp, hkp, kp0, kp1⟩ : ∃ kp, atI [V.int 0, V.int 1, V.int 2, V.int 20, V.int k0] r = some (.int kp) ∧ 0 ≤ kp ∧ kp ≤ 20 := by
        have : r = 0 ∨ r = 1 ∨ r = 2 ∨ r = 3 ∨ r = 4 := by omega
        rcases this with rfl | rfl | rfl | rfl | rfl
        · exact ⟨0, rfl, by decide, by decide⟩
        · exact ⟨1, rfl, by decide, by decide⟩
        · exact ⟨2, rfl, by decide, by decide⟩
        · exact ⟨20, rfl, by decide, by decide⟩
        · exact ⟨k0, rfl, by omega, by omega⟩
      refine ⟨pk, _, r, _, rfl, rfl, .of f5, hkp, fun na dx f1 f2 f3 => ⟨na, dx, kp, "stop", rfl, upd_same, fun z => absurd ⟨kp0, kp1⟩ z, fun _ _ z => absurd (.inl rfl) z, fun _ _ _ H7 kn wt st fl k3 g1 g2 g3 g4 g5 m1 m2 m3 e1 e2 e3 e4 => ⟨rfl, ?_⟩⟩⟩
      obtain ⟨s7, N7⟩ := net_new T Z5.tab f1 f2 k3 g1 g2 g3 g4 g5 m1 m2 m3 kp1
      have Z7 := Z5.same s7
      have oldF : ∀ b xs, H5 b = some (.lst xs) → ¬ Foot na ⟨dx, kn, wt, st, fl, "stop", kp, 0, 0, [], [], [], []⟩ b := fun b xs hb z => by
        have s6 : Same H5 (upd (upd H5 dx (.own na)) na (.ins (NC K) dx [])) := same_put (same_put (Same.refl _) f2) f1
        have hb6 := s6 _ _ hb
        unfold Foot at z
        rcases z with z | z | z | z | z | z | z
        · rw [z, f1] at hb; cases hb
        · rw [z, show upd (upd H5 dx (.own na)) na (.ins (NC K) dx []) kn = none from e1] at hb6; cases hb6
        · rw [z, show upd (upd H5 dx (.own na)) na (.ins (NC K) dx []) wt = none from e2] at hb6; cases hb6
        · rw [z, show upd (upd H5 dx (.own na)) na (.ins (NC K) dx []) st = none from e3] at hb6; cases hb6
        · rw [z, show upd (upd H5 dx (.own na)) na (.ins (NC K) dx []) fl = none from e4] at hb6; cases hb6
        · cases z
        · cases z
      generalize hN0 : (⟨dx, kn, wt, st, fl, "stop", kp, 0, 0, [], [], [], []⟩ : NetS) = N0 at N7 oldF
      have idle0 : N0.depth = 0 ∧ N0.locks = 0 ∧ N0.wts = [] ∧ N0.ls = [] := by rw [← hN0]; exact ⟨rfl, rfl, rfl, rfl⟩
      have most0 : N0.most = kp := by rw [← hN0]
      have sts0 : N0.sts = [] := by rw [← hN0]
      refine ⟨⟨_, .of Z7.hlv⟩, lc_empties l4 (walk_listm l4 V.str) (by decide) (fun H8 s8 => s8.seq (.of Z7.hlv)) (fun _ _ _ _ hy => hy.1) (fun j ln x H8 H8' R hj s8 hy r => ?_) (fun D H8 ts ps nD s8 hD8 pl pn pe ht => ?_)⟩
      · obtain ⟨rfl, ln', hln, rfl⟩ := hy
        rw [hj] at hln; cases hln
        simp only [tCutE, false_and, exists_false, false_or, or_false, tRet, tRetN, tAndV, tOrV, tNotV, tChain, rI, rI0, rU, tC, tCB, tCons, tNil, tVar, tOp, tUn, tTest, tB, tAnd, tOr, tNot, tIf, tIfS, tSeq, tAsg, tDrop, tNext, gName, gTup_ref, gCons_cons, gNil_nil, and_assoc, tYes, wipe, rEq, rNe, scal_ss, scal_ii, scal_bb, scal_ns, scal_sn, scal_nn, scal_in, scal_ni, tLc_eq, tFor_eq, iList, iTup, iStr, iRng1, iRng2, iZip, iEnum, gSub, tSl, rSetL_ref, rCat_ref, rRep_ref, rJoin_ref, rSlL_ref, rSlS_ref, rMulS_ref, rIxL_ref, rIxT_ref, rLenK_ref, rAll_ref, rIn_ref, tLst, tTup, tPar, tPar3, tAug, tPart, tNoPart, tCall, List.getElem?_cons_zero, List.getElem?_cons_succ, List.set_cons_zero, List.set_cons_succ, List.map_cons, List.map_nil, List.append_nil, List.nil_append, List.cons_append, Option.some.injEq, exists_eq_left', exists_eq_left, exists_eq_right, exists_eq_right', exists_eq', V.int.injEq, V.str.injEq, V.bl.injEq, V.ref.injEq, List.cons.injEq, tM0, tM1, rNewStrs, sgn_eq, split_dot, split_sp, split_nl, dot_len, sp_len, nl_len, cxOf_K, L2.start, List.length_cons, List.length_nil, List.replicate_succ, List.replicate_zero, Nat.reduceSub, Nat.zero_add, and_true, true_and, and_self, exists_and_left, exists_const, Bool.false_eq_true, if_false, if_true, ite_true, ite_false, reduceIte, decide_eq_true_eq, reduceCtorEq, Nat.reduceAdd, Nat.reduceLT, tMseq, tMret, tNdef1, tThru, tCallV, gFldC, tFldC, sFldC, sFldAugC, tMeth, tMethX, tMethS, tMake, tCKw, sDPut, tDGet2, tVeI, tOst, tWhy, tXf, tListZip, tCallX, tCallXU, tCallV, tCallVS, tLam1, tLamD, tCallS, tCls, tClsD, cx_cells, cx_scope, cx_N, cx_prog, cx_w, cx_base, cx_mg, cx_qual, tLstRg, tRg1, tRg2, HO.ins.injEq, HO.lst.injEq, HO.tup.injEq, HO.dK.injEq, upd_same, upd_upd, tBM, tBM0, tyV_lst, isL_lst, rAppend_ref, rExtend_ref, rClear_ref, rAdd_int, rSub_int, li_len, ne_len, Nat.reduceLT, Nat.reduceLeDiff, lk_number, lk_pattern, lk_work, lk_rank, lk_once, lk_gate, lk_group, lk_muted, lk_gone, pt_once, pt_gate, pt_group, pt_muted, pt_gone, lk_known, lk_policy, lk_most, lk_depth, lk_locks, lk_waiting, lk_store, lk_faulty, pt_depth, pt_locks, pt_waiting]
        exact ⟨Nat.zero_le _, fun p np => ⟨by decide, fun t nt => r p t np nt⟩⟩
      have Z8 := Z7.same s8
      obtain ⟨p0, p1, p2, p3, rfl⟩ : ∃ p0 p1 p2 p3, ps = [p0, p1, p2, p3] := by
        match ps, pl with
        | [p0, p1, p2, p3], _ => exact ⟨p0, p1, p2, p3, rfl⟩
      obtain ⟨pA, hpA⟩ : ∃ pA : Nat → Addr, pA = fun i => [p0, p1, p2, p3].getD i 0 := ⟨_, rfl⟩
      have tl : ts.length = 4 := ht.len
      obtain ⟨t0, t1, t2, t3, rfl⟩ : ∃ t0 t1 t2 t3, ts = [t0, t1, t2, t3] := by
        match ts, tl with
        | [t0, t1, t2, t3], _ => exact ⟨t0, t1, t2, t3, rfl⟩
      obtain ⟨h0, h1, h2, h3, _⟩ : TupsAt H8 [t0, t1, t2, t3] [[V.str "a", V.ref p0], [V.str "a.b", V.ref p1], [V.str "b", V.ref p2], [V.str "ab", V.ref p3]] := ht
      refine ⟨D, rfl, [t0, t1, t2, t3], .of hD8, kv8 pA, ?_, fun sd nsd => ?_⟩
      · rw [hpA]
        exact .cons (.of h0) (.cons (.of h1) (.cons (.of h2) (.cons (.of h3) .nil)))
      rw [merge8]
      have i4 : ∀ {i : Nat}, i < 4 → pA i ∈ [p0, p1, p2, p3] := fun {i} hi => by
        rw [hpA]
        have : i = 0 ∨ i = 1 ∨ i = 2 ∨ i = 3 := by omega
        rcases this with rfl | rfl | rfl | rfl <;> simp
      obtain ⟨s9, hsd9⟩ := newF (H := H8) (o := .dK (kv8 pA)) rfl nsd
      generalize upd H8 sd (.dK (kv8 pA)) = H9 at s9 hsd9 ⊢
      have Z9 := Z8.same s9
      have W9 : S8 K H9 h l na N0 lv sd pA (fun _ => []) (fun _ => []) := by
        obtain ⟨m, pp, cs, y1, y2, _⟩ := id Z5.src
        have pnew : ∀ {i : Nat}, i < 4 → H7 (pA i) = none := fun {i} hi => (pe _ (i4 hi)).2.1
        refine ⟨Z9.src, Z9.tab, (N7.same s8).same s9, Z9.hlv, hsd9, fun z => ?_, fun i hi => s9 _ _ (pe _ (i4 hi)).1, (fun _ _ z hz => nomatch hz), (fun _ _ z hz => nomatch hz), fun i hi => by rw [sts0]; rfl, fun i hi j hj e => ?_, fun i hi => ⟨(ne_of_none (s7 _ _ y1) (pnew hi)).symm, (ne_of_none (s7 _ _ y2) (pnew hi)).symm⟩, fun b hb => ?_, fun z => ?_, (fun _ _ z hz => nomatch hz), (fun _ _ z hz => nomatch hz), idle0, (fun x hx => by rw [sts0] at hx; cases hx), by rw [sts0]; exact List.nodup_nil⟩
        · rw [z, s8 _ _ N7.st] at nsd; cases nsd
        · rw [hpA] at e
          simp only [List.nodup_cons, List.mem_cons, List.not_mem_nil, or_false, not_or, List.nodup_nil, and_true, not_false_eq_true] at pn
          obtain ⟨⟨a1, a2, a3⟩, ⟨b2, b3⟩, c3⟩ := pn
          have q1 : i = 0 ∨ i = 1 ∨ i = 2 ∨ i = 3 := by omega
          have q2 : j = 0 ∨ j = 1 ∨ j = 2 ∨ j = 3 := by omega
          rcases q1 with rfl | rfl | rfl | rfl <;> rcases q2 with rfl | rfl | rfl | rfl <;> simp at e <;> first | rfl | (exact absurd e ‹_›) | (exact absurd e.symm ‹_›)
        · rcases hb with rfl | rfl | ⟨i, hi, rfl⟩
          · exact oldF _ _ y1
          · exact oldF _ _ y2
          · exact fun z => N7.dom z (pnew hi)
        · rcases z with z | z | ⟨i, hi, z⟩
          · exact Z5.ne.1 z
          · exact Z5.ne.2 z
          · have := Z7.hlv
            rw [z, pnew hi] at this; cases this
      clear Z9 Z8 Z7 Z5 Z4 Z3 Z2 s9 hsd9 s8 s7 pe h0 h1 h2 h3 hD8 nD nsd N7 oldF g1 g2 g3 g4 g5 e1 e2 e3 e4 k3 f1 f2 f3 f4 f5 s4 npk npk' xt3 xt5 S3 S5
      refine ⟨h, l, 50, rfl, W9.src, by decide, by decide, fun H10 nt xt10 S10 nt0 nt1 => ⟨_, rfl, by omega, by omega, ?_⟩⟩
      have W10 := W9.draw xt10 S10
      obtain ⟨Pa, hPa⟩ : ∃ Pa : Nat → L2.St → Hp → Prop, ∀ j σ H', Pa j σ H' ↔ ∃ x7 x8 N zl zn, σ = [some (.ref a), some (.ref h), some (.ref lv), some (.int (0 + (i : Int))), some (.int kp), some (.ref na), some (.ref sd), x7, x8, x9, x10, x11, x12, x13, x14, x15, x16] ∧ S8 K H' h l na N lv sd pA zl zn ∧ N.most = kp ∧ ∀ i < 4, (zn i).map (·.2) = last8 kp.toNat ((zl i).map (·.2)) ∧ (zl i).length ≤ j := ⟨_, fun _ _ _ => Iff.rfl⟩
      refine forG walk_range Pa ((hPa _ _ _).mpr ⟨_, _, N0, _, _, rfl, W10, most0, fun i hi => ⟨by unfold last8; simp, Nat.zero_le _⟩⟩) (fun _ _ _ _ _ => trivial) (fun j y σ H11 H11' hj hP hy => ?_) (fun σ H11 hP => ?_)
      · obtain ⟨x7, x8, N, zl, zn, rfl, W11, mo, rel⟩ := (hPa _ _ _).mp hP
        obtain ⟨rfl, rfl⟩ := hy
        simp only [tDGet, tCutE, false_and, exists_false, false_or, or_false, tRet, tRetN, tAndV, tOrV, tNotV, tChain, rI, rI0, rU, tC, tCB, tCons, tNil, tVar, tOp, tUn, tTest, tB, tAnd, tOr, tNot, tIf, tIfS, tSeq, tAsg, tDrop, tNext, gName, gTup_ref, gCons_cons, gNil_nil, and_assoc, tYes, wipe, rEq, rNe, scal_ss, scal_ii, scal_bb, scal_ns, scal_sn, scal_nn, scal_in, scal_ni, tLc_eq, tFor_eq, iList, iTup, iStr, iRng1, iRng2, iZip, iEnum, gSub, tSl, rSetL_ref, rCat_ref, rRep_ref, rJoin_ref, rSlL_ref, rSlS_ref, rMulS_ref, rIxL_ref, rIxT_ref, rLenK_ref, rAll_ref, rIn_ref, tLst, tTup, tPar, tPar3, tAug, tPart, tNoPart, tCall, List.getElem?_cons_zero, List.getElem?_cons_succ, List.set_cons_zero, List.set_cons_succ, List.map_cons, List.map_nil, List.append_nil, List.nil_append, List.cons_append, Option.some.injEq, exists_eq_left', exists_eq_left, exists_eq_right, exists_eq_right', exists_eq', V.int.injEq, V.str.injEq, V.bl.injEq, V.ref.injEq, List.cons.injEq, tM0, tM1, rNewStrs, sgn_eq, split_dot, split_sp, split_nl, dot_len, sp_len, nl_len, cxOf_K, L2.start, List.length_cons, List.length_nil, List.replicate_succ, List.replicate_zero, Nat.reduceSub, Nat.zero_add, and_true, true_and, and_self, exists_and_left, exists_const, Bool.false_eq_true, if_false, if_true, ite_true, ite_false, reduceIte, decide_eq_true_eq, reduceCtorEq, Nat.reduceAdd, Nat.reduceLT, tMseq, tMret, tNdef1, tThru, tCallV, gFldC, tFldC, sFldC, sFldAugC, tMeth, tMethX, tMethS, tMake, tCKw, sDPut, tDGet2, tVeI, tOst, tWhy, tXf, tListZip, tCallX, tCallXU, tCallV, tCallVS, tLam1, tLamD, tCallS, tCls, tClsD, cx_cells, cx_scope, cx_N, cx_prog, cx_w, cx_base, cx_mg, cx_qual, tLstRg, tRg1, tRg2, HO.ins.injEq, HO.lst.injEq, HO.tup.injEq, HO.dK.injEq, upd_same, upd_upd, tBM, tBM0, tyV_lst, isL_lst, rAppend_ref, rExtend_ref, rClear_ref, rAdd_int, rSub_int, li_len, ne_len, Nat.reduceLT, Nat.reduceLeDiff, lk_number, lk_pattern, lk_work, lk_rank, lk_once, lk_gate, lk_group, lk_muted, lk_gone, pt_once, pt_gate, pt_group, pt_muted, pt_gone, lk_known, lk_policy, lk_most, lk_depth, lk_locks, lk_waiting, lk_store, lk_faulty, pt_depth, pt_locks, pt_waiting]
        refine ⟨h, l, 4, rfl, W11.src, by decide, by decide, fun H12 r xt12 S12 r1 r2 => ?_⟩
        have W12 := W11.draw xt12 S12
        obtain ⟨m, hm, er⟩ : ∃ m : Nat, m < 4 ∧ r = (m : Int) := ⟨r.toNat, by omega, by omega⟩
        subst er
        have hat : atI (l4.map V.str) (m : Int) = some (.str (l4.getD m "")) := by
          have : m = 0 ∨ m = 1 ∨ m = 2 ∨ m = 3 := by omega
          rcases this with rfl | rfl | rfl | rfl <;> rfl
        refine ⟨lv, _, (m : Int), _, rfl, rfl, .of W12.hlv, hat, _, _, W12.net.net, noN, by decide, fun u nu => ?_⟩
        obtain ⟨s13, hu13⟩ := newF (H := H12) (o := .lst [V.int (0 + (j : Int))]) rfl nu
        generalize upd H12 u (.lst [V.int (0 + (j : Int))]) = H13 at s13 hu13 ⊢
        have W13 := W12.same s13
        refine tell8 W13 hm hu13 (W12.nmut nu) (fun _ H14 N' W14 mo14 kp14 => ?_)
        refine ⟨_, dg8 W14 hm, .inl ⟨rfl, _, .of (W14.hp m hm)⟩, by decide, fun u2 nu2 => ?_⟩
        obtain ⟨s15, hu15⟩ := newF (H := H14) (o := .lst [V.int (0 + (j : Int))]) rfl nu2
        generalize upd H14 u2 (.lst [V.int (0 + (j : Int))]) = H15 at s15 hu15 ⊢
        have W15 := W14.same s15
        have hl15 := (rel m hm).2
        rw [rAppend_ref]
        refine ⟨_, W15.hp m hm, by unfold zV; rw [List.length_map]; exact smallLt (by omega), (hPa _ _ _).mpr ⟨_, _, N', _, _, rfl, W15.app hm hu15 (W14.nmut nu2), by rw [mo14, mo], fun i2 hi2 => ?_⟩⟩
        unfold set8
        by_cases e : i2 = m
        · rw [if_pos e, if_pos e]
          refine ⟨?_, by rw [List.length_append]; have := (rel m hm).2; simp; omega⟩
          unfold told8
          rw [mo]
          by_cases hk : 0 < kp
          · rw [if_pos hk, last8_map, List.map_append, (rel m hm).1, List.map_append]
            exact last8_app _ (by omega) _ _
          · rw [if_neg hk, (rel m hm).1]
            have : kp.toNat = 0 := by omega
            unfold last8
            rw [this, List.drop_of_length_le (by simp), List.drop_of_length_le (by simp)]
        · rw [if_neg e, if_neg e]
          exact ⟨(rel i2 hi2).1, Nat.le_succ_of_le (rel i2 hi2).2⟩
      · obtain ⟨x7, x8, N, zl, zn, rfl, W11, mo, rel⟩ := (hPa _ _ _).mp hP
        clear hP
        have hzl : ∀ i < 4, (zl i).length ≤ 50 := fun i hi => by have := (rel i hi).2; omega
        have hzn : ∀ i < 4, (zn i).length ≤ 50 := fun i hi => by
          have := congrArg List.length (rel i hi).1
          have h2 := hzl i hi
          unfold last8 at this
          simp only [List.length_map, List.length_drop] at this
          omega
        have rel1 : ∀ i < 4, (zn i).map (·.2) = last8 kp.toNat ((zl i).map (·.2)) := fun i hi => (rel i hi).1
        clear rel
        simp only [tDGet, tCutE, false_and, exists_false, false_or, or_false, tRet, tRetN, tAndV, tOrV, tNotV, tChain, rI, rI0, rU, tC, tCB, tCons, tNil, tVar, tOp, tUn, tTest, tB, tAnd, tOr, tNot, tIf, tIfS, tSeq, tAsg, tDrop, tNext, gName, gTup_ref, gCons_cons, gNil_nil, and_assoc, tYes, wipe, rEq, rNe, scal_ss, scal_ii, scal_bb, scal_ns, scal_sn, scal_nn, scal_in, scal_ni, tLc_eq, tFor_eq, iList, iTup, iStr, iRng1, iRng2, iZip, iEnum, gSub, tSl, rSetL_ref, rCat_ref, rRep_ref, rJoin_ref, rSlL_ref, rSlS_ref, rMulS_ref, rIxL_ref, rIxT_ref, rLenK_ref, rAll_ref, rIn_ref, tLst, tTup, tPar, tPar3, tAug, tPart, tNoPart, tCall, List.getElem?_cons_zero, List.getElem?_cons_succ, List.set_cons_zero, List.set_cons_succ, List.map_cons, List.map_nil, List.append_nil, List.nil_append, List.cons_append, Option.some.injEq, exists_eq_left', exists_eq_left, exists_eq_right, exists_eq_right', exists_eq', V.int.injEq, V.str.injEq, V.bl.injEq, V.ref.injEq, List.cons.injEq, tM0, tM1, rNewStrs, sgn_eq, split_dot, split_sp, split_nl, dot_len, sp_len, nl_len, cxOf_K, L2.start, List.length_cons, List.length_nil, List.replicate_succ, List.replicate_zero, Nat.reduceSub, Nat.zero_add, and_true, true_and, and_self, exists_and_left, exists_const, Bool.false_eq_true, if_false, if_true, ite_true, ite_false, reduceIte, decide_eq_true_eq, reduceCtorEq, Nat.reduceAdd, Nat.reduceLT, tMseq, tMret, tNdef1, tThru, tCallV, gFldC, tFldC, sFldC, sFldAugC, tMeth, tMethX, tMethS, tMake, tCKw, sDPut, tDGet2, tVeI, tOst, tWhy, tXf, tListZip, tCallX, tCallXU, tCallV, tCallVS, tLam1, tLamD, tCallS, tCls, tClsD, cx_cells, cx_scope, cx_N, cx_prog, cx_w, cx_base, cx_mg, cx_qual, tLstRg, tRg1, tRg2, HO.ins.injEq, HO.lst.injEq, HO.tup.injEq, HO.dK.injEq, upd_same, upd_upd, tBM, tBM0, tyV_lst, isL_lst, rAppend_ref, rExtend_ref, rClear_ref, rAdd_int, rSub_int, li_len, ne_len, Nat.reduceLT, Nat.reduceLeDiff, lk_number, lk_pattern, lk_work, lk_rank, lk_once, lk_gate, lk_group, lk_muted, lk_gone, pt_once, pt_gate, pt_group, pt_muted, pt_gone, lk_known, lk_policy, lk_most, lk_depth, lk_locks, lk_waiting, lk_store, lk_faulty, pt_depth, pt_locks, pt_waiting]
        obtain ⟨Pb, hPb⟩ : ∃ Pb : Nat → L2.St → Hp → Prop, ∀ j σ H', Pb j σ H' ↔ ∃ x7 x9, σ = [some (.ref a), some (.ref h), some (.ref lv), some (.int (0 + (i : Int))), some (.int kp), some (.ref na), some (.ref sd), x7, x8, x9, x10, x11, x12, x13, x14, x15, x16] ∧ S8 K H' h l na N lv sd pA zl zn := ⟨_, fun _ _ _ => Iff.rfl⟩
        refine ⟨⟨_, .of W11.hlv⟩, forG (walk_listm l4 V.str) Pb ((hPb _ _ _).mpr ⟨_, _, rfl, W11⟩) (fun j σ H' hj hP => ?_) (fun j y σ H12 H12' hj hP hy => ?_) (fun σ H12 hP => ?_)⟩
        · obtain ⟨_, _, _, W⟩ := (hPb _ _ _).mp hP
          exact .of W.hlv
        · obtain ⟨x7, x9, rfl, W12⟩ := (hPb _ _ _).mp hP
          obtain ⟨rfl, ln, hln, rfl⟩ := hy
          have hj4 : j < 4 := hj
          obtain rfl : ln = l4.getD j "" := by
            rw [List.getD_eq_getElem?_getD, hln]; rfl
          simp only [tDGet, tCutE, false_and, exists_false, false_or, or_false, tRet, tRetN, tAndV, tOrV, tNotV, tChain, rI, rI0, rU, tC, tCB, tCons, tNil, tVar, tOp, tUn, tTest, tB, tAnd, tOr, tNot, tIf, tIfS, tSeq, tAsg, tDrop, tNext, gName, gTup_ref, gCons_cons, gNil_nil, and_assoc, tYes, wipe, rEq, rNe, scal_ss, scal_ii, scal_bb, scal_ns, scal_sn, scal_nn, scal_in, scal_ni, tLc_eq, tFor_eq, iList, iTup, iStr, iRng1, iRng2, iZip, iEnum, gSub, tSl, rSetL_ref, rCat_ref, rRep_ref, rJoin_ref, rSlL_ref, rSlS_ref, rMulS_ref, rIxL_ref, rIxT_ref, rLenK_ref, rAll_ref, rIn_ref, tLst, tTup, tPar, tPar3, tAug, tPart, tNoPart, tCall, List.getElem?_cons_zero, List.getElem?_cons_succ, List.set_cons_zero, List.set_cons_succ, List.map_cons, List.map_nil, List.append_nil, List.nil_append, List.cons_append, Option.some.injEq, exists_eq_left', exists_eq_left, exists_eq_right, exists_eq_right', exists_eq', V.int.injEq, V.str.injEq, V.bl.injEq, V.ref.injEq, List.cons.injEq, tM0, tM1, rNewStrs, sgn_eq, split_dot, split_sp, split_nl, dot_len, sp_len, nl_len, cxOf_K, L2.start, List.length_cons, List.length_nil, List.replicate_succ, List.replicate_zero, Nat.reduceSub, Nat.zero_add, and_true, true_and, and_self, exists_and_left, exists_const, Bool.false_eq_true, if_false, if_true, ite_true, ite_false, reduceIte, decide_eq_true_eq, reduceCtorEq, Nat.reduceAdd, Nat.reduceLT, tMseq, tMret, tNdef1, tThru, tCallV, gFldC, tFldC, sFldC, sFldAugC, tMeth, tMethX, tMethS, tMake, tCKw, sDPut, tDGet2, tVeI, tOst, tWhy, tXf, tListZip, tCallX, tCallXU, tCallV, tCallVS, tLam1, tLamD, tCallS, tCls, tClsD, cx_cells, cx_scope, cx_N, cx_prog, cx_w, cx_base, cx_mg, cx_qual, tLstRg, tRg1, tRg2, HO.ins.injEq, HO.lst.injEq, HO.tup.injEq, HO.dK.injEq, upd_same, upd_upd, tBM, tBM0, tyV_lst, isL_lst, rAppend_ref, rExtend_ref, rClear_ref, rAdd_int, rSub_int, li_len, ne_len, Nat.reduceLT, Nat.reduceLeDiff, lk_number, lk_pattern, lk_work, lk_rank, lk_once, lk_gate, lk_group, lk_muted, lk_gone, pt_once, pt_gate, pt_group, pt_muted, pt_gone, lk_known, lk_policy, lk_most, lk_depth, lk_locks, lk_waiting, lk_store, lk_faulty, pt_depth, pt_locks, pt_waiting]
          refine ⟨_, _, W12.net.net, noN, na, N, _, rfl, W12.net, (l4_ok hj4).2.1, fun z => (by rw [(l4_ok hj4).1] at z; cases z), fun _ H13 p s13 np hp => ?_⟩
          have W13 := W12.same s13
          rw [W12.hg j hj4] at hp
          refine ⟨_, dg8 W13 hj4, _, dg8 W13 hj4, ?_⟩
          have hseq : SqL K H13 (pA j) (zV (zl j)) := .of (W13.hp j hj4)
          have hlz : (zV (zl j)).length = (zl j).length := by unfold zV; rw [List.length_map]
          rw [rLenK_ref]
          refine ⟨_, .inl hseq, _, rfl, ?_⟩
          rw [rSlL_ref]
          refine ⟨_, hseq, fun p2 np2 => ?_⟩
          rw [cut8 _ kp0]
          obtain ⟨s14, f14⟩ := newF (H := H13) (o := .lst (last8 kp.toNat (zV (zl j)))) rfl np2
          generalize upd H13 p2 (.lst (last8 kp.toNat (zV (zl j)))) = H14 at s14 f14 ⊢
          have W14 := W13.same s14
          have hp14 := s14 _ _ hp
          have dk := dok8 ((zn j).map (·.2)) (by rw [List.length_map]; have := hzn j hj4; omega)
          have f14' : H14 p2 = some (.lst (zV (last8 kp.toNat (zl j)))) := by
            rw [f14]; unfold zV; rw [last8_map]
          have dl : DpAll K H14 (zV (last8 kp.toNat (zl j))) (((zn j).map (·.2)).map fun t => PyData.list [.int t]) := by
            rw [rel1 j hj4, ← last8_map]
            exact dp8 (ones_last _ (W14.hl j hj4))
          refine ⟨_, _, _, rfl, .lst (.of hp14) (dp8 (W14.hn j hj4)), .lst (.of f14') dl, Nat.lt_of_le_of_lt dk.1 (by decide), dk.2, fun H15 s15 => ⟨_, rfl, ifN (by simp) ?_⟩⟩
          have hp15 := s15 _ _ hp14
          have W15 := W14.same s15
          refine ⟨.inl ⟨rfl, _, .of hp15⟩, ?_⟩
          rw [rAppend_ref]
          have w16 : Fwd K No H12' (upd H15 p (.lst (zV (zn j) ++ [V.int 0]))) := (Fw.of_same ((s13.trans s14).trans s15) W12.tab).put hp15 (fun _ z => by cases z) (fun z => z) (.inr np)
          exact ⟨_, hp15, by unfold zV; rw [List.length_map]; exact smallLt (by have := hzn j hj4; omega), (hPb _ _ _).mpr ⟨_, _, rfl, W12.fno w16⟩⟩
        · obtain ⟨x7, x9, rfl, W12⟩ := (hPb _ _ _).mp hP
          clear hP W11
          simp only [tDGet, tCutE, false_and, exists_false, false_or, or_false, tRet, tRetN, tAndV, tOrV, tNotV, tChain, rI, rI0, rU, tC, tCB, tCons, tNil, tVar, tOp, tUn, tTest, tB, tAnd, tOr, tNot, tIf, tIfS, tSeq, tAsg, tDrop, tNext, gName, gTup_ref, gCons_cons, gNil_nil, and_assoc, tYes, wipe, rEq, rNe, scal_ss, scal_ii, scal_bb, scal_ns, scal_sn, scal_nn, scal_in, scal_ni, tLc_eq, tFor_eq, iList, iTup, iStr, iRng1, iRng2, iZip, iEnum, gSub, tSl, rSetL_ref, rCat_ref, rRep_ref, rJoin_ref, rSlL_ref, rSlS_ref, rMulS_ref, rIxL_ref, rIxT_ref, rLenK_ref, rAll_ref, rIn_ref, tLst, tTup, tPar, tPar3, tAug, tPart, tNoPart, tCall, List.getElem?_cons_zero, List.getElem?_cons_succ, List.set_cons_zero, List.set_cons_succ, List.map_cons, List.map_nil, List.append_nil, List.nil_append, List.cons_append, Option.some.injEq, exists_eq_left', exists_eq_left, exists_eq_right, exists_eq_right', exists_eq', V.int.injEq, V.str.injEq, V.bl.injEq, V.ref.injEq, List.cons.injEq, tM0, tM1, rNewStrs, sgn_eq, split_dot, split_sp, split_nl, dot_len, sp_len, nl_len, cxOf_K, L2.start, List.length_cons, List.length_nil, List.replicate_succ, List.replicate_zero, Nat.reduceSub, Nat.zero_add, and_true, true_and, and_self, exists_and_left, exists_const, Bool.false_eq_true, if_false, if_true, ite_true, ite_false, reduceIte, decide_eq_true_eq, reduceCtorEq, Nat.reduceAdd, Nat.reduceLT, tMseq, tMret, tNdef1, tThru, tCallV, gFldC, tFldC, sFldC, sFldAugC, tMeth, tMethX, tMethS, tMake, tCKw, sDPut, tDGet2, tVeI, tOst, tWhy, tXf, tListZip, tCallX, tCallXU, tCallV, tCallVS, tLam1, tLamD, tCallS, tCls, tClsD, cx_cells, cx_scope, cx_N, cx_prog, cx_w, cx_base, cx_mg, cx_qual, tLstRg, tRg1, tRg2, HO.ins.injEq, HO.lst.injEq, HO.tup.injEq, HO.dK.injEq, upd_same, upd_upd, tBM, tBM0, tyV_lst, isL_lst, rAppend_ref, rExtend_ref, rClear_ref, rAdd_int, rSub_int, li_len, ne_len, Nat.reduceLT, Nat.reduceLeDiff, lk_number, lk_pattern, lk_work, lk_rank, lk_once, lk_gate, lk_group, lk_muted, lk_gone, pt_once, pt_gate, pt_group, pt_muted, pt_gone, lk_known, lk_policy, lk_most, lk_depth, lk_locks, lk_waiting, lk_store, lk_faulty, pt_depth, pt_locks, pt_waiting]
          refine ⟨by decide, fun pq npq => ?_⟩
          obtain ⟨s13, f13⟩ := newF (H := H12) (o := .lst [V.str (Str.ofString "a"), V.str (Str.ofString "#"), V.str (Str.ofString "*"), V.str (Str.ofString "a.*"), V.str (Str.ofString "b")]) rfl npq
          have npq' := W12.src.nD npq
          generalize upd H12 pq (.lst [V.str (Str.ofString "a"), V.str (Str.ofString "#"), V.str (Str.ofString "*"), V.str (Str.ofString "a.*"), V.str (Str.ofString "b")]) = H13 at s13 f13 ⊢
          have W13 := W12.same s13
          refine ⟨h, l, 5, rfl, W13.src, by decide, by decide, fun H14 r5 xt14 S14 r51 r52 => ?_⟩
          have W14 := W13.draw xt14 S14
          have f14 := xt14 _ _ npq' f13
          obtain ⟨pt, hpt, pt1, pt2, pt3⟩ : ∃ pt : Str, atI [V.str (Str.ofString "a"), V.str (Str.ofString "#"), V.str (Str.ofString "*"), V.str (Str.ofString "a.*"), V.str (Str.ofString "b")] r5 = some (.str pt) ∧ isPat pt = true ∧ pt.length ≤ 1000 ∧ PyData.strOk pt = true := by
            have : r5 = 0 ∨ r5 = 1 ∨ r5 = 2 ∨ r5 = 3 ∨ r5 = 4 := by omega
            rcases this with rfl | rfl | rfl | rfl | rfl <;> exact ⟨_, rfl, by decide +kernel, by decide +kernel, by decide +kernel⟩
          refine ⟨pq, _, r5, _, rfl, rfl, .of f14, hpt, h, l, 3, rfl, W14.src, by decide, by decide, fun H15 r3 xt15 S15 r31 r32 => ⟨rfl, Nat.zero_le _, fun lg nlg => ⟨by decide, fun tp ntp => ?_⟩⟩⟩
          have W15 := W14.draw xt15 S15
          obtain ⟨once, honce⟩ : ∃ once : Bool, once = decide (V.int r3 = V.int 0) := ⟨_, rfl⟩
          rw [← honce]
          obtain ⟨s16, hlg16⟩ := newF (H := H15) (o := .lst []) rfl nlg
          generalize upd H15 lg (.lst []) = H16 at s16 hlg16 ntp ⊢
          have W16 := W15.same s16
          have nlgF : ¬ Foot na N lg := fun z => W15.net.dom z nlg
          have nlgM : ¬ Mut8 h l pA lg := W15.nmut nlg
          have nlgZ : ∀ i < 4, (∀ z ∈ zl i, z.1 ≠ lg) ∧ (∀ z ∈ zn i, z.1 ≠ lg) := fun i hi => ⟨fun z hz e => (by have := W15.hl i hi z hz; rw [e, nlg] at this; cases this), fun z hz e => (by have := W15.hn i hi z hz; rw [e, nlg] at this; cases this)⟩
          obtain ⟨s17, f17⟩ := newF (H := H16) (o := .tup [V.str pt, V.bl once, V.ref lg]) rfl ntp
          generalize upd H16 tp (.tup [V.str pt, V.bl once, V.ref lg]) = H17 at s17 f17 ⊢
          have W17 := W16.same s17
          have hlg17 := s17 _ _ hlg16
          refine ⟨_, .of f17, rfl, ?_⟩
          clear W16 W15 W14 W13 W12 s16 s17 s13 f13 f14 f17 npq npq' xt14 xt15 S14 S15 hlg16 ntp nlg
          simp only [tDGet, tCutE, false_and, exists_false, false_or, or_false, tRet, tRetN, tAndV, tOrV, tNotV, tChain, rI, rI0, rU, tC, tCB, tCons, tNil, tVar, tOp, tUn, tTest, tB, tAnd, tOr, tNot, tIf, tIfS, tSeq, tAsg, tDrop, tNext, gName, gTup_ref, gCons_cons, gNil_nil, and_assoc, tYes, wipe, rEq, rNe, scal_ss, scal_ii, scal_bb, scal_ns, scal_sn, scal_nn, scal_in, scal_ni, tLc_eq, tFor_eq, iList, iTup, iStr, iRng1, iRng2, iZip, iEnum, gSub, tSl, rSetL_ref, rCat_ref, rRep_ref, rJoin_ref, rSlL_ref, rSlS_ref, rMulS_ref, rIxL_ref, rIxT_ref, rLenK_ref, rAll_ref, rIn_ref, tLst, tTup, tPar, tPar3, tAug, tPart, tNoPart, tCall, List.getElem?_cons_zero, List.getElem?_cons_succ, List.set_cons_zero, List.set_cons_succ, List.map_cons, List.map_nil, List.append_nil, List.nil_append, List.cons_append, Option.some.injEq, exists_eq_left', exists_eq_left, exists_eq_right, exists_eq_right', exists_eq', V.int.injEq, V.str.injEq, V.bl.injEq, V.ref.injEq, List.cons.injEq, tM0, tM1, rNewStrs, sgn_eq, split_dot, split_sp, split_nl, dot_len, sp_len, nl_len, cxOf_K, L2.start, List.length_cons, List.length_nil, List.replicate_succ, List.replicate_zero, Nat.reduceSub, Nat.zero_add, and_true, true_and, and_self, exists_and_left, exists_const, Bool.false_eq_true, if_false, if_true, ite_true, ite_false, reduceIte, decide_eq_true_eq, reduceCtorEq, Nat.reduceAdd, Nat.reduceLT, tMseq, tMret, tNdef1, tThru, tCallV, gFldC, tFldC, sFldC, sFldAugC, tMeth, tMethX, tMethS, tMake, tCKw, sDPut, tDGet2, tVeI, tOst, tWhy, tXf, tListZip, tCallX, tCallXU, tCallV, tCallVS, tLam1, tLamD, tCallS, tCls, tClsD, cx_cells, cx_scope, cx_N, cx_prog, cx_w, cx_base, cx_mg, cx_qual, tLstRg, tRg1, tRg2, HO.ins.injEq, HO.lst.injEq, HO.tup.injEq, HO.dK.injEq, upd_same, upd_upd, tBM, tBM0, tyV_lst, isL_lst, rAppend_ref, rExtend_ref, rClear_ref, rAdd_int, rSub_int, li_len, ne_len, Nat.reduceLT, Nat.reduceLeDiff, lk_number, lk_pattern, lk_work, lk_rank, lk_once, lk_gate, lk_group, lk_muted, lk_gone, pt_once, pt_gate, pt_group, pt_muted, pt_gone, lk_known, lk_policy, lk_most, lk_depth, lk_locks, lk_waiting, lk_store, lk_faulty, pt_depth, pt_locks, pt_waiting]
          obtain ⟨R, hR⟩ : ∃ R : L2.St → Hp → Prop, ∀ σ H', R σ H' ↔ ∃ D, σ = [some (.ref a), some (.ref h), some (.ref lv), some (.int (0 + (i : Int))), some (.int kp), some (.ref na), some (.ref sd), x7, x8, x9, some (.str pt), some (.bl once), some (.ref lg), some (.ref D), x14, x15, x16] ∧ S8 K H' h l na N lv sd pA zl zn ∧ H' lg = some (.lst []) ∧ H' D = some (.lst []) ∧ D ≠ lg ∧ D ≠ N.kn := ⟨_, fun _ _ => Iff.rfl⟩
          refine ⟨Nat.zero_le _, R, fun D nD => (hR _ _).mpr ⟨D, rfl, W17.same (same_put (Same.refl _) nD), same_put (Same.refl _) nD _ _ hlg17, upd_same, (ne_of_none hlg17 nD).symm, (ne_of_none W17.net.kn nD).symm⟩, fun σ H18 hh => ?_⟩
          obtain ⟨D, rfl, W18, hlg18, hD18, nDl, nDk⟩ := (hR _ _).mp hh
          clear hh hR W17 hlg17
          simp only [tDGet, tCutE, false_and, exists_false, false_or, or_false, tRet, tRetN, tAndV, tOrV, tNotV, tChain, rI, rI0, rU, tC, tCB, tCons, tNil, tVar, tOp, tUn, tTest, tB, tAnd, tOr, tNot, tIf, tIfS, tSeq, tAsg, tDrop, tNext, gName, gTup_ref, gCons_cons, gNil_nil, and_assoc, tYes, wipe, rEq, rNe, scal_ss, scal_ii, scal_bb, scal_ns, scal_sn, scal_nn, scal_in, scal_ni, tLc_eq, tFor_eq, iList, iTup, iStr, iRng1, iRng2, iZip, iEnum, gSub, tSl, rSetL_ref, rCat_ref, rRep_ref, rJoin_ref, rSlL_ref, rSlS_ref, rMulS_ref, rIxL_ref, rIxT_ref, rLenK_ref, rAll_ref, rIn_ref, tLst, tTup, tPar, tPar3, tAug, tPart, tNoPart, tCall, List.getElem?_cons_zero, List.getElem?_cons_succ, List.set_cons_zero, List.set_cons_succ, List.map_cons, List.map_nil, List.append_nil, List.nil_append, List.cons_append, Option.some.injEq, exists_eq_left', exists_eq_left, exists_eq_right, exists_eq_right', exists_eq', V.int.injEq, V.str.injEq, V.bl.injEq, V.ref.injEq, List.cons.injEq, tM0, tM1, rNewStrs, sgn_eq, split_dot, split_sp, split_nl, dot_len, sp_len, nl_len, cxOf_K, L2.start, List.length_cons, List.length_nil, List.replicate_succ, List.replicate_zero, Nat.reduceSub, Nat.zero_add, and_true, true_and, and_self, exists_and_left, exists_const, Bool.false_eq_true, if_false, if_true, ite_true, ite_false, reduceIte, decide_eq_true_eq, reduceCtorEq, Nat.reduceAdd, Nat.reduceLT, tMseq, tMret, tNdef1, tThru, tCallV, gFldC, tFldC, sFldC, sFldAugC, tMeth, tMethX, tMethS, tMake, tCKw, sDPut, tDGet2, tVeI, tOst, tWhy, tXf, tListZip, tCallX, tCallXU, tCallV, tCallVS, tLam1, tLamD, tCallS, tCls, tClsD, cx_cells, cx_scope, cx_N, cx_prog, cx_w, cx_base, cx_mg, cx_qual, tLstRg, tRg1, tRg2, HO.ins.injEq, HO.lst.injEq, HO.tup.injEq, HO.dK.injEq, upd_same, upd_upd, tBM, tBM0, tyV_lst, isL_lst, rAppend_ref, rExtend_ref, rClear_ref, rAdd_int, rSub_int, li_len, ne_len, Nat.reduceLT, Nat.reduceLeDiff, lk_number, lk_pattern, lk_work, lk_rank, lk_once, lk_gate, lk_group, lk_muted, lk_gone, pt_once, pt_gate, pt_group, pt_muted, pt_gone, lk_known, lk_policy, lk_most, lk_depth, lk_locks, lk_waiting, lk_store, lk_faulty, pt_depth, pt_locks, pt_waiting]
          refine ⟨_, _, rfl, .of W18.hlv, by decide, fun ys so hys hss nso => ?_⟩
          obtain rfl := sort_l4 hys hss
          obtain ⟨s19, hso⟩ := newF (H := H18) (o := .lst (s4.map V.str)) rfl nso
          generalize upd H18 so (.lst (s4.map V.str)) = H19 at s19 hso ⊢
          have W19 := W18.same s19
          have nsoM : ¬ Mut8 h l pA so := W18.nmut nso
          obtain ⟨zk, hzk⟩ : ∃ zk : Nat → List (Addr × Int), zk = fun i => last8 kp.toNat (zl i) := ⟨_, rfl⟩
          have hzkl : ∀ i < 4, (zk i).length ≤ 50 := fun i hi => by rw [hzk]; unfold last8; rw [List.length_drop]; have := hzl i hi; omega
          obtain ⟨Pc, hPc⟩ : ∃ Pc : Nat → L2.St → Hp → Prop, ∀ j σ H', Pc j σ H' ↔ ∃ x7 x14 x15 D ts, σ = [some (.ref a), some (.ref h), some (.ref lv), some (.int (0 + (i : Int))), some (.int kp), some (.ref na), some (.ref sd), x7, x8, x9, some (.str pt), some (.bl once), some (.ref lg), some (.ref D), x14, x15, x16] ∧ S8 K H' h l na N lv sd pA zl zn ∧ H' lg = some (.lst []) ∧ H' so = some (.lst (s4.map V.str)) ∧ H' D = some (.lst (ts.map V.ref)) ∧ TupsAt H' ts ((due8 pt zk j).map note8) ∧ D ≠ lg ∧ D ≠ N.kn := ⟨_, fun _ _ _ => Iff.rfl⟩
          refine ⟨so, rfl, ⟨_, .of hso⟩, forG (walk_listm s4 V.str) Pc ((hPc _ _ _).mpr ⟨_, _, _, D, [], rfl, W19, s19 _ _ hlg18, hso, s19 _ _ hD18, trivial, nDl, nDk⟩) (fun j σ H' hj hP => ?_) (fun j y σ H20 H20' hj hP hy => ?_) (fun σ H20 hP => ?_)⟩
          · obtain ⟨_, _, _, _, _, _, _, _, h1, _⟩ := (hPc _ _ _).mp hP
            exact .of h1
          · obtain ⟨x7, x14, x15, D, ts, rfl, W20, hlg20, hso20, hD20, ht20, nDl, nDk⟩ := (hPc _ _ _).mp hP
            obtain ⟨rfl, ln, hln, rfl⟩ := hy
            obtain ⟨m, hm, om, sm⟩ := ord_at (show j < 4 from hj)
            rw [sm] at hln
            cases hln
            simp only [tDGet, tCutE, false_and, exists_false, false_or, or_false, tRet, tRetN, tAndV, tOrV, tNotV, tChain, rI, rI0, rU, tC, tCB, tCons, tNil, tVar, tOp, tUn, tTest, tB, tAnd, tOr, tNot, tIf, tIfS, tSeq, tAsg, tDrop, tNext, gName, gTup_ref, gCons_cons, gNil_nil, and_assoc, tYes, wipe, rEq, rNe, scal_ss, scal_ii, scal_bb, scal_ns, scal_sn, scal_nn, scal_in, scal_ni, tLc_eq, tFor_eq, iList, iTup, iStr, iRng1, iRng2, iZip, iEnum, gSub, tSl, rSetL_ref, rCat_ref, rRep_ref, rJoin_ref, rSlL_ref, rSlS_ref, rMulS_ref, rIxL_ref, rIxT_ref, rLenK_ref, rAll_ref, rIn_ref, tLst, tTup, tPar, tPar3, tAug, tPart, tNoPart, tCall, List.getElem?_cons_zero, List.getElem?_cons_succ, List.set_cons_zero, List.set_cons_succ, List.map_cons, List.map_nil, List.append_nil, List.nil_append, List.cons_append, Option.some.injEq, exists_eq_left', exists_eq_left, exists_eq_right, exists_eq_right', exists_eq', V.int.injEq, V.str.injEq, V.bl.injEq, V.ref.injEq, List.cons.injEq, tM0, tM1, rNewStrs, sgn_eq, split_dot, split_sp, split_nl, dot_len, sp_len, nl_len, cxOf_K, L2.start, List.length_cons, List.length_nil, List.replicate_succ, List.replicate_zero, Nat.reduceSub, Nat.zero_add, and_true, true_and, and_self, exists_and_left, exists_const, Bool.false_eq_true, if_false, if_true, ite_true, ite_false, reduceIte, decide_eq_true_eq, reduceCtorEq, Nat.reduceAdd, Nat.reduceLT, tMseq, tMret, tNdef1, tThru, tCallV, gFldC, tFldC, sFldC, sFldAugC, tMeth, tMethX, tMethS, tMake, tCKw, sDPut, tDGet2, tVeI, tOst, tWhy, tXf, tListZip, tCallX, tCallXU, tCallV, tCallVS, tLam1, tLamD, tCallS, tCls, tClsD, cx_cells, cx_scope, cx_N, cx_prog, cx_w, cx_base, cx_mg, cx_qual, tLstRg, tRg1, tRg2, HO.ins.injEq, HO.lst.injEq, HO.tup.injEq, HO.dK.injEq, upd_same, upd_upd, tBM, tBM0, tyV_lst, isL_lst, rAppend_ref, rExtend_ref, rClear_ref, rAdd_int, rSub_int, li_len, ne_len, Nat.reduceLT, Nat.reduceLeDiff, lk_number, lk_pattern, lk_work, lk_rank, lk_once, lk_gate, lk_group, lk_muted, lk_gone, pt_once, pt_gate, pt_group, pt_muted, pt_gone, lk_known, lk_policy, lk_most, lk_depth, lk_locks, lk_waiting, lk_store, lk_faulty, pt_depth, pt_locks, pt_waiting]
            have hseq : SqL K H20' (pA m) (zV (zl m)) := .of (W20.hp m hm)
            have hlz : (zV (zl m)).length = (zl m).length := by unfold zV; rw [List.length_map]
            refine ⟨_, dg8 W20 hm, _, dg8 W20 hm, ?_⟩
            rw [rLenK_ref]
            refine ⟨_, .inl hseq, _, rfl, ?_⟩
            rw [rSlL_ref]
            refine ⟨_, hseq, fun p2 np2 => ?_⟩
            rw [cut8 _ kp0]
            obtain ⟨s21, f21⟩ := newF (H := H20') (o := .lst (last8 kp.toNat (zV (zl m)))) rfl np2
            generalize upd H20' p2 (.lst (last8 kp.toNat (zV (zl m)))) = H21 at s21 f21 ⊢
            have f21' : H21 p2 = some (.lst ((zk m).map fun z => V.ref z.1)) := by
              rw [f21, hzk]; unfold zV; rw [last8_map]
            have W21 := W20.same s21
            refine ⟨_, rfl, ⟨_, .of f21'⟩, lc_tupsF (zk m) (fun _ => doesFit pt (l4.getD m "")) (fun z => note8 (l4.getD m "", z)) (walk_listm (zk m) fun z => V.ref z.1) (by have := hzkl m hm; omega) (fun Hx sx => sx.seq (.of f21')) (fun n z x Ha Hb R hn sa hy r0 r1 => ?_) (fun D2 H22 us nD2 s22 hD22 hus => ?_)⟩
            · obtain ⟨rfl, z', hz', rfl⟩ := hy
              rw [hn] at hz'; cases hz'
              simp only [tCutE, false_and, exists_false, false_or, or_false, tRet, tRetN, tAndV, tOrV, tNotV, tChain, rI, rI0, rU, tC, tCB, tCons, tNil, tVar, tOp, tUn, tTest, tB, tAnd, tOr, tNot, tIf, tIfS, tSeq, tAsg, tDrop, tNext, gName, gTup_ref, gCons_cons, gNil_nil, and_assoc, tYes, wipe, rEq, rNe, scal_ss, scal_ii, scal_bb, scal_ns, scal_sn, scal_nn, scal_in, scal_ni, tLc_eq, tFor_eq, iList, iTup, iStr, iRng1, iRng2, iZip, iEnum, gSub, tSl, rSetL_ref, rCat_ref, rRep_ref, rJoin_ref, rSlL_ref, rSlS_ref, rMulS_ref, rIxL_ref, rIxT_ref, rLenK_ref, rAll_ref, rIn_ref, tLst, tTup, tPar, tPar3, tAug, tPart, tNoPart, tCall, List.getElem?_cons_zero, List.getElem?_cons_succ, List.set_cons_zero, List.set_cons_succ, List.map_cons, List.map_nil, List.append_nil, List.nil_append, List.cons_append, Option.some.injEq, exists_eq_left', exists_eq_left, exists_eq_right, exists_eq_right', exists_eq', V.int.injEq, V.str.injEq, V.bl.injEq, V.ref.injEq, List.cons.injEq, tM0, tM1, rNewStrs, sgn_eq, split_dot, split_sp, split_nl, dot_len, sp_len, nl_len, cxOf_K, L2.start, List.length_cons, List.length_nil, List.replicate_succ, List.replicate_zero, Nat.reduceSub, Nat.zero_add, and_true, true_and, and_self, exists_and_left, exists_const, Bool.false_eq_true, if_false, if_true, ite_true, ite_false, reduceIte, decide_eq_true_eq, reduceCtorEq, Nat.reduceAdd, Nat.reduceLT, tMseq, tMret, tNdef1, tThru, tCallV, gFldC, tFldC, sFldC, sFldAugC, tMeth, tMethX, tMethS, tMake, tCKw, sDPut, tDGet2, tVeI, tOst, tWhy, tXf, tListZip, tCallX, tCallXU, tCallV, tCallVS, tLam1, tLamD, tCallS, tCls, tClsD, cx_cells, cx_scope, cx_N, cx_prog, cx_w, cx_base, cx_mg, cx_qual, tLstRg, tRg1, tRg2, HO.ins.injEq, HO.lst.injEq, HO.tup.injEq, HO.dK.injEq, upd_same, upd_upd, tBM, tBM0, tyV_lst, isL_lst, rAppend_ref, rExtend_ref, rClear_ref, rAdd_int, rSub_int, li_len, ne_len, Nat.reduceLT, Nat.reduceLeDiff, lk_number, lk_pattern, lk_work, lk_rank, lk_once, lk_gate, lk_group, lk_muted, lk_gone, pt_once, pt_gate, pt_group, pt_muted, pt_gone, lk_known, lk_policy, lk_most, lk_depth, lk_locks, lk_waiting, lk_store, lk_faulty, pt_depth, pt_locks, pt_waiting]
              refine ⟨_, _, rfl, Nat.le_trans pt2 (by decide), Nat.le_trans (l4_ok hm).2.1 (by decide), fun Hc sc => ⟨_, rfl, ?_⟩⟩
              by_cases hf : doesFit pt (l4.getD m "") = true
              · rw [if_pos hf]
                exact ⟨by decide, fun t nt => r1 hf t Hc nt sc⟩
              · rw [if_neg hf]
                exact r0 (by simpa using hf) Hc sc
            · have W22 := W21.same s22
              have s2 := s21.trans s22
              have hD3 := s2 _ _ hD20
              have dl := due8_len pt zk hzkl j (by have : j < 4 := hj; omega)
              have tl2 := ht20.len
              have ul := hus.len
              rw [List.length_map] at tl2 ul
              have fl : ((zk m).filter fun _ => doesFit pt (l4.getD m "")).length ≤ 50 := Nat.le_trans (List.length_filter_le _ _) (hzkl m hm)
              have hj4 : j < 4 := hj
              rw [rCat_ref]
              refine ⟨_, _, hD3, hD22, small (by rw [List.length_map, List.length_map]; omega), fun p3 np3 => ?_⟩
              obtain ⟨s23, f23⟩ := newF (H := H22) (o := .lst (ts.map V.ref ++ us.map V.ref)) rfl np3
              generalize upd H22 p3 (.lst (ts.map V.ref ++ us.map V.ref)) = H23 at s23 f23 ⊢
              have s3 := s2.trans s23
              refine (hPc _ _ _).mpr ⟨_, _, _, p3, ts ++ us, rfl, W22.same s23, s3 _ _ hlg20, s3 _ _ hso20, by rw [f23, List.map_append], ?_, (ne_of_none (s2 _ _ hlg20) np3).symm, (ne_of_none W22.net.kn np3).symm⟩
              rw [due8_succ pt zk om, List.map_append]
              refine TupsAt.app (ht20.mono fun t x h => s3 _ _ h) ?_
              have e : (if doesFit pt (l4.getD m "") = true then (zk m).map fun y => ((l4.getD m "", y) : Str × (Addr × Int)) else []).map note8 = ((zk m).filter fun _ => doesFit pt (l4.getD m "")).map fun z => note8 (l4.getD m "", z) := by
                by_cases hf : doesFit pt (l4.getD m "") = true
                · rw [if_pos hf, List.map_map, List.filter_eq_self.mpr fun _ _ => hf]; rfl
                · rw [if_neg hf, List.filter_eq_nil_iff.mpr fun _ _ => hf]; rfl
              rw [e]
              exact hus.mono fun t x h => s23 _ _ h
          · obtain ⟨x7, x14, x15, D, ts, rfl, W20, hlg20, hso20, hD20, ht20, nDl, nDk⟩ := (hPc _ _ _).mp hP
            have e4 : due8 pt zk s4.length = R8 pt zk := rfl
            rw [e4] at ht20
            simp only [tDGet, tCutE, false_and, exists_false, false_or, or_false, tRet, tRetN, tAndV, tOrV, tNotV, tChain, rI, rI0, rU, tC, tCB, tCons, tNil, tVar, tOp, tUn, tTest, tB, tAnd, tOr, tNot, tIf, tIfS, tSeq, tAsg, tDrop, tNext, gName, gTup_ref, gCons_cons, gNil_nil, and_assoc, tYes, wipe, rEq, rNe, scal_ss, scal_ii, scal_bb, scal_ns, scal_sn, scal_nn, scal_in, scal_ni, tLc_eq, tFor_eq, iList, iTup, iStr, iRng1, iRng2, iZip, iEnum, gSub, tSl, rSetL_ref, rCat_ref, rRep_ref, rJoin_ref, rSlL_ref, rSlS_ref, rMulS_ref, rIxL_ref, rIxT_ref, rLenK_ref, rAll_ref, rIn_ref, tLst, tTup, tPar, tPar3, tAug, tPart, tNoPart, tCall, List.getElem?_cons_zero, List.getElem?_cons_succ, List.set_cons_zero, List.set_cons_succ, List.map_cons, List.map_nil, List.append_nil, List.nil_append, List.cons_append, Option.some.injEq, exists_eq_left', exists_eq_left, exists_eq_right, exists_eq_right', exists_eq', V.int.injEq, V.str.injEq, V.bl.injEq, V.ref.injEq, List.cons.injEq, tM0, tM1, rNewStrs, sgn_eq, split_dot, split_sp, split_nl, dot_len, sp_len, nl_len, cxOf_K, L2.start, List.length_cons, List.length_nil, List.replicate_succ, List.replicate_zero, Nat.reduceSub, Nat.zero_add, and_true, true_and, and_self, exists_and_left, exists_const, Bool.false_eq_true, if_false, if_true, ite_true, ite_false, reduceIte, decide_eq_true_eq, reduceCtorEq, Nat.reduceAdd, Nat.reduceLT, tMseq, tMret, tNdef1, tThru, tCallV, gFldC, tFldC, sFldC, sFldAugC, tMeth, tMethX, tMethS, tMake, tCKw, sDPut, tDGet2, tVeI, tOst, tWhy, tXf, tListZip, tCallX, tCallXU, tCallV, tCallVS, tLam1, tLamD, tCallS, tCls, tClsD, cx_cells, cx_scope, cx_N, cx_prog, cx_w, cx_base, cx_mg, cx_qual, tLstRg, tRg1, tRg2, HO.ins.injEq, HO.lst.injEq, HO.tup.injEq, HO.dK.injEq, upd_same, upd_upd, tBM, tBM0, tyV_lst, isL_lst, rAppend_ref, rExtend_ref, rClear_ref, rAdd_int, rSub_int, li_len, ne_len, Nat.reduceLT, Nat.reduceLeDiff, lk_number, lk_pattern, lk_work, lk_rank, lk_once, lk_gate, lk_group, lk_muted, lk_gone, pt_once, pt_gate, pt_group, pt_muted, pt_gone, lk_known, lk_policy, lk_most, lk_depth, lk_locks, lk_waiting, lk_store, lk_faulty, pt_depth, pt_locks, pt_waiting]
            refine ⟨_, _, W20.net.net, noN, lg, _, _, rfl, W20.tab, fun H21 f w21 nf C21 => ?_⟩
            have W21 := W20.fno w21
            have hlg21 := w21.lst W20.tab hlg20 (fun z => z)
            have hD21 := w21.lst W20.tab hD20 (fun z => z)
            have ht21 := ht20.mono fun t x h => w21.tup h
            refine listen8 (p := pt) (f := f) (lg := lg) (once := once) W21 pt1 pt2 C21 hlg21 nlgF (fun i hi => by have := hzn i hi; omega) (fun H22 N4 x ts4 n4 e1 e2 e3 e4 e5 e6 w22 l22 t22 => ?_)
            have d0 : DOk 0 (.int 0) := DOk.int
            refine ⟨_, _, .int 0, rfl, .int _, .int _, Nat.lt_of_le_of_lt d0.1 (by decide), d0.2, fun H23 s23 => ⟨_, rfl, ifN (by simp) ?_⟩⟩
            have hkn : N.ls = [] := W21.idle.2.2.2
            have on22 : ∀ {b : Addr} {t : Int}, H21 b = some (.lst [.int t]) → b ≠ lg → H23 b = some (.lst [.int t]) := fun {b t} hb nb => s23 _ _ (w22.lst W21.tab hb fun z => by
              rcases z with z | z | z
              · rw [z, W21.net.net] at hb; cases hb
              · rw [z, W21.net.kn, hkn] at hb; cases hb
              · exact nb z)
            have hD23 : H23 D = some (.lst (ts.map V.ref)) := s23 _ _ (w22.lst W21.tab hD21 fun z => by
              rcases z with z | z | z
              · rw [z, W21.net.net] at hD21; cases hD21
              · exact nDk z
              · exact nDl z)
            have ht23 := ht21.mono fun t x h => s23 _ _ (w22.tup h)
            have hlg23 := s23 _ _ l22
            have tl23 := t22.mono fun t x h => s23 _ _ h
            have onN : ∀ x ∈ R8 pt zn, H23 x.2.1 = some (.lst [.int x.2.2]) := fun x hx => by
              obtain ⟨i, hi, hx⟩ := R8_mem hx
              exact on22 (W21.hn i hi _ hx) ((nlgZ i hi).2 _ hx)
            have onK : ∀ x ∈ R8 pt zk, H23 x.2.1 = some (.lst [.int x.2.2]) := fun x hx => by
              obtain ⟨i, hi, hx⟩ := R8_mem hx
              rw [hzk] at hx
              have hx := List.mem_of_mem_drop hx
              exact on22 (W21.hl i hi _ hx) ((nlgZ i hi).1 _ hx)
            have ed : (R8 pt zn).map d8x = (R8 pt zk).map d8x := R8_d pt fun i hi => by
              rw [rel1 i hi, hzk]
              exact (last8_map _ _ _).symm
            have rl : (R8 pt zk).length ≤ 200 := due8_len pt zk hzkl 4 (by decide)
            have rln : (R8 pt zn).length ≤ 200 := due8_len pt zn hzn 4 (by decide)
            have S23 : SrcOk H23 h l := by
              obtain ⟨m, p, cs, z1, z2, z3⟩ := W21.src
              have k : ∀ {b xs}, H21 b = some (.lst xs) → Mut8 h l pA b → H23 b = some (.lst xs) := fun {b xs} hb mb => s23 _ _ (w22.lst W21.tab hb fun z => by
                rcases z with z | z | z
                · rw [z, W21.net.net] at hb; cases hb
                · exact W21.foot b mb (.inr (.inl z))
                · exact nlgM (z ▸ mb))
              exact ⟨m, p, cs, k z1 (.inl rfl), k z2 (.inr (.inl rfl)), z3⟩
            have T23 : Tab K H23 := w22.tab.ext s23
            have hlv23 : H23 lv = some (.lst (l4.map V.str)) := s23 _ _ (w22.lst W21.tab W21.hlv fun z => by
              have hb := W21.hlv
              rcases z with z | z | z
              · rw [z, W21.net.net] at hb; cases hb
              · rw [z, W21.net.kn, hkn] at hb; cases hb
              · rw [z, hlg21] at hb; cases hb)
            have n23 := n4.same s23
            obtain ⟨L, hL⟩ : ∃ L, L = (R8 pt zn).take (hrd once (R8 pt zn).length) := ⟨_, rfl⟩
            have LK : L.map d8x = ((R8 pt zk).take (hrd once (R8 pt zn).length)).map d8x := by rw [hL, List.map_take, List.map_take, ed]
            have Ll : L.length ≤ 200 := by rw [hL, List.length_take]; omega
            have dkL := dok8x L Ll
            rw [← hL] at tl23
            have dpL : Dp K H23 (.ref lg) (.list (L.map d8x)) := dp8x hlg23 tl23 fun x hx => onN x (by rw [hL] at hx; exact List.mem_of_mem_take hx)
            have rlen : (R8 pt zk).length = (R8 pt zn).length := by have := congrArg List.length ed; rw [List.length_map, List.length_map] at this; exact this.symm
            have xg1 : L.isEmpty = true ∨ once = false → x.gone = false := fun z => by
              rw [e6]
              refine decide_eq_false fun y => ?_
              rcases z with z | z
              · have z : L = [] := List.isEmpty_iff.mp z
                rw [hL] at z
                rcases List.take_eq_nil_iff.mp z with z | z
                · unfold hrd at z
                  rw [if_pos y.1] at z
                  have : 0 < (R8 pt zn).length := List.length_pos_iff.mpr y.2
                  omega
                · exact y.2 z
              · rw [z] at y; cases y.1
            have xg2 : L.isEmpty = false → once = true → x.gone = true := fun z o => by
              rw [e6]
              refine decide_eq_true ⟨o, fun y => ?_⟩
              rw [hL, y] at z
              simp at z
            have eo : orderM N4.ls = [x].filter fun x => !x.gone := by
              rw [order_flat, e1]
              intro i y hy
              rw [e1] at hy
              cases i with
              | zero => cases hy; exact ⟨e2, e4⟩
              | succ i => cases hy
            have deL : DEq 3 (.list (L.map d8x)) := .list (deq_map fun x hx => .tuple (deq_cons .int (deq_cons (.str (R8_ok (p := pt) (z := zn) (by rw [hL] at hx; exact List.mem_of_mem_take hx))) (deq_cons (.list (deq_cons .int deq_nil)) deq_nil))))
            cases once
            case' false =>
              refine ifN (by simp) ⟨_, _, .list (L.map d8x), rfl, dpL, ?_, Nat.lt_of_le_of_lt dkL.1 (by decide), dkL.2, fun H24 s24 => ⟨_, rfl, ifN (by simp) ?_⟩⟩
              · rw [LK]
                have e : (R8 pt zk).take (hrd false (R8 pt zn).length) = R8 pt zk := List.take_of_length_le (by show _ ≤ (R8 pt zn).length; omega)
                rw [e]
                exact dp8x hD23 ht23 onK
            case' true =>
              refine ifP rfl ⟨_, .of hD23, fun p9 np9 => ?_⟩
              rw [show cutV (ts.map V.ref) none (some 1) = (ts.map V.ref).take 1 from cut_to8 _ 1, ← List.map_take]
              obtain ⟨s9, f9⟩ := newF (H := H23) (o := .lst ((ts.take 1).map V.ref)) rfl np9
              generalize upd H23 p9 (.lst ((ts.take 1).map V.ref)) = H9' at s9 f9 ⊢
              refine ⟨_, _, .list (L.map d8x), rfl, dp_same s9 dpL, ?_, Nat.lt_of_le_of_lt dkL.1 (by decide), dkL.2, fun H24 s24' => ⟨_, rfl, ifN (by simp) ?_⟩⟩
              · rw [LK]
                have e : (R8 pt zk).take (hrd true (R8 pt zn).length) = (R8 pt zk).take 1 := by
                  show (R8 pt zk).take (min 1 (R8 pt zn).length) = _
                  rw [← rlen]
                  cases R8 pt zk with
                  | nil => rfl
                  | cons x xs => rw [Nat.min_eq_left (by simp)]
                rw [e]
                have t9 := tups_take8 1 ht23
                rw [← List.map_take] at t9
                exact dp8x f9 (t9.mono fun t x h => s9 _ _ h) (fun x hx => s9 _ _ (onK x (List.mem_of_mem_take hx)))
              have s24 := s9.trans s24'
            all_goals
              have n24 := n23.same s24
              refine ⟨_, _, n24.net, noN, na, N4, rfl, n24, T23.ext s24, fun H25 p25 ts25 w25 np25 hp25 ht25 => ⟨by decide, fun q1 nq1 => ⟨by decide, fun q2 nq2 => ⟨Nat.zero_le _, fun q3 nq3 => ?_⟩⟩⟩⟩
              obtain ⟨sa, fa⟩ := newF (H := H25) (o := .tup [V.int 0, V.str pt, V.int 0, V.bl false]) rfl nq1
              generalize upd H25 q1 (.tup [V.int 0, V.str pt, V.int 0, V.bl false]) = Ha at sa fa nq2 nq3 ⊢
              obtain ⟨sb, fb⟩ := newF (H := Ha) (o := .lst [V.ref q1]) rfl nq2
              generalize upd Ha q2 (.lst [V.ref q1]) = Hb at sb fb nq3 ⊢
              obtain ⟨sc, fc⟩ := newF (H := Hb) (o := .lst []) rfl nq3
              generalize upd Hb q3 (.lst []) = Hc at sc fc ⊢
              have k25 : ∀ {b xs}, H23 b = some (.lst xs) → Hc b = some (.lst xs) := fun {b xs} hb => sc _ _ (sb _ _ (sa _ _ (w25.lst (T23.ext s24) (s24 _ _ hb) (fun z => z))))
              have t25 : ∀ {b xs}, H23 b = some (.tup xs) → Hc b = some (.tup xs) := fun {b xs} hb => sc _ _ (sb _ _ (sa _ _ (w25.tup (s24 _ _ hb))))
              have dpc : Dp K Hc (.ref lg) (.list (L.map d8x)) := dp8x (k25 hlg23) (tl23.mono fun t x h => t25 h) fun x hx => k25 (onN x (by rw [hL] at hx; exact List.mem_of_mem_take hx))
              refine ⟨_, .list [], dpc, .lst (.of fc) .nil, deL.shaped (by decide), shaped_nil, _, rfl, ?_⟩
              rw [eqv_nil, List.isEmpty_map]
              have Sc : SrcOk Hc h l := by
                obtain ⟨m, p, cs, z1, z2, z3⟩ := S23
                exact ⟨m, p, cs, k25 z1, k25 z2, z3⟩
              have Tc : Tab K Hc := ((w25.tab.ext sa).ext sb).ext sc
              have hlvc := k25 hlv23
              have hp25c := sc _ _ (sb _ _ (sa _ _ hp25))
              rw [eo] at ht25
              have fbc := sc _ _ fb
              have fac := sc _ _ (sb _ _ fa)
              have fin : ∀ {Hd : Hp} {σ' : L2.St}, Same Hc Hd → (∃ x3 x4 x5 x6 x7 x8 x9 x10 x11 x12 x13 x14 x15 x16, σ' = [some (.ref a), some (.ref h), some (.ref lv), x3, x4, x5, x6, x7, x8, x9, x10, x11, x12, x13, x14, x15, x16]) → Pt (i + 1) σ' Hd := fun {Hd σ'} sd' hσ => by
                obtain ⟨y3, y4, y5, y6, y7, y8, y9, y10, y11, y12, y13, y14, y15, y16, e⟩ := hσ
                exact (hPt _ _ _).mpr ⟨y3, y4, y5, y6, y7, y8, y9, y10, y11, y12, y13, y14, y15, y16, e, Sc.same sd', Tc.ext sd', sd' _ _ hlvc⟩
              have c1 : x.gone = false → ∀ {Q' : VK} {Hd : Hp} {q4 : Addr}, Same Hc Hd → Hd q4 = some (.lst [V.ref q1]) → Q' (.bl false) Hd → rNeD K (.ref p25) (.ref q4) Hd Q' := fun g {Q' Hd q4} sd' h4 hq => by
                have ef : ([x].filter fun x => !x.gone) = [x] := by simp [g]
                rw [ef] at ht25
                match ts25, ht25 with
                | [t], ht25 =>
                  have h1 : Hd t = some (.tup [V.int x.n, V.str x.p, V.int x.r, V.bl x.muted]) := sd' _ _ (sc _ _ (sb _ _ (sa _ _ ht25.1)))
                  rw [e2, e3, e4, e5] at h1
                  exact rNe_same (k := 2) (d := .list [.tuple [.int 0, .str pt, .int 0, .bool false]]) (.lst (.of (sd' _ _ hp25c)) (.cons (.tup (.of h1) (.cons (.int _) (.cons (.str _) (.cons (.int _) (.cons (.bl _) .nil))))) .nil)) (.lst (.of h4) (.cons (.tup (.of (sd' _ _ fac)) (.cons (.int _) (.cons (.str _) (.cons (.int _) (.cons (.bl _) .nil))))) .nil)) (.list (deq_cons (.tuple (deq_cons .int (deq_cons (.str pt3) (deq_cons .int (deq_cons .bool deq_nil))))) deq_nil)) (by decide) hq
              have c0 : x.gone = true → ∀ {Q' : VK} {Hd : Hp} {q4 : Addr}, Same Hc Hd → Hd q4 = some (.lst []) → Q' (.bl false) Hd → rNeD K (.ref p25) (.ref q4) Hd Q' := fun g {Q' Hd q4} sd' h4 hq => by
                have ef : ([x].filter fun x => !x.gone) = [] := by simp [g]
                rw [ef] at ht25
                match ts25, ht25 with
                | [], _ => exact rNe_same (k := 1) (d := .list []) (.lst (.of (sd' _ _ hp25c)) .nil) (.lst (.of h4) .nil) (.list deq_nil) (by decide) hq
              cases hE : L.isEmpty
              case' true =>
                refine ifP rfl ⟨_, fbc, by decide, by decide, small (by simp), fun q4 nq4 => ?_⟩
                obtain ⟨s4', f4'⟩ := newF (H := Hc) (o := .lst [V.ref q1]) rfl nq4
                refine c1 (xg1 (.inl hE)) s4' f4' ⟨_, rfl, ifN (by simp) (fin s4' ⟨_, _, _, _, _, _, _, _, _, _, _, _, _, _, rfl⟩)⟩
              case' false =>
                refine ifN (by simp) ⟨_, fbc, by decide, by decide, small (by simp), fun q4 nq4 => ?_⟩
                first
                  | (obtain ⟨s4', f4'⟩ := newF (H := Hc) (o := .lst [V.ref q1]) rfl nq4
                     exact c1 (xg1 (.inr rfl)) s4' f4' ⟨_, rfl, ifN (by simp) (fin s4' ⟨_, _, _, _, _, _, _, _, _, _, _, _, _, _, rfl⟩)⟩)
                  | (obtain ⟨s4', f4'⟩ := newF (H := Hc) (o := .lst []) rfl nq4
                     exact c0 (xg2 hE rfl) s4' f4' ⟨_, rfl, ifN (by simp) (fin s4' ⟨_, _, _, _, _, _, _, _, _, _, _, _, _, _, rfl⟩)⟩)
end
end Hk

set_option Elab.async false
set_option linter.all false
set_option maxRecDepth 100000
set_option maxHeartbeats 4000000
namespace Hk
open PySem PySem.Spec PyProof.Rows L2
open LamX NdefX
/-! ### the head -/
abbrev Rw : PySem.W.OpenRow := PySem.W.OpenLaw.row PySem.Challenge.rw_hearken_k08_kept_and_heard_late
abbrev hk : PySem.W.Hook := hookS 5 fa fn [] tf exB
def ob (s : PySem.W.SharedT) : He.AlX := obsS 5 fa fn [] tf exB (HandSHeadRun.getT s)
theorem ob_eq (s : PySem.W.SharedT) : ob s = hk.obs s.abs := obsS_eq (HandSHeadRun.getT_eq s)
def loose : List Str := "_wall" :: "HearError" :: "Halt" :: "BadLine" :: "BadPattern" :: "BadWord" :: "BadCount" :: "NoListener" :: "Busy" :: "TooDeep" :: "NotHeld" :: "NoWork" :: "BadText" :: "LETTERS" :: "MOST_LETTERS" :: "MOST_WORDS" :: "ANY" :: "REST" :: "is_word" :: "is_line" :: "is_pattern" :: "need_line" :: "need_pattern" :: "of_length" :: "does_fit" :: "MOST_DEEP" :: "MOST_KEPT" :: "MOST_RANK" :: "WAYS" :: "POLICIES" :: "Listener" :: "Net" :: "_law_mix" :: "_law_next" :: "_law_alike" :: "_law_parts" :: "_law_fits" :: "_law_kind" :: "_law_noted" :: []
theorem run (w : World) : HandSHeadRun.RunEq Rw (PySem.W.view Rw.prog [43]) hk ob 8000 loose w := by
  intro os
  kernel_rfl
end Hk
open PySem PySem.W PySem.Calls PyProof.Rows
theorem PySem.Challenge.cw_hearken_k08_kept_and_heard_late_holds : PySem.Challenge.rw_hearken_k08_kept_and_heard_late.Holds := by
  w_on; o_law
  refine HandSHeadRun.head_any (r := OpenLaw.row PySem.Challenge.rw_hearken_k08_kept_and_heard_late) (q := view (OpenLaw.row PySem.Challenge.rw_hearken_k08_kept_and_heard_late).prog [43]) (H := Hk.hk) (ob := Hk.ob) (M := 8000) (loose := Hk.loose) (d := HandSHeadRun.topDef (OpenLaw.row PySem.Challenge.rw_hearken_k08_kept_and_heard_late).prog 43) (kwd := []) Hk.ob_eq
    (by kernel_rfl) (fun s => by kernel_rfl) Hk.run (by kernel_rfl) (by kernel_rfl) (by kernel_rfl) (by rfl) (by first | assumption | decide +kernel) (by decide +kernel) ⟨rfl, rfl, rfl, rfl, rfl, by decide +kernel⟩ ?hw ?hc
  case hw => w_witness2
  case hc =>
    refine LamX.walk_ofTsE (l := PySem.Challenge.rw_hearken_k08_kept_and_heard_late) (n := 63) (k := 45) (x := "_law_script") (CX := fun _ => L2.CX0) rfl (by decide) (by kernel_rfl) ⟨rfl, by decide, by decide⟩ ?F (fun _ _ _ _ _ z => z)
    intro w mg fa h Y G hmg0
    obtain ⟨K, KX, c⟩ := Y
    have hmg : mg ("law" : PySem.Str) = some (.ref fa) := by
      have e : (HandSHeadRun.topDef (OpenLaw.row PySem.Challenge.rw_hearken_k08_kept_and_heard_late).prog 43).name = ("law" : PySem.Str) := by kernel_rfl
      rw [← e]
      exact hmg0
    have T : Hk.Tx K mg := ⟨h, KX, G, c.t.d, c.more⟩
    obtain ⟨fd, F⟩ := T.f_law
    have ef := hmg.symm.trans T.g_law
    cases ef
    have b := L2.FunD.bindsA (ps := ["_law_script"]) F fun _ _ _ _ _ _ us hl => match us, hl with | [_], _ => rfl
    refine ⟨K, KX, fd, Hk.tf.map (He.cT K), Hk.sp_law K, fun p hp => ?_, fun p hp => ?_, fun p hp => ?_, fun s v => b s [v] rfl, fun H a ns hl _ ht hS => ⟨a, ns, rfl, hS, hl, fun P hP => ?_, fun _ => rfl⟩, fun base _ _ hB => Hk.F_law_ok T (fun p hp => hB _ (List.mem_map_of_mem hp)) F⟩
    · obtain ⟨q, hq, rfl⟩ := List.mem_map.mp hp
      exact c.empty q hq
    · obtain ⟨q, hq, rfl⟩ := List.mem_map.mp hp
      exact c.out q hq
    · obtain ⟨q, hq, rfl⟩ := List.mem_map.mp hp
      exact PySem.W.codeHd_of_K KX (c.hd q hq)
    · obtain ⟨q, hq, rfl⟩ := List.mem_map.mp hP
      exact NdefX.TabN.nil (ht _ (List.mem_map_of_mem hq))

