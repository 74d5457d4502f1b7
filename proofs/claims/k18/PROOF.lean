import PyProof.Rows.All
import Wide.All
import OpenK.AllK
import Wide.FinOn
import HandS.ForMost
import HandS.Style
import HandS.Walk
import HandS.Defaults
import HandS.Exc
import HandS.Flow
import HandS.TryOnly
import HandS.ExcOwn
import HandS.WordsExc
import HandS.TupAny
import HandS.SetFor
import HandS.IsInst
import PyProof.StrBlock2
import KE.IntTextLaws
import HandS.HeadHook2
import HandS.HeadEnd
import HandS.Head2
import PySem.Challenge.RW_hearken_k18_rows_written_and_read
set_option Elab.async false
set_option linter.all false
set_option maxRecDepth 100000
set_option maxHeartbeats 4000000
/-! Common words for all the laws of hearken. -/
namespace Hk
open PySem PySem.Spec PyProof.Rows L2
/-! ### heaps that grow -/
/-- all that was tracked, but where S is, is as it was -/
def Ext (S : Addr → Prop) (H H' : Hp) : Prop := ∀ b o, ¬ S b → H b = some o → H' b = some o
abbrev No : Addr → Prop := fun _ => False
theorem Ext.refl (S : Addr → Prop) (H : Hp) : Ext S H H := fun _ _ _ h => h
theorem Ext.trans {S : Addr → Prop} {H H1 H2 : Hp} (a : Ext S H H1) (b : Ext S H1 H2) : Ext S H H2 := fun c o n h => b c o n (a c o n h)
theorem Ext.of_same {S : Addr → Prop} {H H' : Hp} (s : Same H H') : Ext S H H' := fun b o _ h => s b o h
theorem Ext.same {H H' : Hp} (e : Ext No H H') : Same H H' := fun b o h => e b o (fun z => z) h
theorem Ext.mono {S S' : Addr → Prop} {H H' : Hp} (e : Ext S H H') (h : ∀ b, S b → S' b) : Ext S' H H' := fun b o n q => e b o (fun z => n (h b z)) q
theorem Ext.free {S : Addr → Prop} {H H' : Hp} (e : Ext S H H') {l : Addr} (n : ¬ S l) (h : H' l = none) : H l = none := by
  cases q : H l with
  | none => rfl
  | some o =>
    rw [e l o n q] at h
    cases h
theorem Ext.put {S : Addr → Prop} {H H1 : Hp} {p : Addr} {o : HO} (s : Ext S H H1) (n : H p = none ∨ S p) : Ext S H (upd H1 p o) := fun b u nb h => by
  by_cases e : b = p
  · subst e
    rcases n with n | n
    · rw [h] at n; cases n
    · exact absurd n nb
  · rw [upd_ne e]
    exact s b u nb h
theorem same_put {H H1 : Hp} {p : Addr} {o : HO} (s : Same H H1) (n : H p = none) : Same H (upd H1 p o) := fun b u h => by
  by_cases e : b = p
  · subst e
    rw [h] at n; cases n
  · rw [upd_ne e]
    exact s b u h
theorem same_new {H H1 : Hp} {p : Addr} {o : HO} (s : Same H H1) (n : H1 p = none) : Same H (upd H1 p o) := same_put s (s.free n)
theorem same_tup {K : PySem.W.Frag} {H H' : Hp} {a : Addr} {xs : List V} (e : Same H H') (h : SqT K H a xs) : SqT K H' a xs := by
  rcases h with (h | ⟨o, h⟩) | h
  · exact .inl (.inl (e _ _ h))
  · exact .inl (.inr ⟨o, e _ _ h⟩)
  · exact .inr h
theorem small {n : Nat} (h : n ≤ 100000) : n ≤ sizeLine := Nat.le_trans h (by decide)
theorem smallLt {n : Nat} (h : n ≤ 100000) : n < sizeLine := Nat.lt_of_le_of_lt h (by decide)
theorem sgn_eq {c d : Nat} : ((⟨#[c]⟩ : Str) = ⟨#[d]⟩) = (c = d) := propext ⟨fun e => by
  have e2 : (#[c] : Array Nat) = #[d] := congrArg Str.cps e
  have e3 : [c] = [d] := congrArg Array.toList e2
  exact (List.cons.inj e3).1, fun e => by rw [e]⟩
theorem beq_dec {a b : Str} : (a == b) = decide (b = a) := by
  by_cases h : b = a
  · subst h; simp
  · rw [decide_eq_false h]; exact beq_eq_false_iff_ne.mpr (Ne.symm h)
/-- a text's words -/
def wds (z : Str) : List Str := Txt.split z "."
theorem split_dot {z : Str} : Txt.split z (Str.ofString ".") = wds z := rfl
def sps (z : Str) : List Str := Txt.split z " "
def nls (z : Str) : List Str := Txt.split z "\n"
theorem split_sp {z : Str} : Txt.split z (Str.ofString " ") = sps z := rfl
theorem split_nl {z : Str} : Txt.split z (Str.ofString "\n") = nls z := rfl
theorem dot_len : ((Str.ofString ".").length == 0) = false := by decide +kernel
theorem sp_len : ((Str.ofString " ").length == 0) = false := by decide +kernel
theorem nl_len : ((Str.ofString "\n").length == 0) = false := by decide +kernel
section
variable {CX : CXT} {P : Program} {w : World} {K : PySem.W.Frag} {mg : Str → Option Value} {base : Heap} {N : List Str} {qual : Str} {scope : Scope} {f : Addr} {cd : Value} {A : Around} {outer : List Env} {s : Shared} {H : Hp} {E : XK}
theorem cxOf_K : (cxOf CX P w K mg base N qual scope f cd A outer s H E).K = K := rfl
end
theorem ifP {c A B : Prop} [Decidable c] (h : c) (a : A) : if c then A else B := by rw [if_pos h]; exact a
theorem ifN {c A B : Prop} [Decidable c] (h : ¬ c) (b : B) : if c then A else B := by rw [if_neg h]; exact b
/-! ### a global def with its promise -/
structure Glob (P : Program) (w : World) (K : PySem.W.Frag) (mg : Str → Option Value) (base : Heap) (CX : CXT) (k : Nat) (x : Str) (ps : List Str) (dvs : List V) (sp : Sp) : Prop where
  ex : ∃ f fd ds, FnOk P w K mg base CX k f fd ps sp ∧ mg x = some (.ref f) ∧ PySem.W.keepIn K (.ref f) = true ∧ Vals dvs ds ∧ Binds K fd ps ds
theorem Glob.mono {P : Program} {w : World} {K : PySem.W.Frag} {mg : Str → Option Value} {base : Heap} {CX : CXT} {j k : Nat} {x : Str} {ps : List Str} {dvs : List V} {sp : Sp} (G : Glob P w K mg base CX j x ps dvs sp) (h : j ≤ k) : Glob P w K mg base CX k x ps dvs sp := by
  obtain ⟨f, fd, ds, F, r⟩ := G.ex
  exact ⟨f, fd, ds, F.mono h, r⟩
section
variable {X : Cx} {CX : CXT} {k : Nat} {x : Str} {ps : List Str} {dvs : List V} {sp : Sp} {E : XK} {p pos : Pos} {e : Expr} {es : List Expr} {t : TA}
theorem pe_callG (G : Glob X.prog X.w X.K X.mg X.base CX k x ps dvs sp) (hr : Room k X.A) (hg : Gl X x) (hx : Passes CX X E) (ha : PA X (e :: es) t)
    (hdb : (x == ("__debug__" : Str)) = false := by decide) (he : starEach (e :: es) X.env = (false, eval e X.env) :: starEach es X.env := by rfl) (hpl : (backTo pos (starEach es X.env)).any (·.1) = false := by rfl) :
    PE X (.Call (.Name x p) (e :: es) [] pos) (tCall sp dvs E t) := by
  refine ⟨fun pins s σ H Q I h => ?_⟩
  obtain ⟨f, fd, ds, F, hm, kp, vd, hb⟩ := G.ex
  exact (pe_call F hr hg hm kp hb vd hx ha hdb he hpl).run pins s σ H Q I h
theorem pe_callG0 (G : Glob X.prog X.w X.K X.mg X.base CX k x ps dvs sp) (hr : Room k X.A) (hg : Gl X x) (hx : Passes CX X E) (hdb : (x == ("__debug__" : Str)) = false := by decide) :
    PE X (.Call (.Name x p) [] [] pos) (tCall sp dvs E tNil) := by
  refine ⟨fun pins s σ H Q I h => ?_⟩
  obtain ⟨f, fd, ds, F, hm, kp, vd, hb⟩ := G.ex
  exact (pe_call0 F hr hg hm kp hb vd hx hdb).run pins s σ H Q I h
/-- a def that may raise, called where it does not -/
theorem passN : Passes (L2.CX X.prog X.w) X E0 := fun _ _ _ _ _ _ _ h => by
  obtain ⟨_, _, _, _, _, _, _, _, _, _, _, _, z⟩ := h
  exact z.elim
/-- a module's constant -/
theorem pe_gi {i : Int} (h : ∃ t, X.mg x = some (.int i t)) (hg : Gl X x) (hd : (x == ("__debug__" : Str)) = false := by decide) : PE X (.Name x pos) (tC (.int i)) := by
  obtain ⟨t, h⟩ := h
  exact pe_glob hg h ⟨t, rfl⟩ hd
theorem pe_gs {z : Str} (h : ∃ t, X.mg x = some (.str z t)) (hg : Gl X x) (hd : (x == ("__debug__" : Str)) = false := by decide) : PE X (.Name x pos) (tC (.str z)) := by
  obtain ⟨t, h⟩ := h
  exact pe_glob hg h ⟨t, rfl⟩ hd
end
/-! ### comprehensions: the new list by what has been gathered -/
/-- a comprehension's turns, behind its source -/
def LcG (J : It) (g : TG) (tt : TT) (te : TE) (vs : List Nat) (σ : L2.St) (H1 : Hp) (Q : VK) : Prop := ∀ D, H1 D = none → ∃ W : Nat → Nat → Hp → Prop, (∃ m, W 0 m (upd H1 D (.lst []))) ∧ ∀ i m H, W i m H →
  (J.stop i H ∧ Q (.ref D) H) ∨ (J.go i H ∧ ∃ Nx : Hp → Prop, (∀ H', Nx H' → ∃ m', m' < m ∧ W (i + 1) m' H') ∧ ∀ x H', J.yld i H x H' → g x (wipe σ vs) H' fun σ2 H2 => wipe σ2 vs = wipe σ vs ∧ tt σ2 H2 fun b H3 =>
    if b = true then te σ2 H3 fun y H4 => ∃ acc, H4 D = some (.lst acc) ∧ acc.length < sizeLine ∧ Nx (upd H4 D (.lst (acc ++ [y]))) else Nx H3)
theorem tLc_eq {wi : TI} {g : TG} {tt : TT} {te : TE} {vs : List Nat} {σ : L2.St} {H : Hp} {Q : VK} : tLc wi g tt te vs σ H Q = wi σ H fun J H1 => LcG J g tt te vs σ H1 Q := rfl
/-- a for's turns, behind its source -/
def ForG (J : It) (g : TG) (tb : TS) (D : Ends) (σ : L2.St) (H : Hp) : Prop := ∃ W : Nat → Nat → L2.St → Hp → Prop, (∃ m, W 0 m σ H) ∧ ∀ i m σ H, W i m σ H →
  (J.stop i H ∧ D.nx σ H) ∨ (J.go i H ∧ ∃ N : L2.St → Hp → Prop, (∀ σ' H', N σ' H' → ∃ m', m' < m ∧ W (i + 1) m' σ' H') ∧ ∀ x H', J.yld i H x H' → g x σ H' fun σ2 H2 => tb { D with nx := N, ct := N, bk := D.nx } σ2 H2)
theorem tFor_eq {wi : TI} {g : TG} {tb : TS} {D : Ends} {σ : L2.St} {H : Hp} : tFor wi g tb D σ H = wi σ H fun J H1 => ForG J g tb D σ H1 := rfl
theorem forG {J : It} {n : Nat} {G : Hp → Prop} {Y : Nat → Hp → V → Hp → Prop} (w : Walk J n G Y) {g : TG} {tb : TS} {D : Ends} {σ : L2.St} {H : Hp} (Pv : Nat → L2.St → Hp → Prop) (h0 : Pv 0 σ H) (hG : ∀ i σ H, i ≤ n → Pv i σ H → G H)
    (hs : ∀ i x σ H H', i < n → Pv i σ H → Y i H x H' → g x σ H' fun σ2 H2 => tb { D with nx := Pv (i + 1), ct := Pv (i + 1), bk := D.nx } σ2 H2) (hd : ∀ σ H, Pv n σ H → D.nx σ H) : ForG J g tb D σ H := for_it w Pv h0 hG hs hd
theorem lc_acc {J : It} {n : Nat} {G : Hp → Prop} {Y : Nat → Hp → V → Hp → Prop} (w : Walk J n G Y) {g : TG} {tt : TT} {te : TE} {vs : List Nat} {σ : L2.St} {H1 : Hp} {Q : VK} (S : Addr → Prop) (Iv : Hp → Prop) (Pa : Nat → List V → Prop)
    (hn : n < sizeLine) (nD : ∀ D, H1 D = none → ¬ S D) (h0 : Pa 0 []) (i0 : Iv H1) (hI : ∀ D H o, H1 D = none → Iv H → Iv (upd H D o)) (hG : ∀ H, Ext S H1 H → Iv H → G H)
    (hs : ∀ i x H H' acc (R : Option V → Hp → Prop), i < n → Ext S H1 H → Iv H → Pa i acc → Y i H x H' →
      (∀ H2, Ext S H H2 → Iv H2 → Pa (i + 1) acc → R none H2) → (∀ y H2, Ext S H H2 → Iv H2 → Pa (i + 1) (acc ++ [y]) → R (some y) H2) →
      g x (wipe σ vs) H' fun σ2 H2 => wipe σ2 vs = wipe σ vs ∧ tt σ2 H2 fun b H3 => if b = true then te σ2 H3 (fun y H4 => R (some y) H4) else R none H3)
    (hd : ∀ D acc H, H1 D = none → Pa n acc → acc.length ≤ n → Ext S H1 H → Iv H → H D = some (.lst acc) → Q (.ref D) H) : LcG J g tt te vs σ H1 Q := by
  intro D fD
  have nD := nD D fD
  have hI := fun H o => hI D H o fD
  refine lc_it w (fun i H => ∃ acc, Pa i acc ∧ acc.length ≤ i ∧ Ext S H1 H ∧ Iv H ∧ H D = some (.lst acc)) ⟨[], h0, Nat.le_refl _, (Ext.refl S H1).put (.inl fD), hI _ _ i0, upd_same⟩ (fun i H _ ⟨acc, _, _, e, iv, _⟩ => hG H e iv) (fun i x H H' hi hP hy => ?_)
    (fun H ⟨acc, p, l, e, iv, hD⟩ => hd D acc H fD p l e iv hD)
  obtain ⟨acc, p, l, e, iv, hD⟩ := hP
  refine hs i x H H' acc (fun o H4 => match o with
    | some y => ∃ acc, H4 D = some (.lst acc) ∧ acc.length < sizeLine ∧ ∃ acc', Pa (i + 1) acc' ∧ acc'.length ≤ i + 1 ∧ Ext S H1 (upd H4 D (.lst (acc ++ [y]))) ∧ Iv (upd H4 D (.lst (acc ++ [y]))) ∧ (upd H4 D (.lst (acc ++ [y]))) D = some (.lst acc')
    | none => ∃ acc', Pa (i + 1) acc' ∧ acc'.length ≤ i + 1 ∧ Ext S H1 H4 ∧ Iv H4 ∧ H4 D = some (.lst acc')) hi e iv p hy (fun H2 e2 iv2 p2 => ?_) (fun y H2 e2 iv2 p2 => ?_)
  · exact ⟨acc, p2, Nat.le_succ_of_le l, e.trans e2, iv2, e2 D _ nD hD⟩
  · exact ⟨acc, e2 D _ nD hD, Nat.lt_of_le_of_lt (Nat.le_trans l (Nat.le_of_lt hi)) hn, acc ++ [y], p2, by rw [List.length_append]; exact Nat.succ_le_succ l, (e.trans e2).put (.inl fD), hI _ _ iv2, upd_same⟩
section
variable {K : PySem.W.Frag} {a b : Addr}
theorem walk_listm {α : Type} (xs : List α) (inj : α → V) : Walk (Itl K a) xs.length (fun H => SqL K H a (xs.map inj)) (fun i H x H' => H' = H ∧ ∃ y, xs[i]? = some y ∧ x = inj y) := by
  have w := walk_list (K := K) (a := a) (xs := xs.map inj)
  rw [List.length_map] at w
  refine w.mono (fun H h => h) (fun i H x H' hi _ y => ⟨y.1, ?_⟩)
  have h := y.2
  rw [List.getElem?_map] at h
  cases q : xs[i]? with
  | none => rw [q] at h; cases h
  | some z => rw [q] at h; exact ⟨z, rfl, (Option.some.inj h).symm⟩
theorem walk_tupm {α : Type} (xs : List α) (inj : α → V) : Walk (Itt K a) xs.length (fun H => SqT K H a (xs.map inj)) (fun i H x H' => H' = H ∧ ∃ y, xs[i]? = some y ∧ x = inj y) := by
  have w := walk_tup (K := K) (a := a) (xs := xs.map inj)
  rw [List.length_map] at w
  refine w.mono (fun H h => h) (fun i H x H' hi _ y => ⟨y.1, ?_⟩)
  have h := y.2
  rw [List.getElem?_map] at h
  cases q : xs[i]? with
  | none => rw [q] at h; cases h
  | some z => rw [q] at h; exact ⟨z, rfl, (Option.some.inj h).symm⟩
/-- zip of two lists: a new pair at each turn -/
theorem walk_zipm {α β : Type} (xs : List α) (ys : List β) (f : α → V) (g : β → V) : Walk (Itz K a b) (xs.zip ys).length (fun H => SqL K H a (xs.map f) ∧ SqL K H b (ys.map g))
    (fun i H v H' => ∃ (t : Addr) (q : α × β), v = .ref t ∧ H t = none ∧ H' = upd H t (.tup [f q.1, g q.2]) ∧ (xs.zip ys)[i]? = some q) := by
  have w := walk_zip (K := K) (a := a) (b := b) (xs := xs.map f) (ys := ys.map g) (n := (xs.zip ys).length) (by rw [List.length_zip, List.length_map, List.length_map])
  refine w.mono (fun H h => h) (fun i H x H' hi _ y => ?_)
  obtain ⟨t, x1, x2, e1, e2, e3, e4, e5⟩ := y
  have h1 : (xs.zip ys)[i]? = some (xs.zip ys)[i] := List.getElem?_eq_getElem hi
  have h2 := List.getElem?_zip_eq_some.mp h1
  have e6 : x1 = f (xs.zip ys)[i].1 := by
    have e4 : (xs.map f)[i]? = some x1 := e4
    rw [List.getElem?_map, h2.1] at e4
    exact (Option.some.inj e4).symm
  have e7 : x2 = g (xs.zip ys)[i].2 := by
    have e5 : (ys.map g)[i]? = some x2 := e5
    rw [List.getElem?_map, h2.2] at e5
    exact (Option.some.inj e5).symm
  exact ⟨t, _, e1, e2, by rw [e3, e6, e7], h1⟩
theorem ixN_in {n : Nat} {i : Int} (h0 : 0 ≤ i) (h1 : i < n) : ixN n i = some i.toNat := by
  unfold ixN
  rw [if_pos h0, if_pos h1]
theorem atI_neg1 {xs : List V} (h : xs ≠ []) : atI xs (-1) = xs.getLast? := by
  have e : xs = xs.dropLast ++ [xs.getLast h] := (List.dropLast_concat_getLast h).symm
  rw [e, atI_last]
  simp
end
/-- a comprehension that changes nothing that stood: the new list is F of the items, where it is some -/
theorem lc_fil {α : Type} (xs : List α) (F : α → Option V) {J : It} {G : Hp → Prop} {Y : Nat → Hp → V → Hp → Prop} (w : Walk J xs.length G Y) {g : TG} {tt : TT} {te : TE} {vs : List Nat} {σ : L2.St} {H1 : Hp} {Q : VK}
    (hn : xs.length ≤ 100000) (hG : ∀ H, Same H1 H → G H)
    (hs : ∀ i a x H H' (R : Option V → Hp → Prop), xs[i]? = some a → Same H1 H → Y i H x H' → (∀ H2, Same H H2 → R (F a) H2) →
      g x (wipe σ vs) H' fun σ2 H2 => wipe σ2 vs = wipe σ vs ∧ tt σ2 H2 fun b H3 => if b = true then te σ2 H3 (fun y H4 => R (some y) H4) else R none H3)
    (hd : ∀ D H, H1 D = none → Same H1 H → H D = some (.lst (xs.filterMap F)) → Q (.ref D) H) : LcG J g tt te vs σ H1 Q := by
  refine lc_acc w No (fun _ => True) (fun i acc => acc = (xs.take i).filterMap F) (smallLt hn) (fun _ _ z => z) rfl trivial (fun _ _ _ _ _ => trivial) (fun H e _ => hG H e.same) (fun i x H H' acc R hi e _ p hy r0 r1 => ?_) (fun D acc H fD p _ e _ hD => ?_)
  · have hx : xs[i]? = some xs[i] := List.getElem?_eq_getElem hi
    refine hs i xs[i] x H H' R hx e.same hy (fun H2 s2 => ?_)
    cases q : F xs[i] with
    | none =>
      refine r0 H2 (.of_same s2) trivial ?_
      rw [p, List.take_add_one, hx, List.filterMap_append]
      simp [q]
    | some y =>
      refine r1 y H2 (.of_same s2) trivial ?_
      rw [p, List.take_add_one, hx, List.filterMap_append]
      simp [q]
  · subst p
    refine hd D H fD e.same ?_
    rw [hD, List.take_length]
/-- .. the new list is f of the items -/
theorem lc_map {α : Type} (xs : List α) (f : α → V) {J : It} {G : Hp → Prop} {Y : Nat → Hp → V → Hp → Prop} (w : Walk J xs.length G Y) {g : TG} {te : TE} {vs : List Nat} {σ : L2.St} {H1 : Hp} {Q : VK}
    (hn : xs.length ≤ 100000) (hG : ∀ H, Same H1 H → G H)
    (hs : ∀ i a x H H' (R : VK), xs[i]? = some a → Same H1 H → Y i H x H' → (∀ H2, Same H H2 → R (f a) H2) →
      g x (wipe σ vs) H' fun σ2 H2 => wipe σ2 vs = wipe σ vs ∧ te σ2 H2 R)
    (hd : ∀ D H, H1 D = none → Same H1 H → H D = some (.lst (xs.map f)) → Q (.ref D) H) : LcG J g tYes te vs σ H1 Q := by
  refine lc_fil xs (fun a => some (f a)) w hn hG (fun i a x H H' R hx s1 hy r => ?_) (fun D H fD s1 hD => hd D H fD s1 ?_)
  · simp only [tYes, if_true]
    exact hs i a x H H' (fun v h => R (some v) h) hx s1 hy r
  · rw [hD]
    simp
end Hk

set_option Elab.async false
set_option linter.all false
set_option maxRecDepth 100000
set_option maxHeartbeats 4000000
/-! The rules that speak of X.K, with K told (a comprehension's block has an X of its own). -/
namespace Hk
open PySem PySem.Spec PyProof.Rows L2
section
variable {X : Cx} {K : PySem.W.Frag} (hK : X.K = K)
include hK
theorem ix_listK : IxR X (rIxL K) := by subst hK; exact ix_list
theorem ix_tupK : IxR X (rIxT K) := by subst hK; exact ix_tup
theorem sl_listK : SlR X (rSlL K) := by subst hK; exact sl_list
theorem sl_tupK : SlR X (rSlA K) := by subst hK; exact sl_tupA
theorem op_in_seqK : OpR X (compareOp .In) (rIn K false) := by subst hK; exact op_in_seq
theorem op_notIn_seqK : OpR X (compareOp .NotIn) (rIn K true) := by subst hK; exact op_notIn_seq
def rLenK (K : PySem.W.Frag) : List V → Hp → VK → Prop := fun xs H Q => ∃ p ys, xs = [.ref p] ∧ (SqL K H p ys ∨ SqT K H p ys) ∧ Q (.int ys.length) H
theorem call_len_seqK : CallR X (.builtin "len") (rLenK K) := by subst hK; exact call_len_seq
theorem cr_allK (hc : X.calm = true) : CallR X (.builtin "all") (rAll K) := by subst hK; exact cr_all hc
theorem cr_anyK (hc : X.calm = true) : CallR X (.builtin "any") (rAny K) := by subst hK; exact cr_any hc
def rListOf (K : PySem.W.Frag) : List V → Hp → VK → Prop := fun xs H Q => ∃ p ys, xs = [.ref p] ∧ (SqL K H p ys ∨ SqT K H p ys) ∧ ∀ l, H l = none → Q (.ref l) (upd H l (.lst ys))
theorem call_list_ofK : CallR X (.type "list") (rListOf K) := by subst hK; exact call_list_of
theorem op_eqDK (hu : X.A.units + 64 < cLine) : OpR X (compareOp .Eq) (rEqD K) := by subst hK; exact op_eqD hu
theorem op_neDK (hu : X.A.units + 64 < cLine) : OpR X (compareOp .NotEq) (rNeD K) := by subst hK; exact op_neD hu
theorem op_catAK : OpR X (binaryOp .Add) (rCatA K) := by subst hK; exact op_catA
theorem pi_listK {tg l : Expr} {tl : TE} (hl : PE X l tl) : PI X tg l (iList K tl) := by subst hK; exact pi_list hl
theorem pi_tupK {tg l : Expr} {tl : TE} (hl : PE X l tl) : PI X tg l (iTup K tl) := by subst hK; exact pi_tup hl
theorem pi_zipK {e e2 : Expr} {ta : TA} {p pos tpos : Pos} {elts : List Expr} {kk : Nat} (hg : Gl X "zip") (hm : X.mg "zip" = none) (ha : PA X [e, e2] ta)
    (hs : starEach [e, e2] X.env = (false, eval e X.env) :: starEach [e2] X.env := by rfl) (hpl : (backTo pos (starEach [e2] X.env)).any (·.1) = false := by rfl) :
    PI X (.Tuple elts kk tpos) (.Call (.Name "zip" p) [e, e2] [] pos) (iZip K ta) := by subst hK; exact pi_zip hg hm ha hs hpl
theorem pi_enumK {e : Expr} {ta : TA} {p pos tpos : Pos} {elts : List Expr} {kk : Nat} (hg : Gl X "enumerate") (hm : X.mg "enumerate" = none) (ha : PA X [e] ta) (hs : starEach [e] X.env = [(false, eval e X.env)] := by rfl) :
    PI X (.Tuple elts kk tpos) (.Call (.Name "enumerate" p) [e] [] pos) (iEnum K ta) := by subst hK; exact pi_enum hg hm ha hs
theorem pg_tupK {es : List Expr} {k : Nat} {t : TGs} {n : Nat} {pos : Pos} (hc : X.calm = true) (h : PGs X es t) (hn : (assignEach es X.env).length = n := by rfl) (hst : (assignEach es X.env).findIdx? (·.1) = none := by rfl) :
    PG X (.Tuple es k pos) (gTup K n t) := by subst hK; exact pg_tup hc h hn hst
theorem pe_bm0K {o : Expr} {to : TE} {name : Str} {apos cpos : Pos} {T id : String} {r : V → List V → Hp → VK → Prop} (pa : PlainAttrs T) (slot : Slot T name id) (hty : typeOf (.builtin id) = pure (.type "method_descriptor")) (hm : MtR X id r) (ho : PE X o to)
    (hbase : attributeBase o name X.env (eval o X.env) = eval o X.env := by rfl) (hline : (apos.endLine == cpos.line) = true := by rfl) : PE X (.Call (.Attribute o name apos) [] [] cpos) (tBM0 K T r to) := by
  subst hK; exact pe_bm0 pa slot hty hm ho hbase hline
theorem pe_bmK {o e : Expr} {es : List Expr} {to : TE} {t : TA} {name : Str} {apos cpos : Pos} {T id : String} {r : V → List V → Hp → VK → Prop} (pa : PlainAttrs T) (slot : Slot T name id) (hty : typeOf (.builtin id) = pure (.type "method_descriptor")) (hm : MtR X id r) (ho : PE X o to) (ha : PA X (e :: es) t)
    (hbase : attributeBase o name X.env (eval o X.env) = eval o X.env := by rfl)
    (hfew : ((backTo cpos (starEach (e :: es) X.env)).all (fun x => !x.1) && (backToKw cpos (keywordEach [] X.env)).all (fun x => x.1.isSome)
      && decide ((e :: es).length + ([] : List Keyword).length + (if ([] : List Keyword).isEmpty then 0 else 1) < 30)) = true := by rfl)
    (hline : (apos.endLine == cpos.line) = true := by rfl) (hs : starEach (e :: es) X.env = (false, eval e X.env) :: starEach es X.env := by rfl) (hplain : (backTo cpos (starEach es X.env)).any (·.1) = false := by rfl) :
    PE X (.Call (.Attribute o name apos) (e :: es) [] cpos) (tBM K T r to t) := by subst hK; exact pe_bm pa slot hty hm ho ha hbase hfew hline hs hplain
def rJoin (K : PySem.W.Frag) : V → List V → Hp → VK → Prop := fun x xs H Q => ∃ a p, ∃ ys : List Str, x = .str a ∧ xs = [.ref p] ∧ (SqL K H p (ys.map V.str) ∨ SqT K H p (ys.map V.str)) ∧
      (ys.map (·.length)).sum + ys.length * a.length ≤ 16777216 ∧ Q (.str (Txt.join a ys)) H
theorem pe_joinK {o e : Expr} {to te : TE} {apos pos : Pos} (ho : PE X o to) (he : PE X e te) (hs : starEach [e] X.env = [(false, eval e X.env)] := by rfl) (hbase : attributeBase o "join" X.env (eval o X.env) = eval o X.env := by rfl) (hline : (apos.endLine == pos.line) = true := by rfl) :
    PE X (.Call (.Attribute o "join" apos) [e] [] pos) (tM1 (rJoin K) to te) := by subst hK; exact pe_join ho he hs hbase hline
theorem pt_truthK {a : Expr} {ta : TE} (ha : PE X a ta) (he : ∀ whole, isTrue a X.env whole = (do let v ← whole; standAt a.pos; holding [v] (truthy v))) :
    PT X a (fun σ H Q => ta σ H fun x H' => ∃ k, TruV K x H' k ∧ Q k H') := by subst hK; exact pt_truth ha he
theorem pe_notTK {a : Expr} {ta : TE} {pos : Pos} (ha : PE X a ta) : PE X (.UnaryOp .Not a pos) (tNotT K ta) := by subst hK; exact pe_notT ha
theorem mt_indexK : MtR X "list.index" (rIndex K) := by subst hK; exact mt_index
theorem mt_lcountK : MtR X "list.count" (rCntI K) := by subst hK; exact mt_lcount
theorem pe_fldK {e : Expr} {f : Str} {ta : TE} {pos : Pos} (he : PE X e ta) (hb : attributeBase e f X.env (eval e X.env) = eval e X.env) : PE X (.Attribute e f pos) (tFld K ta f) := by subst hK; exact pe_fld he hb
end
/-! ### words for readings -/
theorem scal_ss {a b : Str} : scal (.str a) (.str b) = true := rfl
theorem scal_ii {a b : Int} : scal (.int a) (.int b) = true := rfl
theorem scal_bb {a b : Bool} : scal (.bl a) (.bl b) = true := rfl
theorem scal_ns {b : Str} : scal .non (.str b) = true := rfl
theorem scal_sn {b : Str} : scal (.str b) .non = true := rfl
theorem scal_nn : scal .non .non = true := rfl
theorem scal_in {a : Int} : scal (.int a) .non = true := rfl
theorem scal_ni {a : Int} : scal .non (.int a) = true := rfl
theorem gCons_cons {t : TG} {u : TGs} {x : V} {xs : List V} {σ : L2.St} {H : Hp} {Q : L2.St → Hp → Prop} : gCons t u (x :: xs) σ H Q = t x σ H fun σ' H' => u xs σ' H' Q := propext ⟨fun ⟨v, r, e, h⟩ => by cases e; exact h, fun h => ⟨x, xs, rfl, h⟩⟩
theorem gNil_nil {σ : L2.St} {H : Hp} {Q : L2.St → Hp → Prop} : gNil [] σ H Q = Q σ H := propext ⟨fun h => h.2, fun h => ⟨rfl, h⟩⟩
theorem gTup_ref {K : PySem.W.Frag} {n : Nat} {t : TGs} {a : Addr} {σ : L2.St} {H : Hp} {Q : L2.St → Hp → Prop} : gTup K n t (.ref a) σ H Q = ∃ xs, SqT K H a xs ∧ xs.length = n ∧ t xs σ H Q := propext ⟨fun ⟨_, xs, e, h⟩ => by cases e; exact ⟨xs, h⟩, fun ⟨xs, h⟩ => ⟨a, xs, rfl, h⟩⟩
theorem rSetL_ref {p : Addr} {k : Int} {v : V} {H : Hp} {Q : Hp → Prop} : rSetL (.ref p) (.int k) v H Q = ∃ xs j, H p = some (.lst xs) ∧ ixN xs.length k = some j ∧ Q (upd H p (.lst (xs.set j v))) := propext ⟨fun ⟨_, xs, _, j, e, e2, h⟩ => by cases e; cases e2; exact ⟨xs, j, h⟩, fun ⟨xs, j, h⟩ => ⟨p, xs, k, j, rfl, rfl, h⟩⟩
theorem rCat_ref {l b : Addr} {H : Hp} {Q : VK} : rCat (.ref l) (.ref b) H Q = ∃ xs zs, H l = some (.lst xs) ∧ H b = some (.lst zs) ∧ xs.length + zs.length ≤ sizeLine ∧ ∀ p, H p = none → Q (.ref p) (upd H p (.lst (xs ++ zs))) := propext ⟨fun ⟨_, _, xs, zs, e, e2, h⟩ => by cases e; cases e2; exact ⟨xs, zs, h⟩, fun ⟨xs, zs, h⟩ => ⟨l, b, xs, zs, rfl, rfl, h⟩⟩
theorem rRep_ref {l : Addr} {k : Int} {H : Hp} {Q : VK} : rRep (.ref l) (.int k) H Q = ∃ xs, H l = some (.lst xs) ∧ -(2 ^ 63) ≤ k ∧ k < 2 ^ 63 ∧ xs.length * k.toNat ≤ sizeLine ∧ ∀ p, H p = none → Q (.ref p) (upd H p (.lst (List.replicate k.toNat xs).flatten)) := propext ⟨fun ⟨_, _, xs, e, e2, h⟩ => by cases e; cases e2; exact ⟨xs, h⟩, fun ⟨xs, h⟩ => ⟨l, k, xs, rfl, rfl, h⟩⟩
theorem rJoin_ref {K : PySem.W.Frag} {a : Str} {p : Addr} {H : Hp} {Q : VK} : rJoin K (.str a) [.ref p] H Q = ∃ ys : List Str, (SqL K H p (ys.map V.str) ∨ SqT K H p (ys.map V.str)) ∧ (ys.map (·.length)).sum + ys.length * a.length ≤ 16777216 ∧ Q (.str (Txt.join a ys)) H := propext ⟨fun ⟨_, _, xs, e, e2, h⟩ => by cases e; cases e2; exact ⟨xs, h⟩, fun ⟨xs, h⟩ => ⟨a, p, xs, rfl, rfl, h⟩⟩
theorem rSlL_ref {K : PySem.W.Frag} {a : Addr} {lo hi : Option Int} {H : Hp} {Q : VK} : rSlL K (.ref a) lo hi H Q = ∃ xs, SqL K H a xs ∧ ∀ p, H p = none → Q (.ref p) (upd H p (.lst (cutV xs lo hi))) := propext ⟨fun ⟨_, xs, e, h⟩ => by cases e; exact ⟨xs, h⟩, fun ⟨xs, h⟩ => ⟨a, xs, rfl, h⟩⟩
theorem rSlS_ref {z : Str} {lo hi : Option Int} {H : Hp} {Q : VK} : rSlS (.str z) lo hi H Q = (z.length ≤ sizeLine ∧ Q (.str (cutS z lo hi)) H) := propext ⟨fun ⟨_, e, h⟩ => by cases e; exact h, fun h => ⟨z, rfl, h⟩⟩
theorem rIxL_ref {K : PySem.W.Frag} {p : Addr} {i : Int} {H : Hp} {Q : VK} : rIxL K (.ref p) (.int i) H Q = ∃ xs v, SqL K H p xs ∧ atI xs i = some v ∧ Q v H := propext ⟨fun ⟨_, xs, _, v, e, e2, h⟩ => by cases e; cases e2; exact ⟨xs, v, h⟩, fun ⟨xs, v, h⟩ => ⟨p, xs, i, v, rfl, rfl, h⟩⟩
theorem rIxT_ref {K : PySem.W.Frag} {p : Addr} {i : Int} {H : Hp} {Q : VK} : rIxT K (.ref p) (.int i) H Q = ∃ xs v, SqT K H p xs ∧ atI xs i = some v ∧ Q v H := propext ⟨fun ⟨_, xs, _, v, e, e2, h⟩ => by cases e; cases e2; exact ⟨xs, v, h⟩, fun ⟨xs, v, h⟩ => ⟨p, xs, i, v, rfl, rfl, h⟩⟩
theorem rLenK_ref {K : PySem.W.Frag} {p : Addr} {H : Hp} {Q : VK} : rLenK K [.ref p] H Q = ∃ ys, (SqL K H p ys ∨ SqT K H p ys) ∧ Q (.int ys.length) H := propext ⟨fun ⟨_, ys, e, h⟩ => by cases e; exact ⟨ys, h⟩, fun ⟨ys, h⟩ => ⟨p, ys, rfl, h⟩⟩
theorem rAll_ref {K : PySem.W.Frag} {p : Addr} {H : Hp} {Q : VK} : rAll K [.ref p] H Q = ∃ bs : List Bool, SqL K H p (bs.map V.bl) ∧ Q (.bl (bs.all id)) H := propext ⟨fun ⟨_, ys, e, h⟩ => by cases e; exact ⟨ys, h⟩, fun ⟨ys, h⟩ => ⟨p, ys, rfl, h⟩⟩
theorem rIn_ref {K : PySem.W.Frag} {b : Bool} {p : Addr} {x : V} {H : Hp} {Q : VK} : rIn K b x (.ref p) H Q = ∃ xs, (SqL K H p xs ∨ SqT K H p xs) ∧ flatV x = true ∧ xs.all flatV = true ∧ Q (.bl (if b then !inV x xs else inV x xs)) H := propext ⟨fun ⟨_, ys, e, h⟩ => by cases e; exact ⟨ys, h⟩, fun ⟨ys, h⟩ => ⟨p, ys, rfl, h⟩⟩
/-! ### a text once or not at all -/
def rMulS : R2 := fun x y H Q => ∃ z n, x = .str z ∧ y = .int n ∧ (n = 0 ∨ n = 1) ∧ Q (.str (if n = 1 then z else Str.empty)) H
theorem op_mulS {X : Cx} : OpR X (binaryOp .Mult) rMulS := by
  intro pins s σ H x y v u Q I rx ry h
  obtain ⟨z, n, rfl, rfl, hn, q⟩ := h
  obtain ⟨t, rfl⟩ := rx
  obtain ⟨t', rfl⟩ := ry
  refine SB.mul ?_ fun t2 k => ⟨.str (Txt.mul z n), H, I.tok _, ⟨_, rfl⟩, ?_⟩
  · rcases hn with rfl | rfl
    · exact ⟨by decide, fun h => absurd (by decide) h, fun h => absurd (by decide) h⟩
    · exact ⟨by decide, fun _ h => by simp at h, fun _ h => by simp at h⟩
  · have e : Txt.mul z n = if n = 1 then z else Str.empty := by
      rcases hn with rfl | rfl
      · rfl
      · rfl
    rw [e]; exact q
theorem rMulS_ref {z : Str} {n : Int} {H : Hp} {Q : VK} : rMulS (.str z) (.int n) H Q = ((n = 0 ∨ n = 1) ∧ Q (.str (if n = 1 then z else Str.empty)) H) := propext ⟨fun ⟨_, _, e, e2, h⟩ => by cases e; cases e2; exact h, fun h => ⟨z, n, rfl, rfl, h⟩⟩
/-! ### isinstance -/
section
variable {X : Cx} {K : PySem.W.Frag} (hK : X.K = K)
include hK
theorem call_isiK1 : CallR X (.builtin "isinstance") (rIsi K) := by subst hK; exact call_isi
theorem call_isiTK : CallR X (.builtin "isinstance") (rIsiT K) := by subst hK; exact call_isiT
theorem ix_seqK : IxR X (rIx K) := by subst hK; exact ix_seq
end
def tyName : PyData → String
  | .none => "NoneType"
  | .bool _ => "bool"
  | .int _ => "int"
  | .str _ => "str"
  | .list _ => "list"
  | .tuple _ => "tuple"
  | .dict _ => "dict"
theorem tyx_dp {K : PySem.W.Frag} {H : Hp} {x : V} {d : PyData} (h : Dp K H x d) : TyX K H x (.type (tyName d)) := by
  cases h with
  | non => exact .base .non
  | bl b => exact .base (.bl b)
  | int i => exact .base (.int i)
  | str x => exact .base (.str x)
  | lst h _ =>
    rcases h with (h | ⟨o, h⟩) | ⟨o, its, n, h, c, _⟩
    · exact .base (.lst h)
    · exact .base (.frz h)
    · exact .kList h c
  | tup h _ =>
    rcases h with (h | ⟨o, h⟩) | ⟨o, its, n, h, c, _⟩
    · exact .base (.tup h)
    · exact .fTuple h
    · exact .kTuple h c
theorem isi_dp {K : PySem.W.Frag} {H : Hp} {x : V} {d : PyData} {n : String} {b : Bool} {Q : VK} (h : Dp K H x d) (e : kitB (tyName d) n = some b) (q : Q (.bl b) H) : rIsi K [x, .ty n] H Q :=
  ⟨x, .ty n, _, _, b, rfl, .ty n, tyx_dp h, kit_ty e, q⟩
theorem isiT_dp {K : PySem.W.Frag} {H : Hp} {x : V} {d : PyData} {tp : Addr} {n m : String} {b c : Bool} {Q : VK} (h : Dp K H x d) (ht : H tp = some (.tup [.ty n, .ty m])) (e : kitB (tyName d) n = some b) (e2 : kitB (tyName d) m = some c) (q : Q (.bl (b || c)) H) : rIsiT K [x, .ref tp] H Q := by
  refine ⟨x, tp, _, _, [.type n, .type m], b || c, rfl, ht, .cons (.ty n) (.cons (.ty m) .nil), tyx_dp h, kitAny_cons (kit_ty e) (fun hb => ?_) (fun hb => by rw [hb]; rfl), q⟩
  subst hb
  exact kitAny_cons (r := c) (kit_ty e2) (fun hc => by rw [hc]; exact kitAny_nil) (fun hc => hc)
theorem kb_NoneType_tuple : kitB "NoneType" "tuple" = some false := by decide +kernel
theorem kb_NoneType_list : kitB "NoneType" "list" = some false := by decide +kernel
theorem kb_NoneType_str : kitB "NoneType" "str" = some false := by decide +kernel
theorem kb_NoneType_int : kitB "NoneType" "int" = some false := by decide +kernel
theorem kb_NoneType_bool : kitB "NoneType" "bool" = some false := by decide +kernel
theorem kb_bool_tuple : kitB "bool" "tuple" = some false := by decide +kernel
theorem kb_bool_list : kitB "bool" "list" = some false := by decide +kernel
theorem kb_bool_str : kitB "bool" "str" = some false := by decide +kernel
theorem kb_bool_int : kitB "bool" "int" = some true := by decide +kernel
theorem kb_bool_bool : kitB "bool" "bool" = some true := by decide +kernel
theorem kb_int_tuple : kitB "int" "tuple" = some false := by decide +kernel
theorem kb_int_list : kitB "int" "list" = some false := by decide +kernel
theorem kb_int_str : kitB "int" "str" = some false := by decide +kernel
theorem kb_int_int : kitB "int" "int" = some true := by decide +kernel
theorem kb_int_bool : kitB "int" "bool" = some false := by decide +kernel
theorem kb_str_tuple : kitB "str" "tuple" = some false := by decide +kernel
theorem kb_str_list : kitB "str" "list" = some false := by decide +kernel
theorem kb_str_str : kitB "str" "str" = some true := by decide +kernel
theorem kb_str_int : kitB "str" "int" = some false := by decide +kernel
theorem kb_str_bool : kitB "str" "bool" = some false := by decide +kernel
theorem kb_list_tuple : kitB "list" "tuple" = some false := by decide +kernel
theorem kb_list_list : kitB "list" "list" = some true := by decide +kernel
theorem kb_list_str : kitB "list" "str" = some false := by decide +kernel
theorem kb_list_int : kitB "list" "int" = some false := by decide +kernel
theorem kb_list_bool : kitB "list" "bool" = some false := by decide +kernel
theorem kb_tuple_tuple : kitB "tuple" "tuple" = some true := by decide +kernel
theorem kb_tuple_list : kitB "tuple" "list" = some false := by decide +kernel
theorem kb_tuple_str : kitB "tuple" "str" = some false := by decide +kernel
theorem kb_tuple_int : kitB "tuple" "int" = some false := by decide +kernel
theorem kb_tuple_bool : kitB "tuple" "bool" = some false := by decide +kernel
mutual
/-- every list and tuple within is of bounded length -/
def smallD : PyData → Bool
  | .list xs => decide (xs.length ≤ 100000) && smallAll xs
  | .tuple xs => decide (xs.length ≤ 100000) && smallAll xs
  | .none => true
  | .bool _ => true
  | .int _ => true
  | .str _ => true
  | .dict _ => true
def smallAll : List PyData → Bool
  | [] => true
  | x :: r => smallD x && smallAll r
end
theorem small_in : ∀ {ds : List PyData}, smallAll ds = true → ∀ d ∈ ds, smallD d = true
  | [], _, _, h => nomatch h
  | x :: r, h, d, hd => by
    simp only [smallAll, Bool.and_eq_true] at h
    rcases List.mem_cons.mp hd with e | e
    · rw [e]; exact h.1
    · exact small_in h.2 d e
theorem smallAll_of : ∀ {ds : List PyData}, (∀ d ∈ ds, smallD d = true) → smallAll ds = true
  | [], _ => by simp only [smallAll]
  | x :: r, h => by
    simp only [smallAll]
    rw [h x (List.mem_cons_self ..), smallAll_of fun d hd => h d (List.mem_cons_of_mem _ hd)]; rfl
theorem smallL_of {ds : List PyData} (hl : ds.length ≤ 100000) (h : ∀ d ∈ ds, smallD d = true) : smallD (.list ds) = true := by
  simp only [smallD]
  rw [decide_eq_true hl, smallAll_of h]; rfl
theorem smallT_of {ds : List PyData} (hl : ds.length ≤ 100000) (h : ∀ d ∈ ds, smallD d = true) : smallD (.tuple ds) = true := by
  simp only [smallD]
  rw [decide_eq_true hl, smallAll_of h]; rfl
/-! ### == of data -/
theorem dpAll_map {K : PySem.W.Frag} {H : Hp} {α : Type} {f : α → V} {g : α → PyData} : ∀ {xs : List α}, (∀ a ∈ xs, Dp K H (f a) (g a)) → DpAll K H (xs.map f) (xs.map g)
  | [], _ => .nil
  | a :: r, h => .cons (h a (List.mem_cons_self ..)) (dpAll_map fun b hb => h b (List.mem_cons_of_mem _ hb))
mutual
theorem dp_same {K : PySem.W.Frag} {H H' : Hp} (s : Same H H') : ∀ {v : V} {d : PyData}, Dp K H v d → Dp K H' v d
  | _, _, .non => .non
  | _, _, .bl b => .bl b
  | _, _, .int i => .int i
  | _, _, .str x => .str x
  | _, _, .lst h a => .lst (s.seq h) (dpAll_same s a)
  | _, _, .tup h a => .tup (same_tup s h) (dpAll_same s a)
theorem dpAll_same {K : PySem.W.Frag} {H H' : Hp} (s : Same H H') : ∀ {vs : List V} {ds : List PyData}, DpAll K H vs ds → DpAll K H' vs ds
  | _, _, .nil => .nil
  | _, _, .cons h a => .cons (dp_same s h) (dpAll_same s a)
end
theorem dpAll_len {K : PySem.W.Frag} {H : Hp} : ∀ {vs : List V} {ds : List PyData}, DpAll K H vs ds → vs.length = ds.length
  | _, _, .nil => rfl
  | _, _, .cons _ a => by rw [List.length_cons, List.length_cons, dpAll_len a]
theorem dpAll_get {K : PySem.W.Frag} {H : Hp} : ∀ {vs : List V} {ds : List PyData} {i : Nat} {d : PyData}, DpAll K H vs ds → ds[i]? = some d → ∃ v, vs[i]? = some v ∧ Dp K H v d
  | _, _, _, _, .nil, e => by simp at e
  | _, _, 0, _, .cons h _, e => by simp at e; subst e; exact ⟨_, rfl, h⟩
  | _, _, i + 1, _, .cons _ a, e => by
    obtain ⟨v, e1, e2⟩ := dpAll_get (i := i) a (by simpa using e)
    exact ⟨v, by simpa using e1, e2⟩
theorem depth_in : ∀ {ds : List PyData} {d : PyData}, d ∈ ds → d.depth ≤ PyData.depthAll ds
  | [], _, h => nomatch h
  | x :: r, d, h => by
    simp only [PyData.depthAll]
    rcases List.mem_cons.mp h with e | e
    · rw [e]; exact Nat.le_max_left _ _
    · exact Nat.le_trans (depth_in e) (Nat.le_max_right _ _)
theorem canAll_of : ∀ {ds : List PyData}, (∀ d ∈ ds, d.canLay0 = true) → PyData.canLayAll0 ds = true
  | [], _ => by simp only [PyData.canLayAll0]
  | d :: r, h => by
    simp only [PyData.canLayAll0]
    rw [h d (List.mem_cons_self ..), canAll_of fun b hb => h b (List.mem_cons_of_mem _ hb)]; rfl
theorem depthAll_of {k : Nat} : ∀ {ds : List PyData}, (∀ d ∈ ds, d.depth ≤ k) → PyData.depthAll ds ≤ k
  | [], _ => by simp only [PyData.depthAll]; omega
  | d :: r, h => by
    simp only [PyData.depthAll]
    exact Nat.max_le.mpr ⟨h d (List.mem_cons_self ..), depthAll_of fun b hb => h b (List.mem_cons_of_mem _ hb)⟩
theorem shaped_list {ds : List PyData} (k : Nat) (hk : k ≤ 63) (h : ∀ d ∈ ds, d.canLay0 = true ∧ d.depth ≤ k) : SeqAt.shaped (.list ds) = true := by
  unfold SeqAt.shaped
  refine Bool.and_eq_true_iff.mpr ⟨?_, decide_eq_true ?_⟩
  · simp only [PyData.canLay0]
    exact canAll_of fun d hd => (h d hd).1
  · have := depthAll_of fun d hd => (h d hd).2
    simp only [PyData.depth]
    omega
theorem shaped_tuple {ds : List PyData} (k : Nat) (hk : k ≤ 63) (h : ∀ d ∈ ds, d.canLay0 = true ∧ d.depth ≤ k) : SeqAt.shaped (.tuple ds) = true := by
  unfold SeqAt.shaped
  refine Bool.and_eq_true_iff.mpr ⟨?_, decide_eq_true ?_⟩
  · simp only [PyData.canLay0]
    exact canAll_of fun d hd => (h d hd).1
  · have := depthAll_of fun d hd => (h d hd).2
    simp only [PyData.depth]
    omega
theorem shaped_ints (ns : List Int) : SeqAt.shaped (.list (ns.map PyData.int)) = true := shaped_list 0 (by decide) fun d hd => by
  obtain ⟨n, _, rfl⟩ := List.mem_map.mp hd
  exact ⟨by simp only [PyData.canLay0], by simp only [PyData.depth]; omega⟩
theorem eqv_nil (ds : List PyData) : PyData.eqv (.list ds) (.list []) = ds.isEmpty := by
  cases ds with
  | nil => simp only [PyData.eqv, PyData.eqvAll]; rfl
  | cons d r => simp only [PyData.eqv, PyData.eqvAll]; rfl
theorem cut_last {xs : List V} : cutV xs none (some (-1)) = xs.dropLast := by
  unfold cutV
  rw [HT.sIx_none]
  have e : HT.sIx xs.length xs.length (some (-1)) = xs.length - 1 := by
    unfold HT.sIx
    simp only
    rw [if_pos (show (-1 : Int) < 0 by decide)]
    omega
  rw [e, List.drop_zero, Nat.sub_zero, List.dropLast_eq_take]
/-! ### texts of signs -/
theorem joinL_nil : ∀ ps : List (List Nat), TL.joinL [] ps = ps.flatten
  | [] => rfl
  | [p] => by simp [TL.joinL]
  | p :: q :: r => by
    show p ++ ([] ++ TL.joinL [] (q :: r)) = _
    rw [joinL_nil (q :: r)]; simp
theorem tl_signs (cs : List Nat) : TL.tl (Txt.join (Str.ofString "") (cs.map fun c => (⟨#[c]⟩ : Str))) = cs := by
  rw [TL.join_eq, TL.tl_join, show TL.tl (Str.ofString "") = [] by decide +kernel, joinL_nil, List.map_map]
  induction cs with
  | nil => rfl
  | cons c r ih =>
    show [c] ++ _ = _
    rw [ih]; rfl
/-! ### a block cut in two: R is what is known between -/
def tCutE (t u : TS) : TS := fun D σ H => ∃ R : L2.St → Hp → Prop, t { D with nx := R } σ H ∧ ∀ σ' H', R σ' H' → u D σ' H'
theorem pss_cutE {X : Cx} {st : Stmt} {rest : List Stmt} {t u : TS} (h1 : PS X st t) (h2 : PSs X rest u) : PSs X (st :: rest) (tCutE t u) := by
  refine ⟨fun pins s σ H D I ⟨R, h, hr⟩ => ?_⟩
  refine wpAny_execs_cons (thn (h1.run pins s σ H { D with nx := R } I h) fun f s1 q => ?_)
  cases f with
  | next =>
    obtain ⟨σ', H', I', q⟩ := q
    exact h2.run pins s1 σ' H' D I' (hr σ' H' q)
  | ret v => exact q
  | brk => exact q
  | cont => exact q
theorem newF {H H3 : Hp} {p : Addr} {o : HO} (hH : upd H p o = H3) (hp : H p = none) : Same H H3 ∧ H3 p = some o := by
  subst hH
  exact ⟨same_put (Same.refl _) hp, upd_same⟩
/-! ### a heap without one object -/
def offA (p : Addr) (H : Hp) : Hp := fun b => if b = p then none else H b
theorem offA_ne {p b : Addr} {H : Hp} (h : b ≠ p) : offA p H b = H b := if_neg h
theorem offA_upd {p : Addr} {H : Hp} {o : HO} : offA p (upd H p o) = offA p H := by
  funext b; unfold offA upd
  split <;> rfl
theorem offA_same {p : Addr} {H : Hp} : Same (offA p H) H := fun b o h => by
  unfold offA at h
  split at h
  · cases h
  · exact h
theorem offA_mono {p : Addr} {H H' : Hp} (s : Same H H') : Same (offA p H) (offA p H') := fun b o h => by
  unfold offA at h ⊢
  split at h
  · cases h
  · rename_i n; rw [if_neg n]; exact s b o h
theorem dpAll_snoc {K : PySem.W.Frag} {H : Hp} {v : V} {d : PyData} (h1 : Dp K H v d) : ∀ {vs : List V} {ds : List PyData}, DpAll K H vs ds → DpAll K H (vs ++ [v]) (ds ++ [d])
  | _, _, .nil => .cons h1 .nil
  | _, _, .cons a b => .cons a (dpAll_snoc h1 b)
theorem ext_off {S : Addr → Prop} {p : Addr} {H H' : Hp} (s : Ext S H H') : Ext S (offA p H) (offA p H') := fun b o n h => by
  unfold offA at h ⊢
  split at h
  · cases h
  · rename_i z; rw [if_neg z]; exact s b o n h
/-- a comprehension: what is known of the heap without the new list goes with what is gathered -/
theorem lc_accH {J : It} {n : Nat} {G : Hp → Prop} {Y : Nat → Hp → V → Hp → Prop} (w : Walk J n G Y) {g : TG} {tt : TT} {te : TE} {vs : List Nat} {σ : L2.St} {H1 : Hp} {Q : VK} (S : Addr → Prop) (Jv : Nat → List V → Hp → Prop)
    (hn : n < sizeLine) (nD : ∀ D, H1 D = none → ¬ S D) (h0 : Jv 0 [] H1) (hG : ∀ H D i acc, H1 D = none → Ext S H1 H → Jv i acc (offA D H) → G H)
    (hs : ∀ D i x H H' acc (R : Option V → Hp → Prop), H1 D = none → H D = some (.lst acc) → i < n → Ext S H1 H → Jv i acc (offA D H) → Y i H x H' →
      (∀ H2, Ext S H H2 → Jv (i + 1) acc (offA D H2) → R none H2) → (∀ y H2, Ext S H H2 → Jv (i + 1) (acc ++ [y]) (offA D H2) → R (some y) H2) →
      g x (wipe σ vs) H' fun σ2 H2 => wipe σ2 vs = wipe σ vs ∧ tt σ2 H2 fun b H3 => if b = true then te σ2 H3 (fun y H4 => R (some y) H4) else R none H3)
    (hd : ∀ D acc H, H1 D = none → acc.length ≤ n → Ext S H1 H → Jv n acc (offA D H) → H D = some (.lst acc) → Q (.ref D) H) : LcG J g tt te vs σ H1 Q := by
  intro D fD
  have nD := nD D fD
  have e0 : offA D (upd H1 D (.lst [])) = H1 := by
    rw [offA_upd]; funext b; unfold offA
    split
    · rename_i e; rw [e, fD]
    · rfl
  refine lc_it w (fun i H => ∃ acc, Jv i acc (offA D H) ∧ acc.length ≤ i ∧ Ext S H1 H ∧ H D = some (.lst acc)) ⟨[], by rw [e0]; exact h0, Nat.le_refl _, (Ext.refl S H1).put (.inl fD), upd_same⟩ (fun i H _ ⟨acc, j, _, e, _⟩ => hG H D i acc fD e j) (fun i x H H' hi hP hy => ?_)
    (fun H ⟨acc, p, l, e, hD⟩ => hd D acc H fD l e p hD)
  obtain ⟨acc, p, l, e, hD⟩ := hP
  refine hs D i x H H' acc (fun o H4 => match o with
    | some y => ∃ acc, H4 D = some (.lst acc) ∧ acc.length < sizeLine ∧ ∃ acc', Jv (i + 1) acc' (offA D (upd H4 D (.lst (acc ++ [y])))) ∧ acc'.length ≤ i + 1 ∧ Ext S H1 (upd H4 D (.lst (acc ++ [y]))) ∧ (upd H4 D (.lst (acc ++ [y]))) D = some (.lst acc')
    | none => ∃ acc', Jv (i + 1) acc' (offA D H4) ∧ acc'.length ≤ i + 1 ∧ Ext S H1 H4 ∧ H4 D = some (.lst acc')) fD hD hi e p hy (fun H2 e2 p2 => ?_) (fun y H2 e2 p2 => ?_)
  · exact ⟨acc, p2, Nat.le_succ_of_le l, e.trans e2, e2 D _ nD hD⟩
  · exact ⟨acc, e2 D _ nD hD, Nat.lt_of_le_of_lt (Nat.le_trans l (Nat.le_of_lt hi)) hn, acc ++ [y], by rw [offA_upd]; exact p2, by rw [List.length_append]; exact Nat.succ_le_succ l, (e.trans e2).put (.inl fD), upd_same⟩
/-! ### tuples at addresses -/
def TupsAt (H : Hp) : List Addr → List (List V) → Prop
  | [], [] => True
  | t :: ts, x :: xs => H t = some (.tup x) ∧ TupsAt H ts xs
  | _, _ => False
theorem TupsAt.mono {H H' : Hp} (e : ∀ t x, H t = some (.tup x) → H' t = some (.tup x)) : ∀ {ts : List Addr} {xs : List (List V)}, TupsAt H ts xs → TupsAt H' ts xs
  | [], [], _ => trivial
  | _ :: _, _ :: _, h => ⟨e _ _ h.1, TupsAt.mono e h.2⟩
  | [], _ :: _, h => h.elim
  | _ :: _, [], h => h.elim
theorem TupsAt.snoc {H : Hp} {t : Addr} {x : List V} (h1 : H t = some (.tup x)) : ∀ {ts : List Addr} {xs : List (List V)}, TupsAt H ts xs → TupsAt H (ts ++ [t]) (xs ++ [x])
  | [], [], _ => ⟨h1, trivial⟩
  | _ :: _, _ :: _, h => ⟨h.1, TupsAt.snoc h1 h.2⟩
  | [], _ :: _, h => h.elim
  | _ :: _, [], h => h.elim
theorem TupsAt.len {H : Hp} : ∀ {ts : List Addr} {xs : List (List V)}, TupsAt H ts xs → ts.length = xs.length
  | [], [], _ => rfl
  | _ :: _, _ :: _, h => by rw [List.length_cons, List.length_cons, TupsAt.len h.2]
  | [], _ :: _, h => h.elim
  | _ :: _, [], h => h.elim
theorem TupsAt.get {H : Hp} : ∀ {ts : List Addr} {xs : List (List V)} {i : Nat} {t : Addr}, TupsAt H ts xs → ts[i]? = some t → ∃ x, xs[i]? = some x ∧ H t = some (.tup x)
  | [], [], _, _, _, e => by simp at e
  | _ :: _, x :: _, 0, _, h, e => by simp at e; subst e; exact ⟨x, rfl, h.1⟩
  | _ :: _, _ :: _, i + 1, _, h, e => by
    obtain ⟨x, e1, e2⟩ := TupsAt.get (i := i) h.2 (by simpa using e)
    exact ⟨x, by simpa using e1, e2⟩
  | [], _ :: _, _, _, h, _ => h.elim
  | _ :: _, [], _, _, h, _ => h.elim
theorem TupsAt.dp {K : PySem.W.Frag} {H : Hp} {α : Type} {f : α → List V} {d : α → PyData} (hf : ∀ t a, H t = some (.tup (f a)) → Dp K H (.ref t) (d a)) : ∀ {ts : List Addr} {as : List α}, TupsAt H ts (as.map f) → DpAll K H (ts.map V.ref) (as.map d)
  | [], [], _ => .nil
  | _ :: _, _ :: _, h => .cons (hf _ _ h.1) (TupsAt.dp hf h.2)
  | [], _ :: _, h => h.elim
  | _ :: _, [], h => h.elim
end Hk

set_option Elab.async false
set_option linter.all false
set_option maxRecDepth 100000
set_option maxHeartbeats 4000000
/-! Lines and patterns, in plain Lean. -/
namespace Hk
open PySem PySem.Spec PyProof.Rows L2 TL
abbrev letters : Str := "abcdefghijklmnopqrstuvwxyz"
def isWord (z : Str) : Bool := decide (1 ≤ z.length) && (decide (z.length ≤ 4) && (tl z).all fun c => decide (c ∈ tl letters))
def isLine (z : Str) : Bool := decide ((wds z).length ≤ 6) && (wds z).all isWord
/-- without the last one, if that is # -/
def cut (ws : List Str) : List Str := if ws.getLast? = some ("#" : Str) then ws.dropLast else ws
def starOr (z : Str) : Bool := decide (z = ("*" : Str)) || isWord z
def isPat (z : Str) : Bool := decide ((cut (wds z)).length ≤ 6) && (cut (wds z)).all starOr
/-- a pattern's words for lines of n -/
def ofLen (p : Str) (n : Int) : Option (List Str) :=
  let ws := wds p
  let us := if ws.getLast? = some ("#" : Str) then ws.dropLast ++ List.replicate (n - ws.dropLast.length).toNat ("*" : Str) else ws
  if (us.length : Int) = n then some us else none
def fit1 (q : Str × Str) : Bool := decide (q.1 = ("*" : Str)) || decide (q.1 = q.2)
def doesFit (p l : Str) : Bool := match ofLen p (wds l).length with
  | none => false
  | some ws => (ws.zip (wds l)).all fit1
theorem wds_ne (z : Str) : wds z ≠ [] := by
  intro h
  have e := split_spl z "." (by decide +kernel) (kind_ok (by decide +kernel))
  have h2 : (Txt.split z (".": Str)).map tl = [] := by
    show (wds z).map tl = []
    rw [h]; rfl
  rw [h2] at e
  have : ∀ (acc l : List Nat), spl (tl (".": Str)) 0 acc l ≠ [] := by
    intro acc l
    induction l generalizing acc with
    | nil => rw [spl_nil]; simp
    | cons c r ih =>
      cases q : pre (tl (".": Str)) (c :: r) with
      | true => rw [spl_hit q]; simp
      | false => rw [spl_miss q]; exact ih _
  exact this _ _ e.symm
theorem split_len_le (z y : Str) (hy : tl y ≠ []) (hk : ¬ Builtin.Str.strKind z < Builtin.Str.strKind y) : (Txt.split z y).length ≤ z.length + 1 := by
  have e := congrArg List.length (split_spl z y hy hk)
  rw [List.length_map] at e
  rw [e]
  have main : ∀ (k : Nat) (l acc : List Nat), l.length ≤ k → (spl (tl y) 0 acc l).length ≤ l.length + 1 := by
    intro k
    induction k with
    | zero =>
      intro l acc h
      have : l = [] := List.eq_nil_of_length_eq_zero (by omega)
      subst this
      rw [spl_nil]; simp
    | succ k ih =>
      intro l acc h
      cases l with
      | nil => rw [spl_nil]; simp
      | cons c r =>
        cases q : pre (tl y) (c :: r) with
        | true =>
          rw [spl_hit q, spl_pass]
          have := ih (r.drop ((tl y).length - 1)) [] (by simp at h; rw [List.length_drop]; omega)
          rw [List.length_drop] at this
          simp only [List.length_cons]
          omega
        | false =>
          rw [spl_miss q]
          have := ih r (acc ++ [c]) (by simpa using h)
          simp only [List.length_cons]
          omega
  have := main _ (tl z) [] (Nat.le_refl _)
  rw [len_tl]; exact this
theorem wds_len (z : Str) : (wds z).length ≤ z.length + 1 := split_len_le z "." (by decide +kernel) (kind_ok (by decide +kernel))
theorem wds_join {ws : List Str} (hne : ws ≠ []) (h : ∀ p ∈ ws, 46 ∉ tl p) : wds (Txt.join "." ws) = ws :=
  split_join (y := ".") (s := 46) (S := []) (by decide +kernel) (by decide +kernel) hne h
/-- every word that a text is cut into is as long as the text at most -/
theorem split_each_le (z y : Str) (hy : tl y ≠ []) (hk : ¬ Builtin.Str.strKind z < Builtin.Str.strKind y) : ∀ w ∈ Txt.split z y, w.length ≤ z.length := by
  intro w hw
  have e := split_spl z y hy hk
  have hm : tl w ∈ spl (tl y) 0 [] (tl z) := by
    rw [← e]; exact List.mem_map.mpr ⟨w, hw, rfl⟩
  have main : ∀ (k : Nat) (l acc : List Nat), l.length ≤ k → ∀ x ∈ spl (tl y) 0 acc l, x.length ≤ acc.length + l.length := by
    intro k
    induction k with
    | zero =>
      intro l acc h x hx
      have : l = [] := List.eq_nil_of_length_eq_zero (by omega)
      subst this
      rw [spl_nil] at hx
      simp at hx; subst hx; simp
    | succ k ih =>
      intro l acc h x hx
      cases l with
      | nil => rw [spl_nil] at hx; simp at hx; subst hx; simp
      | cons c r =>
        cases q : pre (tl y) (c :: r) with
        | true =>
          rw [spl_hit q, spl_pass] at hx
          rcases List.mem_cons.mp hx with rfl | hx
          · simp
          · have := ih (r.drop ((tl y).length - 1)) [] (by simp at h; rw [List.length_drop]; omega) x hx
            rw [List.length_drop] at this
            simp only [List.length_cons, List.length_nil] at this ⊢
            omega
        | false =>
          rw [spl_miss q] at hx
          have := ih r (acc ++ [c]) (by simpa using h) x hx
          simp only [List.length_cons, List.length_append, List.length_nil] at this ⊢
          omega
  have := main _ (tl z) [] (Nat.le_refl _) _ hm
  rw [len_tl w, len_tl z]
  simpa using this
theorem wds_each (z : Str) : ∀ w ∈ wds z, w.length ≤ z.length := split_each_le z "." (by decide +kernel) (kind_ok (by decide +kernel))
/-- .. and of its signs -/
theorem split_mem (z y : Str) (hy : tl y ≠ []) (hk : ¬ Builtin.Str.strKind z < Builtin.Str.strKind y) : ∀ w ∈ Txt.split z y, ∀ c ∈ tl w, c ∈ tl z := by
  intro w hw
  have e := split_spl z y hy hk
  have hm : tl w ∈ spl (tl y) 0 [] (tl z) := by
    rw [← e]; exact List.mem_map.mpr ⟨w, hw, rfl⟩
  have main : ∀ (k : Nat) (l acc : List Nat), l.length ≤ k → ∀ x ∈ spl (tl y) 0 acc l, ∀ c ∈ x, c ∈ acc ∨ c ∈ l := by
    intro k
    induction k with
    | zero =>
      intro l acc h x hx
      have : l = [] := List.eq_nil_of_length_eq_zero (by omega)
      subst this
      rw [spl_nil] at hx
      simp at hx; subst hx; exact fun c hc => .inl hc
    | succ k ih =>
      intro l acc h x hx
      cases l with
      | nil => rw [spl_nil] at hx; simp at hx; subst hx; exact fun c hc => .inl hc
      | cons c r =>
        cases q : pre (tl y) (c :: r) with
        | true =>
          rw [spl_hit q, spl_pass] at hx
          rcases List.mem_cons.mp hx with rfl | hx
          · exact fun c hc => .inl hc
          · have := ih (r.drop ((tl y).length - 1)) [] (by simp at h; rw [List.length_drop]; omega) x hx
            intro d hd
            rcases this d hd with z | z
            · cases z
            · exact .inr (List.mem_cons_of_mem _ (List.mem_of_mem_drop z))
        | false =>
          rw [spl_miss q] at hx
          have := ih r (acc ++ [c]) (by simpa using h) x hx
          intro d hd
          rcases this d hd with z | z
          · rcases List.mem_append.mp z with z | z
            · exact .inl z
            · rw [List.mem_singleton.mp z]; exact .inr (List.mem_cons_self ..)
          · exact .inr (List.mem_cons_of_mem _ z)
  intro c hc
  rcases main _ (tl z) [] (Nat.le_refl _) _ hm c hc with z | z
  · cases z
  · exact z
theorem strOk_iff {z : Str} : PyData.strOk z = true ↔ ∀ c ∈ tl z, c < 1114112 := by
  unfold PyData.strOk
  rw [Array.all_eq_true_iff_forall_mem]
  constructor
  · intro h c hc
    have := h c (Array.mem_toList_iff.mp hc)
    simpa using this
  · intro h c hc
    have := h c (Array.mem_toList_iff.mpr hc)
    simpa using this
theorem split_ok {z y : Str} (hy : tl y ≠ []) (hk : ¬ Builtin.Str.strKind z < Builtin.Str.strKind y) (h : PyData.strOk z = true) : ∀ w ∈ Txt.split z y, PyData.strOk w = true := fun w hw =>
  strOk_iff.mpr fun c hc => strOk_iff.mp h c (split_mem z y hy hk w hw c hc)
theorem shaped_strs {us : List Str} (h : ∀ z ∈ us, PyData.strOk z = true) : SeqAt.shaped (.list (us.map PyData.str)) = true := by
  unfold SeqAt.shaped
  refine Bool.and_eq_true_iff.mpr ⟨?_, decide_eq_true ?_⟩
  · simp only [PyData.canLay0]
    rw [canLayAll_strs', List.all_eq_true]; exact h
  · have : ∀ us : List Str, PyData.depthAll (us.map PyData.str) ≤ 0 := fun us => by
      induction us with
      | nil => simp only [List.map_nil, PyData.depthAll]; omega
      | cons a r ih =>
        simp only [List.map_cons, PyData.depthAll, PyData.depth]
        exact Nat.max_le.mpr ⟨Nat.le_refl _, ih⟩
    have := this us
    simp only [PyData.depth]
    omega
theorem sum_le {ws : List Str} {k : Nat} (h : ∀ w ∈ ws, w.length ≤ k) : (ws.map (·.length)).sum ≤ ws.length * k := by
  induction ws with
  | nil => simp
  | cons a r ih =>
    have h1 := h a (List.mem_cons_self ..)
    have h2 := ih fun w hw => h w (List.mem_cons_of_mem _ hw)
    simp only [List.map_cons, List.sum_cons, List.length_cons]
    rw [Nat.add_mul]; omega
theorem sum_one (cs : List Nat) : ((cs.map fun c => (⟨#[c]⟩ : Str)).map (·.length)).sum = cs.length := by
  induction cs with
  | nil => rfl
  | cons a r ih =>
    simp only [List.map_cons, List.sum_cons, List.length_cons]
    rw [ih]
    show 1 + r.length = _
    omega
theorem joinL_len (S : List Nat) : ∀ ps : List (List Nat), (joinL S ps).length ≤ (ps.map List.length).sum + ps.length * S.length
  | [] => by simp [joinL]
  | [p] => by simp [joinL]
  | p :: q :: r => by
    have := joinL_len S (q :: r)
    show (p ++ (S ++ joinL S (q :: r))).length ≤ _
    simp only [List.length_append, List.map_cons, List.sum_cons, List.length_cons] at this ⊢
    rw [Nat.add_mul _ 1, Nat.one_mul]
    omega
theorem join_len (s : Str) (ws : List Str) : (Txt.join s ws).length ≤ (ws.map (·.length)).sum + ws.length * s.length := by
  have := joinL_len (tl s) (ws.map tl)
  rw [len_tl (Txt.join s ws), join_eq, tl_join, len_tl s]
  rw [List.map_map, List.length_map] at this
  have e : (ws.map (List.length ∘ tl)) = ws.map (·.length) := List.map_congr_left fun w _ => (len_tl w).symm
  rw [e] at this
  exact this
theorem joinD_len {ws : List Str} {k : Nat} (h : ∀ w ∈ ws, w.length ≤ k) : (Txt.join "." ws).length ≤ ws.length * (k + 1) := by
  have h1 := join_len "." ws
  have h2 := sum_le h
  have e : ("." : Str).length = 1 := by decide +kernel
  rw [e] at h1
  rw [Nat.mul_add]
  omega
theorem letters_in : ∀ c ∈ tl letters, 97 ≤ c ∧ c ≤ 122 := by decide +kernel
theorem word_signs {z : Str} (h : isWord z = true) : 1 ≤ z.length ∧ z.length ≤ 4 ∧ ∀ c ∈ tl z, 97 ≤ c ∧ c ≤ 122 := by
  unfold isWord at h
  simp only [Bool.and_eq_true, decide_eq_true_eq, List.all_eq_true] at h
  exact ⟨h.1, h.2.1, fun c hc => letters_in c (h.2.2 c hc)⟩
theorem star_signs {z : Str} (h : starOr z = true) : z.length ≤ 4 ∧ (∀ c ∈ tl z, c = 42 ∨ (97 ≤ c ∧ c ≤ 122)) ∧ z ≠ ("#" : Str) := by
  unfold starOr at h
  rcases Bool.or_eq_true_iff.mp h with h | h
  · have e := of_decide_eq_true h
    subst e
    refine ⟨by decide +kernel, ?_, by decide +kernel⟩
    have : tl ("*" : Str) = [42] := by decide +kernel
    rw [this]
    intro c hc; left; simpa using hc
  · obtain ⟨h1, h2, h3⟩ := word_signs h
    refine ⟨h2, fun c hc => .inr (h3 c hc), fun e => ?_⟩
    subst e
    have := h3 35 (by decide +kernel)
    omega
theorem word_star {z : Str} (h : isWord z = true) : starOr z = true := by unfold starOr; rw [h]; simp
theorem star_nodot {z : Str} (h : starOr z = true) : 46 ∉ tl z := fun hc => by
  rcases (star_signs h).2.1 46 hc with e | e
  · cases e
  · omega
/-- a pattern of such words; with # behind -/
theorem isPat_join {us : List Str} (hne : us ≠ []) (hl : us.length ≤ 6) (h : ∀ u ∈ us, starOr u = true) : isPat (Txt.join "." us) = true := by
  have e : wds (Txt.join "." us) = us := wds_join hne fun p hp => star_nodot (h p hp)
  unfold isPat
  rw [e]
  have ec : cut us = us := by
    unfold cut
    refine if_neg fun z => ?_
    have := List.mem_of_getLast? z
    exact (star_signs (h _ this)).2.2 rfl
  rw [ec, decide_eq_true hl, List.all_eq_true.mpr h]; rfl
theorem isPat_hash {us : List Str} (hl : us.length ≤ 6) (h : ∀ u ∈ us, starOr u = true) : isPat (Txt.join "." (us ++ [("#" : Str)])) = true := by
  have e : wds (Txt.join "." (us ++ [("#" : Str)])) = us ++ [("#" : Str)] := wds_join (by simp) fun p hp => by
    rcases List.mem_append.mp hp with hp | hp
    · exact star_nodot (h p hp)
    · rw [List.mem_singleton.mp hp]; decide +kernel
  unfold isPat
  rw [e]
  have ec : cut (us ++ [("#" : Str)]) = us := by
    unfold cut
    rw [if_pos (by simp)]
    simp
  rw [ec, decide_eq_true hl, List.all_eq_true.mpr h]; rfl
theorem isLine_join {us : List Str} (hne : us ≠ []) (hl : us.length ≤ 6) (h : ∀ u ∈ us, isWord u = true) : isLine (Txt.join "." us) = true := by
  have e : wds (Txt.join "." us) = us := wds_join hne fun p hp => star_nodot (word_star (h p hp))
  unfold isLine
  rw [e, decide_eq_true hl, List.all_eq_true.mpr h]; rfl
/-- words of few letters, one to four of them each -/
def fewWord (z : Str) : Prop := 1 ≤ z.length ∧ z.length ≤ 4 ∧ ∀ c ∈ tl z, c = 97 ∨ c = 98 ∨ c = 122
theorem few_word {z : Str} (h : fewWord z) : isWord z = true := by
  unfold isWord
  rw [decide_eq_true h.1, decide_eq_true h.2.1, Bool.true_and, Bool.true_and, List.all_eq_true]
  intro c hc
  refine decide_eq_true ?_
  rcases h.2.2 c hc with e | e | e
  · rw [e]; decide +kernel
  · rw [e]; decide +kernel
  · rw [e]; decide +kernel
end Hk

set_option Elab.async false
set_option linter.all false
set_option maxRecDepth 100000
set_option maxHeartbeats 4000000
/-! Rows written and read, in plain Lean. -/
namespace Hk
open PySem PySem.Spec PyProof.Rows L2 TL
structure Row where
  p : Str
  n : Str
  r : Int
  o : Bool
  g : Str
deriving DecidableEq
def rowVs (r : Row) : List V := [.str r.p, .str r.n, .int r.r, .bl r.o, .str r.g]
def rowWords (r : Row) : List Str := [r.p, r.n, toString r.r] ++ ((if r.o then [("once" : Str)] else []) ++ (if r.g ≠ ("" : Str) then [("in" : Str), r.g] else []))
def rowText (r : Row) : Str := Txt.join " " (rowWords r)
def rowsText (rs : List Row) : Str := Txt.join "\n" (rs.map rowText)
structure Good (r : Row) : Prop where
  p : isPat r.p = true
  n : isWord r.n = true
  lo : -9 ≤ r.r
  hi : r.r ≤ 9
  g : r.g = ("" : Str) ∨ isWord r.g = true
  pl : r.p.length ≤ 100
  ps : ∀ c ∈ tl r.p, 33 ≤ c ∧ c ≤ 122
/-! ### ranks -/
def rankL : List Nat → Option Int
  | [c] => if 48 ≤ c ∧ c ≤ 57 then some ((c : Int) - 48) else none
  | [c, d] => if c = 45 ∧ 49 ≤ d ∧ d ≤ 57 then some (48 - (d : Int)) else none
  | _ => none
def rankOf (z : Str) : Option Int := rankL (tl z)
theorem starts_minus (z : Str) : Txt.startswith z ("-" : Str) = decide ((tl z).head? = some 45) := by
  unfold Txt.startswith Builtin.Str.subAt
  have e : (("-" : Str)).length = 1 := by decide +kernel
  have e2 : (("-" : Str)).cps = #[45] := by decide +kernel
  rw [e, e2, Bool.eq_iff_iff]
  simp only [Bool.and_eq_true, decide_eq_true_eq, beq_iff_eq]
  have el : z.length = (tl z).length := len_tl z
  constructor
  · rintro ⟨h1, h2⟩
    have h3 : (z.cps.extract 0 (0 + 1)).toList = [45] := by rw [h2]
    rw [Array.toList_extract] at h3
    cases h : tl z with
    | nil => rw [el, h] at h1; simp at h1
    | cons c r =>
      have : z.cps.toList = c :: r := h
      rw [this] at h3
      simp at h3
      simp [h3]
  · intro h
    cases hc : tl z with
    | nil => rw [hc] at h; simp at h
    | cons c r =>
      rw [hc] at h
      simp at h
      subst h
      refine ⟨by rw [el, hc]; simp, ?_⟩
      apply Array.toList_inj.mp
      rw [Array.toList_extract]
      have : z.cps.toList = 45 :: r := hc
      rw [this]
      simp
theorem take_all' {α : Type} (xs : List α) (k : Nat) : ((xs.drop (min k xs.length)).take (xs.length - min k xs.length)) = xs.drop k := by
  by_cases h : k ≤ xs.length
  · rw [Nat.min_eq_left h, List.take_of_length_le (by rw [List.length_drop]; exact Nat.le_refl _)]
  · rw [Nat.min_eq_right (by omega), List.drop_eq_nil_of_le (by omega : xs.length ≤ k), List.drop_length]; simp
theorem cutV_from (xs : List V) (k : Nat) : cutV xs (some (k : Int)) none = xs.drop k := by
  unfold cutV
  rw [HT.sIx_nat, HT.sIx_none]
  exact take_all' xs k
theorem cutV_to (xs : List V) (k : Nat) : cutV xs none (some (k : Int)) = xs.take k := by
  unfold cutV
  rw [HT.sIx_nat, HT.sIx_none, List.drop_zero, Nat.sub_zero]
  by_cases h : k ≤ xs.length
  · rw [Nat.min_eq_left h]
  · rw [Nat.min_eq_right (by omega), List.take_of_length_le (Nat.le_refl _), List.take_of_length_le (by omega)]
theorem tl_cutFrom (z : Str) (k : Nat) : tl (cutS z (some (k : Int)) none) = (tl z).drop k := by
  unfold cutS
  rw [HT.sIx_nat, HT.sIx_none, len_tl]
  show ((z.cps.toList.drop _).take _) = _
  exact take_all' (tl z) k
theorem tl_cut1 (z : Str) : tl (cutS z (some 1) none) = (tl z).drop 1 := tl_cutFrom z 1
def ranks : List Int := [-9, -8, -7, -6, -5, -4, -3, -2, -1, 0, 1, 2, 3, 4, 5, 6, 7, 8, 9]
theorem mem_ranks {r : Int} (h1 : -9 ≤ r) (h2 : r ≤ 9) : r ∈ ranks := by
  unfold ranks
  simp only [List.mem_cons, List.not_mem_nil, or_false]
  omega
theorem rank_all : ∀ r ∈ ranks, rankOf (toString r : String) = some r ∧ (tl (toString r : String)).all (fun c => c == 45 || (48 ≤ c && c ≤ 57)) = true ∧ Str.length (toString r : String) ≤ 2 := by decide +kernel
theorem rank_str {r : Int} (h1 : -9 ≤ r) (h2 : r ≤ 9) : rankOf (toString r : String) = some r := (rank_all r (mem_ranks h1 h2)).1
theorem int_text : ∀ c ∈ [48, 49, 50, 51, 52, 53, 54, 55, 56, 57], intText? ⟨#[c]⟩ = some ((c : Int) - 48) ∧ intText? ⟨#[45, c]⟩ = some (48 - (c : Int)) := by decide +kernel
/-! ### rows -/
def rowTail (ws : List Str) : Option Str := if ws = [] then some ("" : Str) else match ws with
  | [a, b] => if a = ("in" : Str) ∧ isWord b = true then some b else none
  | _ => none
def rowOf (ws : List Str) : Option Row := match ws with
  | a :: b :: c :: rest => if isPat a = true ∧ isWord b = true then (rankOf c).bind fun r =>
      let once := decide (rest.take 1 = [("once" : Str)])
      (rowTail (if once then rest.drop 1 else rest)).map fun g => ⟨a, b, r, once, g⟩ else none
  | _ => none
def lineRow (z : Str) : Option Row := rowOf (sps z)
theorem rowOf_few {ws : List Str} (h : ws.length < 3) : rowOf ws = none := by
  match ws, h with
  | [], _ => rfl
  | [_], _ => rfl
  | [_, _], _ => rfl
theorem rowOf_bad {x y c : Str} {rest : List Str} (h : ¬ (isPat x = true ∧ isWord y = true)) : rowOf (x :: y :: c :: rest) = none := by
  simp only [rowOf]
  rw [if_neg h]
theorem rowOf_norank {x y c : Str} {rest : List Str} (h : rankOf c = none) : rowOf (x :: y :: c :: rest) = none := by
  simp only [rowOf]
  rw [h]
  split
  · simp only [Option.bind_none]
  · simp only
theorem rowOf_rank {x y c : Str} {rest : List Str} {r : Int} (hp : isPat x = true) (hn : isWord y = true) (h : rankOf c = some r) :
    rowOf (x :: y :: c :: rest) = (rowTail (if decide (rest.take 1 = [("once" : Str)]) then rest.drop 1 else rest)).map fun g => (⟨x, y, r, decide (rest.take 1 = [("once" : Str)]), g⟩ : Row) := by
  simp only [rowOf]
  rw [if_pos ⟨hp, hn⟩, h]
  simp only [Option.bind_some]
theorem rowTail_cases {us : List Str} {g : Str} (hg : rowTail us = some g) : (us = [] ∧ g = ("" : Str)) ∨ us = [("in" : Str), g] ∧ isWord g = true := by
  unfold rowTail at hg
  split at hg
  · rename_i e; subst e; cases hg; exact .inl ⟨rfl, rfl⟩
  · split at hg
    · split at hg
      · rename_i z; cases hg; obtain ⟨rfl, z2⟩ := z; exact .inr ⟨rfl, z2⟩
      · cases hg
    · cases hg
theorem rowTail_nil : rowTail [] = some ("" : Str) := by unfold rowTail; rw [if_pos rfl]
theorem rowTail_len {us : List Str} (h : us ≠ []) (h2 : us.length ≠ 2) : rowTail us = none := by
  unfold rowTail
  rw [if_neg h]
  match us, h2 with
  | [_], _ => rfl
  | _ :: _ :: _ :: _, _ => rfl
theorem rowTail_two {a b : Str} : rowTail [a, b] = if a = ("in" : Str) ∧ isWord b = true then some b else none := by
  unfold rowTail
  rw [if_neg (by simp)]
theorem join_tail {us : List Str} {g : Str} (hg : rowTail us = some g) : Txt.join (Str.ofString "") (us.drop 1) = g := by
  rcases rowTail_cases hg with ⟨e, e'⟩ | ⟨e, _⟩
  · subst e; subst e'; decide +kernel
  · subst e
    refine ext_tl ?_
    rw [join_eq, tl_join, show tl (Str.ofString "") = [] by decide +kernel, joinL_nil]
    simp
/-- the lines of a text -/
def linesOf (z : Str) : List Str := if z = ("" : Str) then [] else nls z
/-! ### the text of a row -/
theorem tl_append (a b : Str) : tl (a ++ b) = tl a ++ tl b := by
  show (a.cps ++ b.cps).toList = _
  simp
theorem tl_rowText (r : Row) : tl (rowText r) = tl r.p ++ 32 :: tl r.n ++ 32 :: tl (toString r.r : String) ++ (if r.o = true then tl (" once" : Str) else []) ++ (if r.g ≠ ("" : Str) then tl (" in " : Str) ++ tl r.g else []) := by
  have e1 : tl (" " : Str) = [32] := by decide +kernel
  have e2 : tl (" once" : Str) = 32 :: tl ("once" : Str) := by decide +kernel
  have e3 : tl (" in " : Str) = 32 :: (tl ("in" : Str) ++ [32]) := by decide +kernel
  unfold rowText rowWords
  rw [join_eq, tl_join, e1, e2, e3]
  cases r.o <;> by_cases h : r.g = ("" : Str) <;> simp [h, joinL]
theorem rowText_eq (r : Row) : (r.p ++ Str.ofString " " ++ r.n ++ Str.ofString " " ++ Str.ofString (toString r.r) ++ if (if r.o = true then (1 : Int) else 0) = 1 then Str.ofString " once" else Str.empty) ++ (if (if (!decide (r.g = Str.ofString "")) = true then (1 : Int) else 0) = 1 then Str.ofString " in " ++ r.g else Str.empty) = rowText r := by
  refine ext_tl ?_
  rw [tl_rowText]
  have e1 : tl (" " : Str) = [32] := by decide +kernel
  have e0 : tl Str.empty = [] := rfl
  simp only [tl_append, e1]
  cases r.o <;> by_cases h : r.g = ("" : Str) <;> simp [h, e0, tl_append]
theorem word_len {z : Str} (h : isWord z = true) : z.length ≤ 4 := (word_signs h).2.1
theorem Good.gl {r : Row} (h : Good r) : r.g.length ≤ 4 := by
  rcases h.g with e | e
  · rw [e]; decide +kernel
  · exact word_len e
theorem Good.rl {r : Row} (h : Good r) : Str.length (toString r.r : String) ≤ 2 := (rank_all r.r (mem_ranks h.lo h.hi)).2.2
theorem Good.log {r : Row} (h : Good r) : r.r.natAbs.log2 < 1920 := by
  have h1 := h.lo
  have h2 := h.hi
  have : r.r.natAbs < 2 ^ 1920 := Nat.lt_of_le_of_lt (by omega : r.r.natAbs ≤ 9) (by decide)
  rcases Nat.eq_zero_or_pos r.r.natAbs with e | e
  · rw [e]; decide
  · exact (Nat.log2_lt (by omega)).mpr this
theorem rowWords_len {r : Row} (h : Good r) : ∀ w ∈ rowWords r, w.length ≤ 100 := by
  intro w hw
  unfold rowWords at hw
  have h1 := word_len h.n
  have h2 := h.gl
  have h3 := h.rl
  have h4 := h.pl
  have e1 : Str.length ("once" : Str) = 4 := by decide +kernel
  have e2 : Str.length ("in" : Str) = 2 := by decide +kernel
  simp only [List.cons_append, List.nil_append, List.mem_cons, List.mem_append] at hw
  rcases hw with e | e | e | e | e
  · rw [e]; exact h4
  · rw [e]; omega
  · rw [e]; exact Nat.le_trans h3 (by decide)
  · split at e
    · rw [List.mem_singleton.mp e, e1]; decide
    · cases e
  · split at e
    · rcases List.mem_cons.mp e with e | e
      · rw [e, e2]; decide
      · rw [List.mem_singleton.mp e]; omega
    · cases e
theorem rowWords_le (r : Row) : (rowWords r).length ≤ 6 := by
  unfold rowWords
  cases r.o <;> by_cases h : r.g = ("" : Str) <;> simp [h]
theorem rowText_len {r : Row} (h : Good r) : (rowText r).length ≤ 700 := by
  have h1 := join_len " " (rowWords r)
  have h2 := sum_le (rowWords_len h)
  have e : (" " : Str).length = 1 := by decide +kernel
  rw [e] at h1
  have h3 := rowWords_le r
  unfold rowText
  omega
/-! ### what is written is read -/
theorem mem_joinL {S : List Nat} {c : Nat} : ∀ ps : List (List Nat), c ∈ joinL S ps → c ∈ S ∨ ∃ p ∈ ps, c ∈ p
  | [], h => by simp [joinL] at h
  | [p], h => .inr ⟨p, List.mem_singleton.mpr rfl, by simpa [joinL] using h⟩
  | p :: q :: r, h => by
    have h : c ∈ p ++ (S ++ joinL S (q :: r)) := h
    rcases List.mem_append.mp h with h | h
    · exact .inr ⟨p, List.mem_cons_self .., h⟩
    · rcases List.mem_append.mp h with h | h
      · exact .inl h
      · rcases mem_joinL (q :: r) h with h | ⟨x, hx, hc⟩
        · exact .inl h
        · exact .inr ⟨x, List.mem_cons_of_mem _ hx, hc⟩
theorem mem_join {s : Str} {ws : List Str} {c : Nat} (h : c ∈ tl (Txt.join s ws)) : c ∈ tl s ∨ ∃ w ∈ ws, c ∈ tl w := by
  rw [join_eq, tl_join] at h
  rcases mem_joinL _ h with h | ⟨p, hp, hc⟩
  · exact .inl h
  · obtain ⟨w, hw, rfl⟩ := List.mem_map.mp hp
    exact .inr ⟨w, hw, hc⟩
theorem pat_signs {us : List Str} (h : ∀ u ∈ us, starOr u = true ∨ u = ("#" : Str)) : ∀ c ∈ tl (Txt.join "." us), 33 ≤ c ∧ c ≤ 122 := fun c hc => by
  rcases mem_join hc with hc | ⟨w, hw, hc⟩
  · have : tl (".": Str) = [46] := by decide +kernel
    rw [this] at hc
    have := List.mem_singleton.mp hc
    omega
  · rcases h w hw with h | h
    · rcases (star_signs h).2.1 c hc with e | e <;> omega
    · rw [h, show tl ("#" : Str) = [35] by decide +kernel] at hc
      have := List.mem_singleton.mp hc
      omega
theorem rowWords_signs {r : Row} (h : Good r) : ∀ w ∈ rowWords r, ∀ c ∈ tl w, 33 ≤ c ∧ c ≤ 122 := by
  intro w hw c hc
  unfold rowWords at hw
  simp only [List.cons_append, List.nil_append, List.mem_cons, List.mem_append] at hw
  rcases hw with e | e | e | e | e
  · rw [e] at hc; exact h.ps c hc
  · rw [e] at hc
    have := (word_signs h.n).2.2 c hc
    omega
  · rw [e] at hc
    have := List.all_eq_true.mp (rank_all r.r (mem_ranks h.lo h.hi)).2.1 c hc
    simp only [Bool.or_eq_true, beq_iff_eq, Bool.and_eq_true, decide_eq_true_eq] at this
    omega
  · split at e
    · rw [List.mem_singleton.mp e, show tl ("once" : Str) = [111, 110, 99, 101] by decide +kernel] at hc
      simp at hc; omega
    · cases e
  · split at e
    · rename_i hg
      rcases List.mem_cons.mp e with e | e
      · rw [e, show tl ("in" : Str) = [105, 110] by decide +kernel] at hc
        simp at hc; omega
      · rw [List.mem_singleton.mp e] at hc
        rcases h.g with e | e
        · exact absurd e hg
        · have := (word_signs e).2.2 c hc
          omega
    · cases e
theorem sps_rowText {r : Row} (h : Good r) : sps (rowText r) = rowWords r :=
  split_join (y := " ") (s := 32) (S := []) (by decide +kernel) (by decide +kernel) (by unfold rowWords; simp) fun p hp hc => by
    have := rowWords_signs h p hp 32 hc
    omega
theorem rowOf_words {r : Row} (h : Good r) : rowOf (rowWords r) = some r := by
  unfold rowWords
  rw [List.cons_append, List.cons_append, List.cons_append, List.nil_append]
  rw [rowOf_rank h.p h.n (rank_str h.lo h.hi)]
  obtain ⟨p, n, rk, o, g⟩ := r
  have hgw := h.g
  simp only at hgw ⊢
  have n1 : ("in" : Str) ≠ ("once" : Str) := by decide +kernel
  have fin : ∀ b : Bool, (rowTail (if g ≠ ("" : Str) then [("in" : Str), g] else [])).map (fun g => (⟨p, n, rk, b, g⟩ : Row)) = some ⟨p, n, rk, b, g⟩ := fun b => by
    by_cases hg : g = ("" : Str)
    · rw [if_neg (fun z => z hg), rowTail_nil, hg]; simp only [Option.map_some]
    · rw [if_pos hg, rowTail_two, if_pos ⟨rfl, hgw.elim (fun e => absurd e hg) id⟩]; simp only [Option.map_some]
  cases o with
  | true =>
    have e : List.take 1 ((if true = true then [("once" : Str)] else []) ++ if g ≠ ("" : Str) then [("in" : Str), g] else []) = [("once" : Str)] := by rw [if_pos rfl]; rfl
    rw [decide_eq_true e, if_pos rfl]
    exact fin true
  | false =>
    have e : ¬ List.take 1 ((if false = true then [("once" : Str)] else []) ++ if g ≠ ("" : Str) then [("in" : Str), g] else []) = [("once" : Str)] := by
      rw [if_neg (by decide), List.nil_append]
      by_cases hg : g = ("" : Str)
      · rw [if_neg (fun z => z hg)]; simp
      · rw [if_pos hg]
        intro z
        exact n1 (List.cons.inj (show [("in" : Str)] = [("once" : Str)] from z)).1
    rw [decide_eq_false e, if_neg (by decide)]
    exact fin false
theorem rowText_signs {r : Row} (h : Good r) : ∀ c ∈ tl (rowText r), 32 ≤ c ∧ c ≤ 122 := fun c hc => by
  rcases mem_join hc with hc | ⟨w, hw, hc⟩
  · have : tl (" ": Str) = [32] := by decide +kernel
    rw [this] at hc
    have := List.mem_singleton.mp hc
    omega
  · have := rowWords_signs h w hw c hc
    omega
theorem rowsText_signs {rs : List Row} (h : ∀ r ∈ rs, Good r) : ∀ c ∈ tl (rowsText rs), c = 10 ∨ (32 ≤ c ∧ c ≤ 122) := fun c hc => by
  rcases mem_join hc with hc | ⟨w, hw, hc⟩
  · have : tl ("\n": Str) = [10] := by decide +kernel
    rw [this] at hc
    exact .inl (List.mem_singleton.mp hc)
  · obtain ⟨r, hr, rfl⟩ := List.mem_map.mp hw
    exact .inr (rowText_signs (h r hr) c hc)
theorem nls_rowsText {rs : List Row} (hne : rs ≠ []) (h : ∀ r ∈ rs, Good r) : nls (rowsText rs) = rs.map rowText :=
  split_join (y := "\n") (s := 10) (S := []) (by decide +kernel) (by decide +kernel) (by simpa using hne) fun p hp hc => by
    obtain ⟨r, hr, rfl⟩ := List.mem_map.mp hp
    have := rowText_signs (h r hr) 10 hc
    omega
theorem rowsText_nil : rowsText [] = ("" : Str) := by decide +kernel
theorem rowsText_ne {rs : List Row} (hne : rs ≠ []) (h : ∀ r ∈ rs, Good r) : rowsText rs ≠ ("" : Str) := fun e => by
  have h1 := nls_rowsText hne h
  rw [e, show nls ("" : Str) = [("" : Str)] by decide +kernel] at h1
  cases rs with
  | nil => exact hne rfl
  | cons r q =>
    rw [List.map_cons] at h1
    have h2 := congrArg tl (List.cons.inj h1).1
    rw [tl_rowText, show tl ("" : Str) = [] by decide +kernel] at h2
    simp at h2
theorem lines_rows {rs : List Row} (h : ∀ r ∈ rs, Good r) : (linesOf (rowsText rs)).map lineRow = rs.map some := by
  by_cases hne : rs = []
  · subst hne
    unfold linesOf
    rw [if_pos rowsText_nil]; rfl
  · unfold linesOf
    rw [if_neg (rowsText_ne hne h), nls_rowsText hne h, List.map_map]
    refine List.map_congr_left fun r hr => ?_
    show rowOf (sps (rowText r)) = some r
    rw [sps_rowText (h r hr), rowOf_words (h r hr)]
theorem rowsText_len {rs : List Row} (h : ∀ r ∈ rs, Good r) : (rowsText rs).length ≤ rs.length * 701 := by
  have h1 := join_len "\n" (rs.map rowText)
  have h2 := sum_le (k := 700) (ws := rs.map rowText) fun w hw => by
    obtain ⟨r, hr, rfl⟩ := List.mem_map.mp hw
    exact rowText_len (h r hr)
  have e : ("\n" : Str).length = 1 := by decide +kernel
  rw [e, List.length_map] at h1
  rw [List.length_map] at h2
  unfold rowsText
  omega
theorem rowsText_ok {rs : List Row} (h : ∀ r ∈ rs, Good r) : PyData.strOk (rowsText rs) = true := strOk_iff.mpr fun c hc => by
  rcases rowsText_signs h c hc with e | e <;> omega
end Hk

set_option Elab.async false
set_option linter.all false
set_option maxRecDepth 100000
set_option maxHeartbeats 4000000
namespace Hk
open PySem PySem.Spec PyProof.Rows L2
def topS (i : Nat) : Stmt := PySem.Challenge.pw_hearken_k18_rows_written_and_read.main.body.getD i (.Pass ⟨0, 0, 0, 0⟩)
abbrev s_is_word : Stmt := topS 9
abbrev N_is_word : List Str := ["part", "sign"]
abbrev p_is_word : List Str := ["part"]
theorem sc_is_word : FnScope N_is_word p_is_word (defScope s_is_word) := ⟨rfl, rfl, rfl, by decide +kernel, rfl, by decide +kernel, by decide +kernel⟩
def d_is_word : He.DefD := ⟨("is_word", none), "is_word", "is_word", defArgs s_is_word, defBody s_is_word, defScope s_is_word, [], []⟩
abbrev F_is_word (K : PySem.W.Frag) (f : Addr) (fd : FuncData) : Prop := FunD K "is_word" "is_word" (defArgs s_is_word) (defBody s_is_word) (defScope s_is_word) [] [] f fd
abbrev s_is_pattern : Stmt := topS 10
abbrev N_is_pattern : List Str := ["text", "words", "word"]
abbrev p_is_pattern : List Str := ["text"]
theorem sc_is_pattern : FnScope N_is_pattern p_is_pattern (defScope s_is_pattern) := ⟨rfl, rfl, rfl, by decide +kernel, rfl, by decide +kernel, by decide +kernel⟩
def d_is_pattern : He.DefD := ⟨("is_pattern", none), "is_pattern", "is_pattern", defArgs s_is_pattern, defBody s_is_pattern, defScope s_is_pattern, [], []⟩
abbrev F_is_pattern (K : PySem.W.Frag) (f : Addr) (fd : FuncData) : Prop := FunD K "is_pattern" "is_pattern" (defArgs s_is_pattern) (defBody s_is_pattern) (defScope s_is_pattern) [] [] f fd
abbrev s_law_alike : Stmt := topS 20
abbrev N_law_alike : List Str := ["_law_found", "_law_due", "_law_k"]
abbrev p_law_alike : List Str := ["_law_found", "_law_due"]
theorem sc_law_alike : FnScope N_law_alike p_law_alike (defScope s_law_alike) := ⟨rfl, rfl, rfl, by decide +kernel, rfl, by decide +kernel, by decide +kernel⟩
def d_law_alike : He.DefD := ⟨("_law_alike", none), "_law_alike", "_law_alike", defArgs s_law_alike, defBody s_law_alike, defScope s_law_alike, [], []⟩
abbrev F_law_alike (K : PySem.W.Frag) (f : Addr) (fd : FuncData) : Prop := FunD K "_law_alike" "_law_alike" (defArgs s_law_alike) (defBody s_law_alike) (defScope s_law_alike) [] [] f fd
abbrev s_rank_of : Stmt := topS 14
abbrev N_rank_of : List Str := ["word", "figure"]
abbrev p_rank_of : List Str := ["word"]
theorem sc_rank_of : FnScope N_rank_of p_rank_of (defScope s_rank_of) := ⟨rfl, rfl, rfl, by decide +kernel, rfl, by decide +kernel, by decide +kernel⟩
def d_rank_of : He.DefD := ⟨("rank_of", none), "rank_of", "rank_of", defArgs s_rank_of, defBody s_rank_of, defScope s_rank_of, [], []⟩
abbrev F_rank_of (K : PySem.W.Frag) (f : Addr) (fd : FuncData) : Prop := FunD K "rank_of" "rank_of" (defArgs s_rank_of) (defBody s_rank_of) (defScope s_rank_of) [] [] f fd
abbrev s_row_of : Stmt := topS 15
abbrev N_row_of : List Str := ["words", "rest", "once"]
abbrev p_row_of : List Str := ["words"]
theorem sc_row_of : FnScope N_row_of p_row_of (defScope s_row_of) := ⟨rfl, rfl, rfl, by decide +kernel, rfl, by decide +kernel, by decide +kernel⟩
def d_row_of : He.DefD := ⟨("row_of", none), "row_of", "row_of", defArgs s_row_of, defBody s_row_of, defScope s_row_of, [], []⟩
abbrev F_row_of (K : PySem.W.Frag) (f : Addr) (fd : FuncData) : Prop := FunD K "row_of" "row_of" (defArgs s_row_of) (defBody s_row_of) (defScope s_row_of) [] [] f fd
abbrev s_law_mix : Stmt := topS 18
abbrev N_law_mix : List Str := ["_law_script", "_law_seed", "_law_mixed", "_law_cell"]
abbrev p_law_mix : List Str := ["_law_script", "_law_seed"]
theorem sc_law_mix : FnScope N_law_mix p_law_mix (defScope s_law_mix) := ⟨rfl, rfl, rfl, by decide +kernel, rfl, by decide +kernel, by decide +kernel⟩
def d_law_mix : He.DefD := ⟨("_law_mix", none), "_law_mix", "_law_mix", defArgs s_law_mix, defBody s_law_mix, defScope s_law_mix, [], []⟩
abbrev F_law_mix (K : PySem.W.Frag) (f : Addr) (fd : FuncData) : Prop := FunD K "_law_mix" "_law_mix" (defArgs s_law_mix) (defBody s_law_mix) (defScope s_law_mix) [] [] f fd
abbrev s_law_next : Stmt := topS 19
abbrev N_law_next : List Str := ["_law_h", "_law_many", "_law_cell"]
abbrev p_law_next : List Str := ["_law_h", "_law_many"]
theorem sc_law_next : FnScope N_law_next p_law_next (defScope s_law_next) := ⟨rfl, rfl, rfl, by decide +kernel, rfl, by decide +kernel, by decide +kernel⟩
def d_law_next : He.DefD := ⟨("_law_next", none), "_law_next", "_law_next", defArgs s_law_next, defBody s_law_next, defScope s_law_next, [], []⟩
abbrev F_law_next (K : PySem.W.Frag) (f : Addr) (fd : FuncData) : Prop := FunD K "_law_next" "_law_next" (defArgs s_law_next) (defBody s_law_next) (defScope s_law_next) [] [] f fd
abbrev s_read : Stmt := topS 16
abbrev N_read : List Str := ["text", "found", "number", "line", "row"]
abbrev p_read : List Str := ["text"]
theorem sc_read : FnScope N_read p_read (defScope s_read) := ⟨rfl, rfl, rfl, by decide +kernel, rfl, by decide +kernel, by decide +kernel⟩
def d_read : He.DefD := ⟨("read", none), "read", "read", defArgs s_read, defBody s_read, defScope s_read, [], []⟩
abbrev F_read (K : PySem.W.Frag) (f : Addr) (fd : FuncData) : Prop := FunD K "read" "read" (defArgs s_read) (defBody s_read) (defScope s_read) [] [] f fd
abbrev s_written : Stmt := topS 13
abbrev N_written : List Str := ["rows", "found", "pattern", "name", "rank", "once", "group", "words"]
abbrev p_written : List Str := ["rows"]
theorem sc_written : FnScope N_written p_written (defScope s_written) := ⟨rfl, rfl, rfl, by decide +kernel, rfl, by decide +kernel, by decide +kernel⟩
def d_written : He.DefD := ⟨("written", none), "written", "written", defArgs s_written, defBody s_written, defScope s_written, [], []⟩
abbrev F_written (K : PySem.W.Frag) (f : Addr) (fd : FuncData) : Prop := FunD K "written" "written" (defArgs s_written) (defBody s_written) (defScope s_written) [] [] f fd
abbrev s_law_text : Stmt := topS 23
abbrev N_law_text : List Str := ["_law_row_here", "_law_pattern", "_law_name", "_law_rank", "_law_once", "_law_group"]
abbrev p_law_text : List Str := ["_law_row_here"]
theorem sc_law_text : FnScope N_law_text p_law_text (defScope s_law_text) := ⟨rfl, rfl, rfl, by decide +kernel, rfl, by decide +kernel, by decide +kernel⟩
def d_law_text : He.DefD := ⟨("_law_text", none), "_law_text", "_law_text", defArgs s_law_text, defBody s_law_text, defScope s_law_text, [], []⟩
abbrev F_law_text (K : PySem.W.Frag) (f : Addr) (fd : FuncData) : Prop := FunD K "_law_text" "_law_text" (defArgs s_law_text) (defBody s_law_text) (defScope s_law_text) [] [] f fd
abbrev s_law_word : Stmt := topS 21
abbrev N_law_word : List Str := ["_law_h", "_law_k"]
abbrev p_law_word : List Str := ["_law_h"]
theorem sc_law_word : FnScope N_law_word p_law_word (defScope s_law_word) := ⟨rfl, rfl, rfl, by decide +kernel, rfl, by decide +kernel, by decide +kernel⟩
def d_law_word : He.DefD := ⟨("_law_word", none), "_law_word", "_law_word", defArgs s_law_word, defBody s_law_word, defScope s_law_word, [], []⟩
abbrev F_law_word (K : PySem.W.Frag) (f : Addr) (fd : FuncData) : Prop := FunD K "_law_word" "_law_word" (defArgs s_law_word) (defBody s_law_word) (defScope s_law_word) [] [] f fd
abbrev s_law_row : Stmt := topS 22
abbrev N_law_row : List Str := ["_law_h", "_law_words", "_law_k", "_law_pattern", "_law_group"]
abbrev p_law_row : List Str := ["_law_h"]
theorem sc_law_row : FnScope N_law_row p_law_row (defScope s_law_row) := ⟨rfl, rfl, rfl, by decide +kernel, rfl, by decide +kernel, by decide +kernel⟩
def d_law_row : He.DefD := ⟨("_law_row", none), "_law_row", "_law_row", defArgs s_law_row, defBody s_law_row, defScope s_law_row, [], []⟩
abbrev F_law_row (K : PySem.W.Frag) (f : Addr) (fd : FuncData) : Prop := FunD K "_law_row" "_law_row" (defArgs s_law_row) (defBody s_law_row) (defScope s_law_row) [] [] f fd
abbrev s_law : Stmt := topS 24
abbrev N_law : List Str := ["_law_script", "_law_h", "_law_turn", "_law_rows", "_law_k", "_law_text_here", "_law_row_here", "_law_handed", "_law_time", "_law_found"]
abbrev p_law : List Str := ["_law_script"]
theorem sc_law : FnScope N_law p_law (defScope s_law) := ⟨rfl, rfl, rfl, by decide +kernel, rfl, by decide +kernel, by decide +kernel⟩
def d_law : He.DefD := ⟨("law", none), "law", "law", defArgs s_law, defBody s_law, defScope s_law, [], []⟩
abbrev F_law (K : PySem.W.Frag) (f : Addr) (fd : FuncData) : Prop := FunD K "law" "law" (defArgs s_law) (defBody s_law) (defScope s_law) [] [] f fd
def fa : List He.Fa := [.free "len", .int "MOST_LETTERS" 4, .free "all", .str "LETTERS" "abcdefghijklmnopqrstuvwxyz", .str "REST" "#", .int "MOST_WORDS" 6, .str "ANY" "*", .free "isinstance", .free "tuple", .free "list", .free "range", .free "str", .free "int", .free "bool", .str "FIGURES" "0123456789", .free "max", .free "enumerate", .glo "is_word", .glo "is_pattern", .glo "_law_alike", .glo "rank_of", .glo "row_of", .glo "_law_mix", .glo "_law_next", .glo "read", .glo "written", .glo "_law_text", .glo "_law_word", .glo "_law_row", .glo "law"]
def fn : List He.DefD := [d_is_word, d_is_pattern, d_law_alike, d_rank_of, d_row_of, d_law_mix, d_law_next, d_read, d_written, d_law_text, d_law_word, d_law_row, d_law]
def Tx (K : PySem.W.Frag) (mg : Str → Option Value) : Prop := ∃ h : Heap, K.In h ∧ h.Ns mainGlobals mg ∧ He.SaysD fa fn K
section
variable {K : PySem.W.Frag} {mg : Str → Option Value}
theorem Tx.b_len (T : Tx K mg) : mg "len" = none := by obtain ⟨h, X, G, c⟩ := T; exact He.free_ok X G (c.fact 0 (f := .free "len") rfl)
theorem Tx.c_MOST_LETTERS (T : Tx K mg) : ∃ t, mg "MOST_LETTERS" = some (.int 4 t) := by obtain ⟨h, X, G, c⟩ := T; exact He.int_ok X G (c.fact 1 (f := .int "MOST_LETTERS" 4) rfl)
theorem Tx.b_all (T : Tx K mg) : mg "all" = none := by obtain ⟨h, X, G, c⟩ := T; exact He.free_ok X G (c.fact 2 (f := .free "all") rfl)
theorem Tx.c_LETTERS (T : Tx K mg) : ∃ t, mg "LETTERS" = some (.str "abcdefghijklmnopqrstuvwxyz" t) := by obtain ⟨h, X, G, c⟩ := T; exact He.str_ok X G (c.fact 3 (f := .str "LETTERS" "abcdefghijklmnopqrstuvwxyz") rfl)
theorem Tx.c_REST (T : Tx K mg) : ∃ t, mg "REST" = some (.str "#" t) := by obtain ⟨h, X, G, c⟩ := T; exact He.str_ok X G (c.fact 4 (f := .str "REST" "#") rfl)
theorem Tx.c_MOST_WORDS (T : Tx K mg) : ∃ t, mg "MOST_WORDS" = some (.int 6 t) := by obtain ⟨h, X, G, c⟩ := T; exact He.int_ok X G (c.fact 5 (f := .int "MOST_WORDS" 6) rfl)
theorem Tx.c_ANY (T : Tx K mg) : ∃ t, mg "ANY" = some (.str "*" t) := by obtain ⟨h, X, G, c⟩ := T; exact He.str_ok X G (c.fact 6 (f := .str "ANY" "*") rfl)
theorem Tx.b_isinstance (T : Tx K mg) : mg "isinstance" = none := by obtain ⟨h, X, G, c⟩ := T; exact He.free_ok X G (c.fact 7 (f := .free "isinstance") rfl)
theorem Tx.b_tuple (T : Tx K mg) : mg "tuple" = none := by obtain ⟨h, X, G, c⟩ := T; exact He.free_ok X G (c.fact 8 (f := .free "tuple") rfl)
theorem Tx.b_list (T : Tx K mg) : mg "list" = none := by obtain ⟨h, X, G, c⟩ := T; exact He.free_ok X G (c.fact 9 (f := .free "list") rfl)
theorem Tx.b_range (T : Tx K mg) : mg "range" = none := by obtain ⟨h, X, G, c⟩ := T; exact He.free_ok X G (c.fact 10 (f := .free "range") rfl)
theorem Tx.b_str (T : Tx K mg) : mg "str" = none := by obtain ⟨h, X, G, c⟩ := T; exact He.free_ok X G (c.fact 11 (f := .free "str") rfl)
theorem Tx.b_int (T : Tx K mg) : mg "int" = none := by obtain ⟨h, X, G, c⟩ := T; exact He.free_ok X G (c.fact 12 (f := .free "int") rfl)
theorem Tx.b_bool (T : Tx K mg) : mg "bool" = none := by obtain ⟨h, X, G, c⟩ := T; exact He.free_ok X G (c.fact 13 (f := .free "bool") rfl)
theorem Tx.c_FIGURES (T : Tx K mg) : ∃ t, mg "FIGURES" = some (.str "0123456789" t) := by obtain ⟨h, X, G, c⟩ := T; exact He.str_ok X G (c.fact 14 (f := .str "FIGURES" "0123456789") rfl)
theorem Tx.b_max (T : Tx K mg) : mg "max" = none := by obtain ⟨h, X, G, c⟩ := T; exact He.free_ok X G (c.fact 15 (f := .free "max") rfl)
theorem Tx.b_enumerate (T : Tx K mg) : mg "enumerate" = none := by obtain ⟨h, X, G, c⟩ := T; exact He.free_ok X G (c.fact 16 (f := .free "enumerate") rfl)
theorem Tx.g_is_word (T : Tx K mg) : mg "is_word" = some (.ref (He.ga K "is_word")) := by obtain ⟨h, X, G, c⟩ := T; exact He.glo_ok X G (c.fact 17 (f := .glo "is_word") rfl)
theorem Tx.g_is_pattern (T : Tx K mg) : mg "is_pattern" = some (.ref (He.ga K "is_pattern")) := by obtain ⟨h, X, G, c⟩ := T; exact He.glo_ok X G (c.fact 18 (f := .glo "is_pattern") rfl)
theorem Tx.g__law_alike (T : Tx K mg) : mg "_law_alike" = some (.ref (He.ga K "_law_alike")) := by obtain ⟨h, X, G, c⟩ := T; exact He.glo_ok X G (c.fact 19 (f := .glo "_law_alike") rfl)
theorem Tx.g_rank_of (T : Tx K mg) : mg "rank_of" = some (.ref (He.ga K "rank_of")) := by obtain ⟨h, X, G, c⟩ := T; exact He.glo_ok X G (c.fact 20 (f := .glo "rank_of") rfl)
theorem Tx.g_row_of (T : Tx K mg) : mg "row_of" = some (.ref (He.ga K "row_of")) := by obtain ⟨h, X, G, c⟩ := T; exact He.glo_ok X G (c.fact 21 (f := .glo "row_of") rfl)
theorem Tx.g__law_mix (T : Tx K mg) : mg "_law_mix" = some (.ref (He.ga K "_law_mix")) := by obtain ⟨h, X, G, c⟩ := T; exact He.glo_ok X G (c.fact 22 (f := .glo "_law_mix") rfl)
theorem Tx.g__law_next (T : Tx K mg) : mg "_law_next" = some (.ref (He.ga K "_law_next")) := by obtain ⟨h, X, G, c⟩ := T; exact He.glo_ok X G (c.fact 23 (f := .glo "_law_next") rfl)
theorem Tx.g_read (T : Tx K mg) : mg "read" = some (.ref (He.ga K "read")) := by obtain ⟨h, X, G, c⟩ := T; exact He.glo_ok X G (c.fact 24 (f := .glo "read") rfl)
theorem Tx.g_written (T : Tx K mg) : mg "written" = some (.ref (He.ga K "written")) := by obtain ⟨h, X, G, c⟩ := T; exact He.glo_ok X G (c.fact 25 (f := .glo "written") rfl)
theorem Tx.g__law_text (T : Tx K mg) : mg "_law_text" = some (.ref (He.ga K "_law_text")) := by obtain ⟨h, X, G, c⟩ := T; exact He.glo_ok X G (c.fact 26 (f := .glo "_law_text") rfl)
theorem Tx.g__law_word (T : Tx K mg) : mg "_law_word" = some (.ref (He.ga K "_law_word")) := by obtain ⟨h, X, G, c⟩ := T; exact He.glo_ok X G (c.fact 27 (f := .glo "_law_word") rfl)
theorem Tx.g__law_row (T : Tx K mg) : mg "_law_row" = some (.ref (He.ga K "_law_row")) := by obtain ⟨h, X, G, c⟩ := T; exact He.glo_ok X G (c.fact 28 (f := .glo "_law_row") rfl)
theorem Tx.g_law (T : Tx K mg) : mg "law" = some (.ref (He.ga K "law")) := by obtain ⟨h, X, G, c⟩ := T; exact He.glo_ok X G (c.fact 29 (f := .glo "law") rfl)
theorem Tx.f_is_word (T : Tx K mg) : ∃ fd, F_is_word K (He.fAd K d_is_word.at_) fd := by obtain ⟨h, X, G, c⟩ := T; exact c.def_ 0 (d := d_is_word) rfl
theorem Tx.f_is_pattern (T : Tx K mg) : ∃ fd, F_is_pattern K (He.fAd K d_is_pattern.at_) fd := by obtain ⟨h, X, G, c⟩ := T; exact c.def_ 1 (d := d_is_pattern) rfl
theorem Tx.f_law_alike (T : Tx K mg) : ∃ fd, F_law_alike K (He.fAd K d_law_alike.at_) fd := by obtain ⟨h, X, G, c⟩ := T; exact c.def_ 2 (d := d_law_alike) rfl
theorem Tx.f_rank_of (T : Tx K mg) : ∃ fd, F_rank_of K (He.fAd K d_rank_of.at_) fd := by obtain ⟨h, X, G, c⟩ := T; exact c.def_ 3 (d := d_rank_of) rfl
theorem Tx.f_row_of (T : Tx K mg) : ∃ fd, F_row_of K (He.fAd K d_row_of.at_) fd := by obtain ⟨h, X, G, c⟩ := T; exact c.def_ 4 (d := d_row_of) rfl
theorem Tx.f_law_mix (T : Tx K mg) : ∃ fd, F_law_mix K (He.fAd K d_law_mix.at_) fd := by obtain ⟨h, X, G, c⟩ := T; exact c.def_ 5 (d := d_law_mix) rfl
theorem Tx.f_law_next (T : Tx K mg) : ∃ fd, F_law_next K (He.fAd K d_law_next.at_) fd := by obtain ⟨h, X, G, c⟩ := T; exact c.def_ 6 (d := d_law_next) rfl
theorem Tx.f_read (T : Tx K mg) : ∃ fd, F_read K (He.fAd K d_read.at_) fd := by obtain ⟨h, X, G, c⟩ := T; exact c.def_ 7 (d := d_read) rfl
theorem Tx.f_written (T : Tx K mg) : ∃ fd, F_written K (He.fAd K d_written.at_) fd := by obtain ⟨h, X, G, c⟩ := T; exact c.def_ 8 (d := d_written) rfl
theorem Tx.f_law_text (T : Tx K mg) : ∃ fd, F_law_text K (He.fAd K d_law_text.at_) fd := by obtain ⟨h, X, G, c⟩ := T; exact c.def_ 9 (d := d_law_text) rfl
theorem Tx.f_law_word (T : Tx K mg) : ∃ fd, F_law_word K (He.fAd K d_law_word.at_) fd := by obtain ⟨h, X, G, c⟩ := T; exact c.def_ 10 (d := d_law_word) rfl
theorem Tx.f_law_row (T : Tx K mg) : ∃ fd, F_law_row K (He.fAd K d_law_row.at_) fd := by obtain ⟨h, X, G, c⟩ := T; exact c.def_ 11 (d := d_law_row) rfl
theorem Tx.f_law (T : Tx K mg) : ∃ fd, F_law K (He.fAd K d_law.at_) fd := by obtain ⟨h, X, G, c⟩ := T; exact c.def_ 12 (d := d_law) rfl
end
end Hk

set_option Elab.async false
set_option linter.all false
set_option maxRecDepth 100000
set_option maxHeartbeats 4000000
namespace Hk
open PySem PySem.Spec PyProof.Rows L2
open TL
section
variable {P : Program} {w : World} {K : PySem.W.Frag} {mg : Str → Option Value} {base : Heap}
theorem last_map {ws : List Str} {s : Str} : ((ws.map V.str).getLast? = some (V.str s)) ↔ ws.getLast? = some s := by
  rw [List.getLast?_map]
  cases ws.getLast? with
  | none => simp
  | some x => simp
theorem last_str {ws : List Str} (h : ws ≠ []) : ∃ x, (ws.map V.str).getLast? = some (V.str x) ∧ ws.getLast? = some x := by
  refine ⟨ws.getLast h, ?_, List.getLast?_eq_getLast h⟩
  rw [List.getLast?_map, List.getLast?_eq_getLast h]; rfl
/-! ### is_word -/
def sp_is_word : Sp := fun vs H Q _ => ∃ z : Str, vs = [.str z] ∧ z.length ≤ 10000 ∧ ∀ H', Same H H' → Q (.bl (isWord z)) H'
theorem G_is_word (T : Tx K mg) : Glob P w K mg base (CX0) 1 "is_word" p_is_word [] sp_is_word := by
  obtain ⟨fd, F⟩ := T.f_is_word
  refine ⟨_, fd, [], F.ok sc_is_word (fun vs H Q E h => ?_) (fun cdv A outer s H vs Q E hr h => ?_), T.g_is_word, F.kp, .nil, F.bindsN fun _ _ _ _ _ _ us hl => match us, hl with | [_], _ => rfl⟩
  · obtain ⟨z, rfl, _⟩ := h; rfl
  · obtain ⟨z, rfl, hz, q⟩ := h
    refine ⟨_, PSs.nox (pss_one (ps_ret (pe_and (pe_chain op_le op_le pe_int (pe_callB call_len_str (by rfl) T.b_len (by decide +kernel) (pa_cons (pv 0) pa_nil)) (pe_gi T.c_MOST_LETTERS (by rfl))) (pe_one (pe_callB (cr_allK (K := K) rfl rfl) (by rfl) T.b_all (by decide +kernel) (pa_cons (pe_lc (own := [("sign", 1)]) (g := (gName 1)) (tt := tYes) rfl sc_is_word.nd (pi_str (pv 0)) (blkOk_by (by kernel_rfl)) (fun _ _ _ _ _ => (pg_name (i := 1) sc_is_word.nd rfl (Or.inl rfl))) (fun _ _ _ _ _ => pts_nil) (fun _ _ _ _ _ => (pe_cmpR op_in_sign (pv 1) (pe_gs T.c_LETTERS (by rfl)) (by rfl)))) pa_nil)))))), ?_⟩
    simp only [tCutE, false_and, exists_false, false_or, or_false, tRet, tRetN, tAndV, tOrV, tNotV, tChain, rI, rI0, rU, tC, tCB, tCons, tNil, tVar, tOp, tUn, tTest, tB, tAnd, tOr, tNot, tIf, tIfS, tSeq, tAsg, tDrop, tNext, gName, gTup_ref, gCons_cons, gNil_nil, and_assoc, tYes, wipe, rEq, rNe, scal_ss, scal_ii, scal_bb, scal_ns, scal_sn, scal_nn, scal_in, scal_ni, tLc_eq, tFor_eq, iList, iTup, iStr, iRng1, iRng2, iZip, iEnum, gSub, tSl, rSetL_ref, rCat_ref, rRep_ref, rJoin_ref, rSlL_ref, rSlS_ref, rMulS_ref, rIxL_ref, rIxT_ref, rLenK_ref, rAll_ref, rIn_ref, tLst, tTup, tPar, tPar3, tAug, tPart, tNoPart, tCall, List.getElem?_cons_zero, List.getElem?_cons_succ, List.set_cons_zero, List.set_cons_succ, List.map_cons, List.map_nil, List.append_nil, List.nil_append, List.cons_append, Option.some.injEq, exists_eq_left', exists_eq_left, exists_eq_right, exists_eq_right', exists_eq', V.int.injEq, V.str.injEq, V.bl.injEq, V.ref.injEq, List.cons.injEq, tM0, tM1, rNewStrs, sgn_eq, split_dot, split_sp, split_nl, dot_len, sp_len, nl_len, cxOf_K, L2.start, List.length_cons, List.length_nil, List.replicate_succ, List.replicate_zero, Nat.reduceSub, Nat.zero_add, and_true, true_and, and_self, exists_and_left, exists_const, Bool.false_eq_true, if_false, if_true, ite_true, ite_false, reduceIte, decide_eq_true_eq, reduceCtorEq, Nat.reduceAdd, Nat.reduceLT]
    refine ⟨small (by omega), ?_⟩
    have hz' : (tl z).length ≤ 10000 := by rw [← len_tl]; exact hz
    split
    · rename_i h1
      split
      · rename_i h2
        refine lc_map (tl z) (fun c => V.bl (decide (c ∈ tl letters))) walk_str (by omega) (fun _ _ => trivial) (fun i a x H1 H' R hx s1 hy r => ?_) (fun D H1 nD s1 hD => ?_)
        · obtain ⟨rfl, c, hc, rfl⟩ := hy
          have e : c = a := by
            rw [Array.getElem?_toList] at hx
            exact Option.some.inj (hc.symm.trans hx)
          subst e
          simp only [tCutE, false_and, exists_false, false_or, or_false, tRet, tRetN, tAndV, tOrV, tNotV, tChain, rI, rI0, rU, tC, tCB, tCons, tNil, tVar, tOp, tUn, tTest, tB, tAnd, tOr, tNot, tIf, tIfS, tSeq, tAsg, tDrop, tNext, gName, gTup_ref, gCons_cons, gNil_nil, and_assoc, tYes, wipe, rEq, rNe, scal_ss, scal_ii, scal_bb, scal_ns, scal_sn, scal_nn, scal_in, scal_ni, tLc_eq, tFor_eq, iList, iTup, iStr, iRng1, iRng2, iZip, iEnum, gSub, tSl, rSetL_ref, rCat_ref, rRep_ref, rJoin_ref, rSlL_ref, rSlS_ref, rMulS_ref, rIxL_ref, rIxT_ref, rLenK_ref, rAll_ref, rIn_ref, tLst, tTup, tPar, tPar3, tAug, tPart, tNoPart, tCall, List.getElem?_cons_zero, List.getElem?_cons_succ, List.set_cons_zero, List.set_cons_succ, List.map_cons, List.map_nil, List.append_nil, List.nil_append, List.cons_append, Option.some.injEq, exists_eq_left', exists_eq_left, exists_eq_right, exists_eq_right', exists_eq', V.int.injEq, V.str.injEq, V.bl.injEq, V.ref.injEq, List.cons.injEq, tM0, tM1, rNewStrs, sgn_eq, split_dot, split_sp, split_nl, dot_len, sp_len, nl_len, cxOf_K, L2.start, List.length_cons, List.length_nil, List.replicate_succ, List.replicate_zero, Nat.reduceSub, Nat.zero_add, and_true, true_and, and_self, exists_and_left, exists_const, Bool.false_eq_true, if_false, if_true, ite_true, ite_false, reduceIte, decide_eq_true_eq, reduceCtorEq, Nat.reduceAdd, Nat.reduceLT]
          exact r _ (Same.refl _)
        · refine ⟨D, (tl z).map fun c => decide (c ∈ tl letters), rfl, .of (by rw [hD, List.map_map]; rfl), ?_⟩
          have e : isWord z = List.all ((tl z).map fun c => decide (c ∈ tl letters)) id := by
            unfold isWord
            rw [decide_eq_true (by omega : 1 ≤ z.length), decide_eq_true (by omega : z.length ≤ 4), List.all_map]
            rfl
          rw [← e]
          exact q _ s1
      · have e : isWord z = false := by
          unfold isWord
          rw [decide_eq_false (by omega : ¬ z.length ≤ 4)]; simp
        rw [← e]; exact q _ (Same.refl _)
    · have e : isWord z = false := by
        unfold isWord
        rw [decide_eq_false (by omega : ¬ 1 ≤ z.length)]; simp
      rw [← e]; exact q _ (Same.refl _)
/-! ### is_pattern -/
def sp_is_pattern : Sp := fun vs H Q _ => ∃ z : Str, vs = [.str z] ∧ z.length ≤ 10000 ∧ ∀ H', Same H H' → Q (.bl (isPat z)) H'
theorem G_is_pattern (T : Tx K mg) : Glob P w K mg base (CX0) 2 "is_pattern" p_is_pattern [] sp_is_pattern := by
  obtain ⟨fd, F⟩ := T.f_is_pattern
  refine ⟨_, fd, [], F.ok sc_is_pattern (fun vs H Q E h => ?_) (fun cdv A outer s H vs Q E hr h => ?_), T.g_is_pattern, F.kp, .nil, F.bindsN fun _ _ _ _ _ _ us hl => match us, hl with | [_], _ => rfl⟩
  · obtain ⟨z, rfl, _⟩ := h; rfl
  · obtain ⟨z, rfl, hz, q⟩ := h
    refine ⟨_, PSs.nox (pss_cons (ps_set (i := 1) sc_is_pattern.nd rfl (Or.inl rfl) (pe_split (pv 0) pe_str))
      (pss_cons (ps_if (pt_cmpR op_eq (pe_ix (ix_listK (K := K) rfl) (pv 1) (pe_un un_neg pe_int) (fun _ _ => rfl)) (pe_gs T.c_REST (by rfl)) (nomark _))
      (pss_one (ps_expr (pe_bm0K (K := K) rfl PySem.F.plainAttrs_list PySem.F.slot_list_pop PySem.F.type_list_pop mt_pop (pv 1))))
      pss_nil)
      (pss_one (ps_ret (pe_and (pe_cmpR op_le (pe_callB (call_len_seqK (K := K) rfl) (by rfl) T.b_len (by decide +kernel) (pa_cons (pv 1) pa_nil)) (pe_gi T.c_MOST_WORDS (by rfl)) (nomark _)) (pe_one (pe_callB (cr_allK (K := K) rfl rfl) (by rfl) T.b_all (by decide +kernel) (pa_cons (pe_lc (own := [("word", 2)]) (g := (gName 2)) (tt := tYes) rfl sc_is_pattern.nd (pi_listK (K := K) rfl (pv 1)) (blkOk_by (by kernel_rfl)) (fun _ _ _ _ _ => (pg_name (i := 2) sc_is_pattern.nd rfl (Or.inl rfl))) (fun _ _ _ _ _ => pts_nil) (fun _ _ _ _ _ => (pe_or (pe_cmpR op_eq (pv 2) (pe_gs T.c_ANY (by rfl)) (nomark _)) (pe_one (pe_callG (G_is_word T) (hr.mono (by decide)) (by rfl) pass0 (pa_cons (pv 2) pa_nil)))))) pa_nil)))))))), ?_⟩
    simp only [tCutE, false_and, exists_false, false_or, or_false, tRet, tRetN, tAndV, tOrV, tNotV, tChain, rI, rI0, rU, tC, tCB, tCons, tNil, tVar, tOp, tUn, tTest, tB, tAnd, tOr, tNot, tIf, tIfS, tSeq, tAsg, tDrop, tNext, gName, gTup_ref, gCons_cons, gNil_nil, and_assoc, tYes, wipe, rEq, rNe, scal_ss, scal_ii, scal_bb, scal_ns, scal_sn, scal_nn, scal_in, scal_ni, tLc_eq, tFor_eq, iList, iTup, iStr, iRng1, iRng2, iZip, iEnum, gSub, tSl, rSetL_ref, rCat_ref, rRep_ref, rJoin_ref, rSlL_ref, rSlS_ref, rMulS_ref, rIxL_ref, rIxT_ref, rLenK_ref, rAll_ref, rIn_ref, tLst, tTup, tPar, tPar3, tAug, tPart, tNoPart, tCall, List.getElem?_cons_zero, List.getElem?_cons_succ, List.set_cons_zero, List.set_cons_succ, List.map_cons, List.map_nil, List.append_nil, List.nil_append, List.cons_append, Option.some.injEq, exists_eq_left', exists_eq_left, exists_eq_right, exists_eq_right', exists_eq', V.int.injEq, V.str.injEq, V.bl.injEq, V.ref.injEq, List.cons.injEq, tM0, tM1, rNewStrs, sgn_eq, split_dot, split_sp, split_nl, dot_len, sp_len, nl_len, cxOf_K, L2.start, List.length_cons, List.length_nil, List.replicate_succ, List.replicate_zero, Nat.reduceSub, Nat.zero_add, and_true, true_and, and_self, exists_and_left, exists_const, Bool.false_eq_true, if_false, if_true, ite_true, ite_false, reduceIte, decide_eq_true_eq, reduceCtorEq, Nat.reduceAdd, Nat.reduceLT]
    have hl := wds_len z
    have fin : ∀ (p : Addr) (H1 : Hp), H p = none → Same H H1 → H1 p = some (.lst ((cut (wds z)).map V.str)) → ∃ ys, (SqL K H1 p ys ∨ SqT K H1 p ys) ∧ if (ys.length : Int) ≤ 6 then
        (∃ xs, SqL K H1 p xs) ∧ LcG (Itl K p) (gName 2) tYes (tOrV (tOp rEq (tVar 2) (tC (V.str (Str.ofString "*")))) (tCall sp_is_word [] E0 (tCons (tVar 2) tNil))) [2] [some (V.str z), some (V.ref p), none] H1 fun x H1 => rAll K [x] H1 Q
      else Q (V.bl false) H1 := by
      intro p H1 hp s1 hc
      have hcl : (cut (wds z)).length ≤ (wds z).length := by
        unfold cut; split
        · rw [List.length_dropLast]; omega
        · exact Nat.le_refl _
      have hcm : ∀ w ∈ cut (wds z), w ∈ wds z := by
        unfold cut; split
        · exact fun w hw => List.dropLast_subset _ hw
        · exact fun w hw => hw
      refine ⟨_, .inl (.of hc), ?_⟩
      rw [List.length_map]
      split
      · rename_i h1
        refine ⟨⟨_, .of hc⟩, lc_map (cut (wds z)) (fun w => V.bl (starOr w)) (walk_listm (cut (wds z)) V.str) (by omega) (fun H2 s2 => s2.seq (.of hc)) (fun i a x H1 H' R hx s2 hy r => ?_) (fun D H1 nD s2 hD => ?_)⟩
        · obtain ⟨rfl, y, hy, rfl⟩ := hy
          cases Option.some.inj (hx.symm.trans hy)
          simp only [tCutE, false_and, exists_false, false_or, or_false, tRet, tRetN, tAndV, tOrV, tNotV, tChain, rI, rI0, rU, tC, tCB, tCons, tNil, tVar, tOp, tUn, tTest, tB, tAnd, tOr, tNot, tIf, tIfS, tSeq, tAsg, tDrop, tNext, gName, gTup_ref, gCons_cons, gNil_nil, and_assoc, tYes, wipe, rEq, rNe, scal_ss, scal_ii, scal_bb, scal_ns, scal_sn, scal_nn, scal_in, scal_ni, tLc_eq, tFor_eq, iList, iTup, iStr, iRng1, iRng2, iZip, iEnum, gSub, tSl, rSetL_ref, rCat_ref, rRep_ref, rJoin_ref, rSlL_ref, rSlS_ref, rMulS_ref, rIxL_ref, rIxT_ref, rLenK_ref, rAll_ref, rIn_ref, tLst, tTup, tPar, tPar3, tAug, tPart, tNoPart, tCall, List.getElem?_cons_zero, List.getElem?_cons_succ, List.set_cons_zero, List.set_cons_succ, List.map_cons, List.map_nil, List.append_nil, List.nil_append, List.cons_append, Option.some.injEq, exists_eq_left', exists_eq_left, exists_eq_right, exists_eq_right', exists_eq', V.int.injEq, V.str.injEq, V.bl.injEq, V.ref.injEq, List.cons.injEq, tM0, tM1, rNewStrs, sgn_eq, split_dot, split_sp, split_nl, dot_len, sp_len, nl_len, cxOf_K, L2.start, List.length_cons, List.length_nil, List.replicate_succ, List.replicate_zero, Nat.reduceSub, Nat.zero_add, and_true, true_and, and_self, exists_and_left, exists_const, Bool.false_eq_true, if_false, if_true, ite_true, ite_false, reduceIte, decide_eq_true_eq, reduceCtorEq, Nat.reduceAdd, Nat.reduceLT]
          have := wds_each z a (hcm a (List.mem_of_getElem? hx))
          unfold starOr at r
          split
          · rename_i e
            subst e
            simp only [decide_true, Bool.true_or] at r
            exact r _ (Same.refl _)
          · rename_i e
            rw [decide_eq_false e, Bool.false_or] at r
            exact ⟨a, rfl, by omega, r⟩
        · refine ⟨D, (cut (wds z)).map starOr, rfl, .of (by rw [hD, List.map_map]; rfl), ?_⟩
          have e : isPat z = List.all ((cut (wds z)).map starOr) id := by
            unfold isPat
            rw [decide_eq_true (by omega : (cut (wds z)).length ≤ 6), List.all_map]
            rfl
          rw [← e]
          exact q _ (s1.trans s2)
      · have e : isPat z = false := by
          unfold isPat
          rw [decide_eq_false (by omega : ¬ (cut (wds z)).length ≤ 6)]; simp
        rw [← e]; exact q _ s1
    refine ⟨small (by omega), fun p hp => ⟨_, .of upd_same, ?_⟩⟩
    have s1 : Same H (upd H p (HO.lst (List.map V.str (wds z)))) := same_put (Same.refl _) hp
    obtain ⟨x, e1, e2⟩ := last_str (wds_ne z)
    refine ⟨.str x, (atI_neg1 (by simpa using wds_ne z)).trans e1, rfl, ?_⟩
    split
    · rename_i e
      cases e
      refine ⟨_, rfl, .inl ⟨rfl, _, .of upd_same⟩, p, _, .str ("#" : Str), rfl, rfl, upd_same, ?_, ?_⟩
      · rw [← List.getLast?_eq_getElem?]; exact e1
      · refine fin p _ hp (same_put s1 hp) ?_
        rw [upd_same]
        unfold cut
        rw [if_pos e2, List.map_dropLast]
    · rename_i e
      refine fin p _ hp s1 ?_
      rw [upd_same]
      unfold cut
      rw [if_neg (fun z => e (by rw [e2] at z; exact congrArg V.str (Option.some.inj z)))]
end
end Hk

set_option Elab.async false
set_option linter.all false
set_option maxRecDepth 100000
set_option maxHeartbeats 4000000
namespace Hk
open PySem PySem.Spec PyProof.Rows L2
section
variable {P : Program} {w : World} {K : PySem.W.Frag} {mg : Str → Option Value} {base : Heap}
/-! ### _law_alike: the same data -/
def sp_law_alike (K : PySem.W.Frag) (n : Nat) : Sp := fun vs H Q _ => ∃ (v u : V) (d : PyData), vs = [v, u] ∧ Dp K H v d ∧ Dp K H u d ∧ d.depth < n ∧ smallD d = true ∧ ∀ H', Same H H' → Q (.bl true) H'
theorem G_law_alike (T : Tx K mg) : ∀ n : Nat, Glob P w K mg base CX0 (n + 1) "_law_alike" p_law_alike [] (sp_law_alike K n) := by
  intro n
  obtain ⟨fd, F⟩ := T.f_law_alike
  induction n with
  | zero =>
    refine ⟨_, fd, [], ⟨fun vs H Q E h => ?_, fun A outer s H args us vs Q E _ _ _ _ h => ?_⟩, T.g__law_alike, F.kp, .nil, F.bindsN fun _ _ _ _ _ _ us hl => match us, hl with | [_, _], _ => rfl⟩
    · obtain ⟨v, u, d, rfl, _⟩ := h; rfl
    · obtain ⟨v, u, d, _, _, _, hd, _⟩ := h; omega
  | succ n ih =>
    refine ⟨_, fd, [], F.ok sc_law_alike (fun vs H Q E h => ?_) (fun cdv A outer s H vs Q E hr h => ?_), T.g__law_alike, F.kp, .nil, F.bindsN fun _ _ _ _ _ _ us hl => match us, hl with | [_, _], _ => rfl⟩
    · obtain ⟨v, u, d, rfl, _⟩ := h; rfl
    · obtain ⟨v, u, d, rfl, h1, h2, hd, hs, q⟩ := h
      refine ⟨_, PSs.nox (pss_cons (ps_if (pt_val (pe_callB (call_isiTK (K := K) rfl) (by rfl) T.b_isinstance (by decide +kernel) (pa_cons (pv 1) (pa_cons (pe_tup (pa_cons (pe_bltn (v := .ty "tuple") (by rfl) T.b_tuple (by decide +kernel) rfl) (pa_cons (pe_bltn (v := .ty "list") (by rfl) T.b_list (by decide +kernel) rfl) pa_nil))) pa_nil))))
      (pss_cons (ps_if (PW.pt (pw_or (pt_not (pt_val (pe_callB (call_isiTK (K := K) rfl) (by rfl) T.b_isinstance (by decide +kernel) (pa_cons (pv 0) (pa_cons (pe_tup (pa_cons (pe_bltn (v := .ty "tuple") (by rfl) T.b_tuple (by decide +kernel) rfl) (pa_cons (pe_bltn (v := .ty "list") (by rfl) T.b_list (by decide +kernel) rfl) pa_nil))) pa_nil))))) (pw_or1 (pt_cmpR op_ne (pe_callB (call_isiK1 (K := K) rfl) (by rfl) T.b_isinstance (by decide +kernel) (pa_cons (pv 0) (pa_cons (pe_bltn (v := .ty "list") (by rfl) T.b_list (by decide +kernel) rfl) pa_nil))) (pe_callB (call_isiK1 (K := K) rfl) (by rfl) T.b_isinstance (by decide +kernel) (pa_cons (pv 1) (pa_cons (pe_bltn (v := .ty "list") (by rfl) T.b_list (by decide +kernel) rfl) pa_nil))) (nomark _)))))
      (pss_one (ps_ret pe_bl))
      pss_nil)
      (pss_cons (ps_if (pt_cmpR op_ne (pe_callB (call_len_seqK (K := K) rfl) (by rfl) T.b_len (by decide +kernel) (pa_cons (pv 0) pa_nil)) (pe_callB (call_len_seqK (K := K) rfl) (by rfl) T.b_len (by decide +kernel) (pa_cons (pv 1) pa_nil)) (nomark _))
      (pss_one (ps_ret pe_bl))
      pss_nil)
      (pss_one (ps_ret (pe_cmpR (op_eqDK (K := K) rfl hr.units) (pe_lc (own := [("_law_k", 2)]) (g := (gName 2)) rfl sc_law_alike.nd (pi_range1 (by rfl) T.b_range (pa_cons (pe_callB (call_len_seqK (K := K) rfl) (by rfl) T.b_len (by decide +kernel) (pa_cons (pv 1) pa_nil)) pa_nil)) (blkOk_by (by kernel_rfl)) (fun _ _ _ _ _ => (pg_name (i := 2) sc_law_alike.nd rfl (Or.inl rfl))) (fun _ _ _ _ _ => (pts_one (pt_not (pt_val (pe_callG ih hr (by rfl) pass0 (pa_cons (pe_ix (ix_seqK (K := K) rfl) (pv 0) (pv 2) (fun _ _ => rfl)) (pa_cons (pe_ix (ix_seqK (K := K) rfl) (pv 1) (pv 2) (fun _ _ => rfl)) pa_nil))))))) (fun _ _ _ _ _ => (pv 2))) (pe_lst pa_nil) (nomark _))))))
      pss_nil)
      (pss_cons (ps_if (PW.pt (pw_or (pt_cmpR op_isN (pv 1) pe_non (nomark _)) (pw_or1 (pt_val (pe_callB (call_isiK1 (K := K) rfl) (by rfl) T.b_isinstance (by decide +kernel) (pa_cons (pv 1) (pa_cons (pe_bltn (v := .ty "str") (by rfl) T.b_str (by decide +kernel) rfl) pa_nil)))))))
      (pss_one (ps_ret (pe_and (pe_cmpR op_eq (pv 0) (pv 1) (nomark _)) (pe_one (pe_cmpR op_eq (pe_callB (call_isiK1 (K := K) rfl) (by rfl) T.b_isinstance (by decide +kernel) (pa_cons (pv 0) (pa_cons (pe_bltn (v := .ty "str") (by rfl) T.b_str (by decide +kernel) rfl) pa_nil))) (pe_callB (call_isiK1 (K := K) rfl) (by rfl) T.b_isinstance (by decide +kernel) (pa_cons (pv 1) (pa_cons (pe_bltn (v := .ty "str") (by rfl) T.b_str (by decide +kernel) rfl) pa_nil))) (nomark _))))))
      pss_nil)
      (pss_one (ps_ret (pe_and (pe_callB (call_isiK1 (K := K) rfl) (by rfl) T.b_isinstance (by decide +kernel) (pa_cons (pv 0) (pa_cons (pe_bltn (v := .ty "int") (by rfl) T.b_int (by decide +kernel) rfl) pa_nil))) (pe_and (pe_cmpR op_eq (pe_callB (call_isiK1 (K := K) rfl) (by rfl) T.b_isinstance (by decide +kernel) (pa_cons (pv 0) (pa_cons (pe_bltn (v := .ty "bool") (by rfl) T.b_bool (by decide +kernel) rfl) pa_nil))) (pe_callB (call_isiK1 (K := K) rfl) (by rfl) T.b_isinstance (by decide +kernel) (pa_cons (pv 1) (pa_cons (pe_bltn (v := .ty "bool") (by rfl) T.b_bool (by decide +kernel) rfl) pa_nil))) (nomark _)) (pe_one (pe_cmpR op_eq (pv 0) (pv 1) (nomark _))))))))), ?_⟩
      simp only [tCutE, false_and, exists_false, false_or, or_false, tRet, tRetN, tAndV, tOrV, tNotV, tChain, rI, rI0, rU, tC, tCB, tCons, tNil, tVar, tOp, tUn, tTest, tB, tAnd, tOr, tNot, tIf, tIfS, tSeq, tAsg, tDrop, tNext, gName, gTup_ref, gCons_cons, gNil_nil, and_assoc, tYes, wipe, rEq, rNe, scal_ss, scal_ii, scal_bb, scal_ns, scal_sn, scal_nn, scal_in, scal_ni, tLc_eq, tFor_eq, iList, iTup, iStr, iRng1, iRng2, iZip, iEnum, gSub, tSl, rSetL_ref, rCat_ref, rRep_ref, rJoin_ref, rSlL_ref, rSlS_ref, rMulS_ref, rIxL_ref, rIxT_ref, rLenK_ref, rAll_ref, rIn_ref, tLst, tTup, tPar, tPar3, tAug, tPart, tNoPart, tCall, List.getElem?_cons_zero, List.getElem?_cons_succ, List.set_cons_zero, List.set_cons_succ, List.map_cons, List.map_nil, List.append_nil, List.nil_append, List.cons_append, Option.some.injEq, exists_eq_left', exists_eq_left, exists_eq_right, exists_eq_right', exists_eq', V.int.injEq, V.str.injEq, V.bl.injEq, V.ref.injEq, List.cons.injEq, tM0, tM1, rNewStrs, sgn_eq, split_dot, split_sp, split_nl, dot_len, sp_len, nl_len, cxOf_K, L2.start, List.length_cons, List.length_nil, List.replicate_succ, List.replicate_zero, Nat.reduceSub, Nat.zero_add, and_true, true_and, and_self, exists_and_left, exists_const, Bool.false_eq_true, if_false, if_true, ite_true, ite_false, reduceIte, decide_eq_true_eq, reduceCtorEq, Nat.reduceAdd, Nat.reduceLT]
      refine ⟨by decide, fun p hp => ?_⟩
      have s1 : Same H (upd H p (HO.tup [V.ty "tuple", V.ty "list"])) := same_put (Same.refl _) hp
      have k1 := dp_same s1 h1
      have k2 := dp_same s1 h2
      have seqs : ∀ (ds : List PyData), PyData.depthAll ds < n → ∀ (vs us : List V) (a b : Addr) (Ha : Hp), DpAll K Ha vs ds → DpAll K Ha us ds → (SqL K Ha a vs ∨ SqT K Ha a vs) → (SqL K Ha b us ∨ SqT K Ha b us) → Same H Ha → smallAll ds = true → ds.length ≤ 100000 →
          rLenK K [V.ref a] Ha fun x H1 => rLenK K [V.ref b] H1 fun y H2 => scal x y = true ∧ if (!decide (x = y)) = true then Q (V.bl false) H2 else
            rLenK K [V.ref b] H2 fun x H1 => ∃ j, x = V.int j ∧ -2 ^ 62 ≤ j ∧ j < 2 ^ 62 ∧ LcG (Itr 0 j.toNat) (gName 2) (tNot (tB (tCall (sp_law_alike K n) [] E0 (tCons (tOp (rIx K) (tVar 0) (tVar 2)) (tCons (tOp (rIx K) (tVar 1) (tVar 2)) tNil)))))
              (tVar 2) [2] [some (V.ref a), some (V.ref b), none] H1 fun x H1 => 0 ≤ sizeLine ∧ ∀ (p : Addr), H1 p = none → rEqD K x (V.ref p) (upd H1 p (HO.lst [])) Q := by
        intro ds hdd vs us a b Ha d1 d2 q1 q2 sa hsm hsz
        have l1 := dpAll_len d1
        have l2 := dpAll_len d2
        refine ⟨a, vs, rfl, q1, b, us, rfl, q2, rfl, ?_⟩
        rw [l1, l2]
        simp only [decide_true, Bool.not_true, Bool.false_eq_true, if_false]
        refine ⟨b, us, rfl, q2, _, rfl, by omega, by omega, ?_⟩
        rw [l2, Int.toNat_natCast]
        refine lc_acc walk_range No (fun _ => True) (fun i acc => acc = []) (smallLt (by omega)) (fun _ _ z => z) rfl trivial (fun _ _ _ _ _ => trivial) (fun _ _ _ => trivial) (fun i x Hb Hc acc R hi xb _ pa hy r0 r1 => ?_) (fun D acc Hb nD pa la xb _ hD => ?_)
        · obtain ⟨rfl, rfl⟩ := hy
          subst pa
          simp only [tCutE, false_and, exists_false, false_or, or_false, tRet, tRetN, tAndV, tOrV, tNotV, tChain, rI, rI0, rU, tC, tCB, tCons, tNil, tVar, tOp, tUn, tTest, tB, tAnd, tOr, tNot, tIf, tIfS, tSeq, tAsg, tDrop, tNext, gName, gTup_ref, gCons_cons, gNil_nil, and_assoc, tYes, wipe, rEq, rNe, scal_ss, scal_ii, scal_bb, scal_ns, scal_sn, scal_nn, scal_in, scal_ni, tLc_eq, tFor_eq, iList, iTup, iStr, iRng1, iRng2, iZip, iEnum, gSub, tSl, rSetL_ref, rCat_ref, rRep_ref, rJoin_ref, rSlL_ref, rSlS_ref, rMulS_ref, rIxL_ref, rIxT_ref, rLenK_ref, rAll_ref, rIn_ref, tLst, tTup, tPar, tPar3, tAug, tPart, tNoPart, tCall, List.getElem?_cons_zero, List.getElem?_cons_succ, List.set_cons_zero, List.set_cons_succ, List.map_cons, List.map_nil, List.append_nil, List.nil_append, List.cons_append, Option.some.injEq, exists_eq_left', exists_eq_left, exists_eq_right, exists_eq_right', exists_eq', V.int.injEq, V.str.injEq, V.bl.injEq, V.ref.injEq, List.cons.injEq, tM0, tM1, rNewStrs, sgn_eq, split_dot, split_sp, split_nl, dot_len, sp_len, nl_len, cxOf_K, L2.start, List.length_cons, List.length_nil, List.replicate_succ, List.replicate_zero, Nat.reduceSub, Nat.zero_add, and_true, true_and, and_self, exists_and_left, exists_const, Bool.false_eq_true, if_false, if_true, ite_true, ite_false, reduceIte, decide_eq_true_eq, reduceCtorEq, Nat.reduceAdd, Nat.reduceLT]
          have sb : Same Ha Hc := xb.same
          have hx : ds[i]? = some ds[i] := List.getElem?_eq_getElem hi
          obtain ⟨v1, e1, f1⟩ := dpAll_get d1 hx
          obtain ⟨v2, e2, f2⟩ := dpAll_get d2 hx
          have at1 : atI vs (0 + (i : Int)) = some v1 := by rw [Int.zero_add]; exact atI_nat e1
          have at2 : atI us (0 + (i : Int)) = some v2 := by rw [Int.zero_add]; exact atI_nat e2
          have get : ∀ (a : Addr) (xs : List V) (v : V) (i : Int) (Hz : Hp) (Rz : VK), (SqL K Hz a xs ∨ SqT K Hz a xs) → atI xs i = some v → Rz v Hz → rIx K (V.ref a) (V.int i) Hz Rz := fun a xs v i Hz Rz hq ha hr => by
            rcases hq with hq | hq
            · exact .inl ⟨a, xs, i, v, rfl, rfl, hq, ha, hr⟩
            · exact .inr (.inl ⟨a, xs, i, v, rfl, rfl, hq, ha, hr⟩)
          have up : ∀ (a : Addr) (xs : List V), (SqL K Ha a xs ∨ SqT K Ha a xs) → (SqL K Hc a xs ∨ SqT K Hc a xs) := fun a xs h => h.elim (fun h => .inl (sb.seq h)) (fun h => .inr (same_tup sb h))
          refine get a vs v1 _ _ _ (up a vs q1) at1 ?_
          refine get b us v2 _ _ _ (up b us q2) at2 ?_
          refine ⟨v1, v2, ds[i], rfl, dp_same sb f1, dp_same sb f2, ?_, small_in hsm _ (List.getElem_mem hi), fun H' s' => ⟨_, rfl, ?_⟩⟩
          · have := depth_in (List.getElem_mem hi)
            omega
          · simp only [Bool.not_true, Bool.false_eq_true, if_false]
            exact r0 _ (.of_same s') trivial rfl
        · subst pa
          refine ⟨by decide, fun t ht => ⟨.list [], .list [], .lst (.of (by rw [upd_ne (ne_of_none hD ht)]; exact hD)) .nil, .lst (.of upd_same) .nil, by decide, by decide, ?_⟩⟩
          rw [eqv_nil]
          exact q _ (same_new (sa.trans xb.same) ht)
      cases h1 with
      | non =>
        cases h2
        refine isiT_dp .non upd_same (b := false) (c := false) kb_NoneType_tuple kb_NoneType_list ⟨_, rfl, ?_⟩
        simp only [Bool.or_self, Bool.false_eq_true, if_false, if_true]
        refine ⟨rfl, isi_dp .non (b := false) kb_NoneType_str (isi_dp .non (b := false) kb_NoneType_str ⟨rfl, ?_⟩)⟩
        simp only [decide_true]
        exact q _ s1
      | bl x =>
        cases h2
        refine isiT_dp (.bl x) upd_same (b := false) (c := false) kb_bool_tuple kb_bool_list ⟨_, rfl, ?_⟩
        simp only [Bool.or_self, Bool.false_eq_true, if_false, reduceCtorEq]
        refine isi_dp (.bl x) (b := false) kb_bool_str ⟨_, rfl, ?_⟩
        simp only [Bool.false_eq_true, if_false]
        refine isi_dp (.bl x) (b := true) kb_bool_int ⟨_, rfl, ?_⟩
        simp only [if_true]
        refine isi_dp (.bl x) (b := true) kb_bool_bool (isi_dp (.bl x) (b := true) kb_bool_bool ⟨rfl, ?_⟩)
        simp only [if_true, decide_true]
        exact ⟨rfl, q _ s1⟩
      | int x =>
        cases h2
        refine isiT_dp (.int x) upd_same (b := false) (c := false) kb_int_tuple kb_int_list ⟨_, rfl, ?_⟩
        simp only [Bool.or_self, Bool.false_eq_true, if_false, reduceCtorEq]
        refine isi_dp (.int x) (b := false) kb_int_str ⟨_, rfl, ?_⟩
        simp only [Bool.false_eq_true, if_false]
        refine isi_dp (.int x) (b := true) kb_int_int ⟨_, rfl, ?_⟩
        simp only [if_true]
        refine isi_dp (.int x) (b := false) kb_int_bool (isi_dp (.int x) (b := false) kb_int_bool ⟨rfl, ?_⟩)
        simp only [if_true, decide_true]
        exact ⟨rfl, q _ s1⟩
      | str x =>
        cases h2
        refine isiT_dp (.str x) upd_same (b := false) (c := false) kb_str_tuple kb_str_list ⟨_, rfl, ?_⟩
        simp only [Bool.or_self, Bool.false_eq_true, if_false, reduceCtorEq]
        refine isi_dp (.str x) (b := true) kb_str_str ⟨_, rfl, ?_⟩
        simp only [if_true]
        refine ⟨rfl, isi_dp (.str x) (b := true) kb_str_str (isi_dp (.str x) (b := true) kb_str_str ⟨rfl, ?_⟩)⟩
        simp only [decide_true]
        exact q _ s1
      | @lst a xs ds ha da =>
        cases h2 with
        | @lst b ys _ hb db =>
          refine isiT_dp k2 upd_same (b := false) (c := true) kb_list_tuple kb_list_list ⟨_, rfl, ?_⟩
          simp only [Bool.or_true, if_true]
          refine ⟨by decide, fun r hr => ?_⟩
          have s2 : Same H (upd (upd H p (HO.tup [V.ty "tuple", V.ty "list"])) r (HO.tup [V.ty "tuple", V.ty "list"])) := same_new s1 hr
          refine isiT_dp (dp_same s2 (.lst ha da)) upd_same (b := false) (c := true) kb_list_tuple kb_list_list ⟨_, rfl, ?_⟩
          simp only [Bool.or_true, Bool.not_true, Bool.false_eq_true, if_false]
          refine isi_dp (dp_same s2 (.lst ha da)) (b := true) kb_list_list (isi_dp (dp_same s2 (.lst hb db)) (b := true) kb_list_list ⟨rfl, ?_⟩)
          simp only [decide_true, Bool.not_true, Bool.false_eq_true, if_false]
          have hdd : PyData.depthAll ds < n := by simp only [PyData.depth] at hd; omega
          have hs2 : ds.length ≤ 100000 ∧ smallAll ds = true := by simpa only [smallD, Bool.and_eq_true, decide_eq_true_eq] using hs
          exact seqs ds hdd xs ys a b _ (dpAll_same s2 da) (dpAll_same s2 db) (.inl (s2.seq ha)) (.inl (s2.seq hb)) s2 hs2.2 hs2.1
      | @tup a xs ds ha da =>
        cases h2 with
        | @tup b ys _ hb db =>
          refine isiT_dp k2 upd_same (b := true) (c := false) kb_tuple_tuple kb_tuple_list ⟨_, rfl, ?_⟩
          simp only [Bool.or_false, if_true]
          refine ⟨by decide, fun r hr => ?_⟩
          have s2 : Same H (upd (upd H p (HO.tup [V.ty "tuple", V.ty "list"])) r (HO.tup [V.ty "tuple", V.ty "list"])) := same_new s1 hr
          refine isiT_dp (dp_same s2 (.tup ha da)) upd_same (b := true) (c := false) kb_tuple_tuple kb_tuple_list ⟨_, rfl, ?_⟩
          simp only [Bool.or_false, Bool.not_true, Bool.false_eq_true, if_false]
          refine isi_dp (dp_same s2 (.tup ha da)) (b := false) kb_tuple_list (isi_dp (dp_same s2 (.tup hb db)) (b := false) kb_tuple_list ⟨rfl, ?_⟩)
          simp only [decide_true, Bool.not_true, Bool.false_eq_true, if_false]
          have hdd : PyData.depthAll ds < n := by simp only [PyData.depth] at hd; omega
          have hs2 : ds.length ≤ 100000 ∧ smallAll ds = true := by simpa only [smallD, Bool.and_eq_true, decide_eq_true_eq] using hs
          exact seqs ds hdd xs ys a b _ (dpAll_same s2 da) (dpAll_same s2 db) (.inr (same_tup s2 ha)) (.inr (same_tup s2 hb)) s2 hs2.2 hs2.1
end
end Hk

set_option Elab.async false
set_option linter.all false
set_option maxRecDepth 100000
set_option maxHeartbeats 4000000
namespace Hk
open PySem PySem.Spec PyProof.Rows L2
open TL
section
variable {P : Program} {w : World} {K : PySem.W.Frag} {mg : Str → Option Value} {base : Heap}

/-! ### rows as data -/
def rowD (r : Row) : PyData := .tuple [.str r.p, .str r.n, .int r.r, .bool r.o, .str r.g]
theorem rowD_dp {H : Hp} {t : Addr} {r : Row} (h : SqT K H t (rowVs r)) : Dp K H (.ref t) (rowD r) := .tup h (.cons (.str _) (.cons (.str _) (.cons (.int _) (.cons (.bl _) (.cons (.str _) .nil)))))
theorem rowD_inv {H : Hp} {v : V} {r : Row} (h : Dp K H v (rowD r)) : ∃ t, v = .ref t ∧ SqT K H t (rowVs r) := by
  cases h with
  | tup h a =>
    cases a with
    | cons h1 a => cases h1; cases a with
      | cons h1 a => cases h1; cases a with
        | cons h1 a => cases h1; cases a with
          | cons h1 a => cases h1; cases a with
            | cons h1 a => cases h1; cases a; exact ⟨_, rfl, h⟩
theorem eqv_strs : ∀ xs ys : List Str, PyData.eqvAll (xs.map PyData.str) (ys.map PyData.str) = decide (xs = ys)
  | [], [] => by simp [PyData.eqvAll]
  | [], _ :: _ => by simp [PyData.eqvAll]
  | _ :: _, [] => by simp [PyData.eqvAll]
  | x :: r, y :: q => by
    simp only [List.map_cons, PyData.eqvAll, PyData.eqv, eqv_strs r q]
    rw [Bool.eq_iff_iff]
    simp
/-! ### rank_of -/
theorem one_of {z : Str} (h : z.length = 1) : ∃ c, z = ⟨#[c]⟩ ∧ tl z = [c] := by
  rw [len_tl] at h
  obtain ⟨c, hc⟩ := List.length_eq_one_iff.mp h
  exact ⟨c, ext_tl (by rw [hc]), hc⟩
def sp_rank_of : Sp := fun vs H Q _ => ∃ z : Str, vs = [.str z] ∧ z.length ≤ 10000 ∧ (rankOf z = none → ∀ H', Same H H' → Q .non H') ∧ (∀ r, rankOf z = some r → ∀ H', Same H H' → Q (.int r) H')
theorem dig_mem {c : Nat} : (c ∈ (Str.ofString "0123456789").cps.toList) ↔ (48 ≤ c ∧ c ≤ 57) := by
  have e : (Str.ofString "0123456789").cps.toList = [48, 49, 50, 51, 52, 53, 54, 55, 56, 57] := by decide +kernel
  rw [e]
  simp only [List.mem_cons, List.not_mem_nil, or_false]
  omega
theorem dig_list {c : Nat} (h : 48 ≤ c ∧ c ≤ 57) : c ∈ [48, 49, 50, 51, 52, 53, 54, 55, 56, 57] := by
  simp only [List.mem_cons, List.not_mem_nil, or_false]
  omega
theorem G_rank_of (T : Tx K mg) : Glob P w K mg base (CX0) 1 "rank_of" p_rank_of [] sp_rank_of := by
  obtain ⟨fd, F⟩ := T.f_rank_of
  refine ⟨_, fd, [], F.ok sc_rank_of (fun vs H Q E h => ?_) (fun cdv A outer s H vs Q E hr h => ?_), T.g_rank_of, F.kp, .nil, F.bindsN fun _ _ _ _ _ _ us hl => match us, hl with | [_], _ => rfl⟩
  · obtain ⟨z, rfl, _⟩ := h; rfl
  · obtain ⟨z, rfl, hz, q1, q2⟩ := h
    refine ⟨_, PSs.nox (pss_cons (ps_set (i := 1) sc_rank_of.nd rfl (Or.inl rfl) (pe_ifExp (pt_val (pe_m1 PySem.F.slot_str_startswith PySem.F.type_str_startswith mt_startswith (pv 0) pe_str)) (pe_slice sl_str (pv 0) (po_some pe_int) po_none) (pv 0)))
      (pss_cons (ps_if (PW.pt (pw_or (pt_cmpR op_ne (pe_callB call_len_str (by rfl) T.b_len (by decide +kernel) (pa_cons (pv 1) pa_nil)) pe_int (nomark _)) (pw_or (pt_cmpR op_notIn_sign (pv 1) (pe_gs T.c_FIGURES (by rfl)) (by rfl)) (pw_or1 (pt_cmpR op_eq (pv 0) pe_str (nomark _))))))
      (pss_one (ps_ret pe_non))
      pss_nil)
      (pss_one (ps_ret (pe_callTy call_int_str (by rfl) T.b_int (by decide +kernel) (pa_cons (pv 0) pa_nil)))))), ?_⟩
    simp only [tCutE, false_and, exists_false, false_or, or_false, tRet, tRetN, tAndV, tOrV, tNotV, tChain, rI, rI0, rU, tC, tCB, tCons, tNil, tVar, tOp, tUn, tTest, tB, tAnd, tOr, tNot, tIf, tIfS, tSeq, tAsg, tDrop, tNext, gName, gTup_ref, gCons_cons, gNil_nil, and_assoc, tYes, wipe, rEq, rNe, scal_ss, scal_ii, scal_bb, scal_ns, scal_sn, scal_nn, scal_in, scal_ni, tLc_eq, tFor_eq, iList, iTup, iStr, iRng1, iRng2, iZip, iEnum, gSub, tSl, rSetL_ref, rCat_ref, rRep_ref, rJoin_ref, rSlL_ref, rSlS_ref, rMulS_ref, rIxL_ref, rIxT_ref, rLenK_ref, rAll_ref, rIn_ref, tLst, tTup, tPar, tPar3, tAug, tPart, tNoPart, tCall, List.getElem?_cons_zero, List.getElem?_cons_succ, List.set_cons_zero, List.set_cons_succ, List.map_cons, List.map_nil, List.append_nil, List.nil_append, List.cons_append, Option.some.injEq, exists_eq_left', exists_eq_left, exists_eq_right, exists_eq_right', exists_eq', V.int.injEq, V.str.injEq, V.bl.injEq, V.ref.injEq, List.cons.injEq, tM0, tM1, rNewStrs, sgn_eq, split_dot, split_sp, split_nl, dot_len, sp_len, nl_len, cxOf_K, L2.start, List.length_cons, List.length_nil, List.replicate_succ, List.replicate_zero, Nat.reduceSub, Nat.zero_add, and_true, true_and, and_self, exists_and_left, exists_const, Bool.false_eq_true, if_false, if_true, ite_true, ite_false, reduceIte, decide_eq_true_eq, reduceCtorEq, Nat.reduceAdd, Nat.reduceLT]
    rw [show Txt.startswith z (Str.ofString "-") = decide ((tl z).head? = some 45) from starts_minus z]
    have hz' : (tl z).length ≤ 10000 := by rw [← len_tl]; exact hz
    by_cases h0 : (tl z).head? = some 45
    · refine ifP (decide_eq_true h0) ?_
      obtain ⟨r, hr'⟩ : ∃ r, tl z = 45 :: r := by
        cases h : tl z with
        | nil => rw [h] at h0; simp at h0
        | cons c r => rw [h] at h0; simp at h0; exact ⟨r, by rw [h0]⟩
      have e1 : tl (cutS z (some 1) none) = r := by rw [tl_cut1, hr']; rfl
      have e2 : (cutS z (some 1) none).length = r.length := by rw [len_tl, e1]
      have hz2 : r.length ≤ 10000 := by rw [hr'] at hz'; simp at hz'; omega
      refine ⟨small (by omega), small (by omega), ?_⟩
      rw [e2]
      by_cases h1 : r.length = 1
      · refine ifN (by simp [h1]) ?_
        obtain ⟨c, hc, hc2⟩ := one_of (z := cutS z (some 1) none) (by rw [e2, h1])
        rw [e1] at hc2
        refine ⟨c, hc, ?_⟩
        have hzc : z = ⟨#[45, c]⟩ := ext_tl (by rw [hr', hc2])
        by_cases h2 : 48 ≤ c ∧ c ≤ 57
        · refine ifN (by simp [dig_mem.mpr h2]) ?_
          by_cases h3 : c = 48
          · refine ifP (by rw [hzc, h3]; decide +kernel) (q1 ?_ _ (Same.refl _))
            unfold rankOf; rw [hr', hc2, h3]; rfl
          · refine ifN (fun e => h3 ?_) ⟨48 - (c : Int), by rw [hzc]; exact (int_text c (dig_list h2)).2, by rw [len_tl, hr', hc2]; simp, q2 _ ?_ _ (Same.refl _)⟩
            · have := congrArg tl e
              rw [hr', hc2, show tl (Str.ofString "-0") = [45, 48] by decide +kernel] at this
              simpa using this
            · unfold rankOf; rw [hr', hc2]
              exact if_pos ⟨rfl, by omega, by omega⟩
        · refine ifP (by rw [decide_eq_false (fun z => h2 (dig_mem.mp z))]; rfl) (q1 ?_ _ (Same.refl _))
          unfold rankOf; rw [hr', hc2]
          exact if_neg (fun z => h2 ⟨by omega, by omega⟩)
      · refine ifP (by simp; omega) (q1 ?_ _ (Same.refl _))
        unfold rankOf; rw [hr']
        match r, h1 with
        | [], _ => rfl
        | _ :: _ :: _, _ => rfl
    · refine ifN (by simp [h0]) ⟨small (by omega), ?_⟩
      by_cases h1 : z.length = 1
      · refine ifN (by simp [h1]) ?_
        obtain ⟨c, hc, hc2⟩ := one_of h1
        refine ⟨c, hc, ?_⟩
        by_cases h2 : 48 ≤ c ∧ c ≤ 57
        · refine ifN (by simp [dig_mem.mpr h2]) ?_
          refine ifN (fun e => ?_) ⟨(c : Int) - 48, by rw [hc]; exact (int_text c (dig_list h2)).1, by omega, q2 _ ?_ _ (Same.refl _)⟩
          · have := congrArg tl e
            rw [hc2, show tl (Str.ofString "-0") = [45, 48] by decide +kernel] at this
            simp at this
          · unfold rankOf; rw [hc2]
            simp only [rankL]
            rw [if_pos h2]
        · refine ifP (by rw [decide_eq_false (fun z => h2 (dig_mem.mp z))]; rfl) (q1 ?_ _ (Same.refl _))
          unfold rankOf; rw [hc2]
          simp only [rankL]
          rw [if_neg h2]
      · refine ifP (by simp; omega) (q1 ?_ _ (Same.refl _))
        unfold rankOf
        rw [len_tl] at h1
        match h : tl z with
        | [] => rfl
        | [_] => rw [h] at h1; simp at h1
        | [a, b] => 
          simp only [rankL]
          rw [if_neg]
          rintro ⟨e, _⟩
          rw [h, e] at h0; simp at h0
        | _ :: _ :: _ :: _ => rfl
end
end Hk

set_option Elab.async false
set_option linter.all false
set_option maxRecDepth 100000
set_option maxHeartbeats 4000000
namespace Hk
open PySem PySem.Spec PyProof.Rows L2
open TL
section
variable {P : Program} {w : World} {K : PySem.W.Frag} {mg : Str → Option Value} {base : Heap}
/-! ### row_of -/
def sp_row_of (K : PySem.W.Frag) : Sp := fun vs H Q _ => ∃ (a : Addr) (ws : List Str), vs = [.ref a] ∧ SqL K H a (ws.map V.str) ∧ ws.length ≤ 10001 ∧ (∀ z ∈ ws, z.length ≤ 10000 ∧ PyData.strOk z = true) ∧ (rowOf ws = none → ∀ H', Same H H' → Q .non H') ∧
  (∀ r, rowOf ws = some r → ∀ H' t, Same H H' → H t = none → H' t = some (.tup (rowVs r)) → Q (.ref t) H')
theorem G_row_of (T : Tx K mg) : Glob P w K mg base (CX0) 3 "row_of" p_row_of [] (sp_row_of K) := by
  obtain ⟨fd, F⟩ := T.f_row_of
  refine ⟨_, fd, [], F.ok sc_row_of (fun vs H Q E h => ?_) (fun cdv A outer s H vs Q E hr h => ?_), T.g_row_of, F.kp, .nil, F.bindsN fun _ _ _ _ _ _ us hl => match us, hl with | [_], _ => rfl⟩
  · obtain ⟨a, ws, rfl, _⟩ := h; rfl
  · obtain ⟨a, ws, rfl, hS, hl, he, q1, q2⟩ := h
    refine ⟨_, PSs.nox (pss_cons (ps_if (PW.pt (pw_or (pt_cmpR op_lt (pe_callB (call_len_seqK (K := K) rfl) (by rfl) T.b_len (by decide +kernel) (pa_cons (pv 0) pa_nil)) pe_int (nomark _)) (pw_or (pt_not (pt_val (pe_callG (G_is_pattern T) (hr.mono (by decide)) (by rfl) pass0 (pa_cons (pe_ix (ix_listK (K := K) rfl) (pv 0) pe_int (fun _ _ => rfl)) pa_nil)))) (pw_or (pt_not (pt_val (pe_callG (G_is_word T) (hr.mono (by decide)) (by rfl) pass0 (pa_cons (pe_ix (ix_listK (K := K) rfl) (pv 0) pe_int (fun _ _ => rfl)) pa_nil)))) (pw_or1 (pt_cmpR op_isN (pe_callG (G_rank_of T) (hr.mono (by decide)) (by rfl) pass0 (pa_cons (pe_ix (ix_listK (K := K) rfl) (pv 0) pe_int (fun _ _ => rfl)) pa_nil)) pe_non (nomark _)))))))
      (pss_one (ps_ret pe_non))
      pss_nil)
      (pss_cons (ps_set (i := 1) sc_row_of.nd rfl (Or.inl rfl) (pe_slice (sl_listK (K := K) rfl) (pv 0) (po_some pe_int) po_none))
      (pss_cons (ps_set (i := 2) sc_row_of.nd rfl (Or.inl rfl) (pe_cmpR (op_eqDK (K := K) rfl hr.units) (pe_slice (sl_listK (K := K) rfl) (pv 1) po_none (po_some pe_int)) (pe_lst (pa_cons pe_str pa_nil)) (nomark _)))
      (pss_cons (ps_if (pt_val (pv 2))
      (pss_one (ps_expr (pe_bmK (K := K) rfl PySem.F.plainAttrs_list PySem.F.slot_list_pop PySem.F.type_list_pop mt_popAt (pv 1) (pa_cons pe_int pa_nil))))
      pss_nil)
      (pss_cons (ps_if (PW.pt (pw_and (pt_cmpR (op_neDK (K := K) rfl hr.units) (pv 1) (pe_lst pa_nil) (nomark _)) (pw_and1 (PW.pt (pw_or (pt_cmpR op_ne (pe_callB (call_len_seqK (K := K) rfl) (by rfl) T.b_len (by decide +kernel) (pa_cons (pv 1) pa_nil)) pe_int (nomark _)) (pw_or (pt_cmpR op_ne (pe_ix (ix_listK (K := K) rfl) (pv 1) pe_int (fun _ _ => rfl)) pe_str (nomark _)) (pw_or1 (pt_not (pt_val (pe_callG (G_is_word T) (hr.mono (by decide)) (by rfl) pass0 (pa_cons (pe_ix (ix_listK (K := K) rfl) (pv 1) pe_int (fun _ _ => rfl)) pa_nil)))))))))))
      (pss_one (ps_ret pe_non))
      pss_nil)
      (pss_one (ps_ret (pe_tup (pa_cons (pe_ix (ix_listK (K := K) rfl) (pv 0) pe_int (fun _ _ => rfl)) (pa_cons (pe_ix (ix_listK (K := K) rfl) (pv 0) pe_int (fun _ _ => rfl)) (pa_cons (pe_callG (G_rank_of T) (hr.mono (by decide)) (by rfl) pass0 (pa_cons (pe_ix (ix_listK (K := K) rfl) (pv 0) pe_int (fun _ _ => rfl)) pa_nil)) (pa_cons (pv 2) (pa_cons (pe_joinK (K := K) rfl pe_str (pe_slice (sl_listK (K := K) rfl) (pv 1) (po_some pe_int) po_none)) pa_nil))))))))))))), ?_⟩
    simp only [tCutE, false_and, exists_false, false_or, or_false, tRet, tRetN, tAndV, tOrV, tNotV, tChain, rI, rI0, rU, tC, tCB, tCons, tNil, tVar, tOp, tUn, tTest, tB, tAnd, tOr, tNot, tIf, tIfS, tSeq, tAsg, tDrop, tNext, gName, gTup_ref, gCons_cons, gNil_nil, and_assoc, tYes, wipe, rEq, rNe, scal_ss, scal_ii, scal_bb, scal_ns, scal_sn, scal_nn, scal_in, scal_ni, tLc_eq, tFor_eq, iList, iTup, iStr, iRng1, iRng2, iZip, iEnum, gSub, tSl, rSetL_ref, rCat_ref, rRep_ref, rJoin_ref, rSlL_ref, rSlS_ref, rMulS_ref, rIxL_ref, rIxT_ref, rLenK_ref, rAll_ref, rIn_ref, tLst, tTup, tPar, tPar3, tAug, tPart, tNoPart, tCall, List.getElem?_cons_zero, List.getElem?_cons_succ, List.set_cons_zero, List.set_cons_succ, List.map_cons, List.map_nil, List.append_nil, List.nil_append, List.cons_append, Option.some.injEq, exists_eq_left', exists_eq_left, exists_eq_right, exists_eq_right', exists_eq', V.int.injEq, V.str.injEq, V.bl.injEq, V.ref.injEq, List.cons.injEq, tM0, tM1, rNewStrs, sgn_eq, split_dot, split_sp, split_nl, dot_len, sp_len, nl_len, cxOf_K, L2.start, List.length_cons, List.length_nil, List.replicate_succ, List.replicate_zero, Nat.reduceSub, Nat.zero_add, and_true, true_and, and_self, exists_and_left, exists_const, Bool.false_eq_true, if_false, if_true, ite_true, ite_false, reduceIte, decide_eq_true_eq, reduceCtorEq, Nat.reduceAdd, Nat.reduceLT]
    refine ⟨_, .inl hS, ?_⟩
    by_cases h3 : ws.length < 3
    · refine ifP (by rw [List.length_map]; omega) (q1 (rowOf_few h3) _ (Same.refl _))
    · refine ifN (by rw [List.length_map]; omega) ⟨_, hS, ?_⟩
      obtain ⟨x, y, c, rest, rfl⟩ : ∃ x y c rest, ws = x :: y :: c :: rest := by
        match ws, h3 with
        | x :: y :: c :: rest, _ => exact ⟨x, y, c, rest, rfl⟩
        | [], h => simp at h
        | [_], h => simp at h
        | [_, _], h => simp at h
      refine ⟨.str x, atI_nat (j := 0) rfl, x, rfl, (he x (by simp)).1, fun H1 s1 => ⟨_, rfl, ?_⟩⟩
      by_cases hp : isPat x = true
      · refine ifN (by simp [hp]) ?_
        refine ⟨_, s1.seq hS, .str y, atI_nat (j := 1) rfl, ?_⟩
        refine ⟨y, rfl, (he y (by simp)).1, fun H2 s2 => ⟨_, rfl, ?_⟩⟩
        have s2 := s1.trans s2
        by_cases hn : isWord y = true
        · refine ifN (by simp [hn]) ?_
          refine ⟨_, s2.seq hS, .str c, atI_nat (j := 2) rfl, ?_⟩
          refine ⟨c, rfl, (he c (by simp)).1, fun hc H3 s3 => ?_, fun r hc H3 s3 => ?_⟩
          · exact ifP rfl (q1 (rowOf_norank hc) _ (s2.trans s3))
          · refine ifN (fun z => by cases z) ?_
            have s3 := s2.trans s3
            have hro := rowOf_rank (rest := rest) hp hn hc
            refine ⟨_, s3.seq hS, fun p hp3 => ?_⟩
            have hpn : H p = none := s3.free hp3
            have hl' : rest.length ≤ 10000 := by simp at hl; omega
            have he' : ∀ z ∈ rest, z.length ≤ 10000 ∧ PyData.strOk z = true := fun z hz => he z (by simp [hz])
            /- the tuple -/
            have fin : ∀ (H1 : Hp) (us : List Str) (once : Bool) (g : Str), Same H H1 → H1 p = some (.lst (us.map V.str)) → rowTail us = some g → rowOf (x :: y :: c :: rest) = some ⟨x, y, r, once, g⟩ → (∀ z ∈ us, z.length ≤ 10000 ∧ PyData.strOk z = true) →
                ∃ xs, SqL K H1 a xs ∧ ∃ x_5, atI xs 0 = some x_5 ∧ ∃ xs, SqL K H1 a xs ∧ ∃ x_6, atI xs 1 = some x_6 ∧ ∃ xs, SqL K H1 a xs ∧ ∃ x_7, atI xs 2 = some x_7 ∧ sp_rank_of [x_7] H1 (fun x_8 H1 => ∃ xs, SqL K H1 p xs ∧ ∀ (p : Addr), H1 p = none → ∃ ys : List Str, (SqL K (upd H1 p (HO.lst (cutV xs (some 1) none))) p (List.map V.str ys) ∨ SqT K (upd H1 p (HO.lst (cutV xs (some 1) none))) p (List.map V.str ys)) ∧ (List.map (fun x => x.length) ys).sum + ys.length * (Str.ofString "").length ≤ 16777216 ∧ 5 ≤ sizeLine ∧ ∀ (p_4 : Addr), upd H1 p (HO.lst (cutV xs (some 1) none)) p_4 = none → Q (V.ref p_4) (upd (upd H1 p (HO.lst (cutV xs (some 1) none))) p_4 (HO.tup [x_5, x_6, x_8, .bl once, V.str (Txt.join (Str.ofString "") ys)]))) E0 := by
              intro H4 us once g s4 h4 hg hr4 hu
              refine ⟨_, s4.seq hS, .str x, atI_nat (j := 0) rfl, _, s4.seq hS, .str y, atI_nat (j := 1) rfl, _, s4.seq hS, .str c, atI_nat (j := 2) rfl, ?_⟩
              refine ⟨c, rfl, (he c (by simp)).1, fun hc2 => ?_, fun r2 hc2 H5 s5 => ?_⟩
              · rw [hc] at hc2; cases hc2
              · rw [hc] at hc2; cases hc2
                refine ⟨_, s5.seq (.of h4), fun q hq => ?_⟩
                have e1 : cutV (us.map V.str) (some 1) none = (us.drop 1).map V.str := by rw [show (1 : Int) = ((1 : Nat) : Int) from rfl, cutV_from, List.map_drop]
                rw [e1]
                have hlen : (Str.ofString "").length = 0 := by decide +kernel
                have e2 := join_tail hg
                refine ⟨us.drop 1, .inl (.of upd_same), ?_, by decide, fun t ht => ?_⟩
                · rw [hlen]
                  rcases rowTail_cases hg with ⟨e, _⟩ | ⟨e, _⟩
                  · rw [e]; simp
                  · have := (hu g (by rw [e]; simp)).1
                    rw [e]; simp; omega
                · rw [e2]
                  have s6 : Same H (upd H5 q (.lst ((us.drop 1).map V.str))) := same_new (s4.trans s5) (by rw [e1] at *; exact hq)
                  exact q2 _ hr4 _ t (same_new s6 ht) (s6.free ht) upd_same
            have tail : ∀ (H1 : Hp) (us : List Str) (once : Bool), Same H H1 → H1 p = some (.lst (us.map V.str)) → rowOf (x :: y :: c :: rest) = (rowTail us).map (fun g => (⟨x, y, r, once, g⟩ : Row)) → (∀ z ∈ us, z.length ≤ 10000 ∧ PyData.strOk z = true) →
                0 ≤ sizeLine ∧ ∀ (p_3 : Addr), H1 p_3 = none → rNeD K (V.ref p) (V.ref p_3) (upd H1 p_3 (HO.lst [])) fun x_1 H' => ∃ k, x_1 = V.bl k ∧ if k = true then ∃ ys, (SqL K H' p ys ∨ SqT K H' p ys) ∧ if (!decide ((ys.length : Int) = 2)) = true then Q V.non H' else ∃ xs, SqL K H' p xs ∧ ∃ x_2, atI xs 0 = some x_2 ∧ scal x_2 (V.str (Str.ofString "in")) = true ∧ if (!decide (x_2 = V.str (Str.ofString "in"))) = true then Q V.non H' else ∃ xs, SqL K H' p xs ∧ ∃ x_3, atI xs 1 = some x_3 ∧ sp_is_word [x_3] H' (fun x_4 H1 => ∃ c, x_4 = V.bl c ∧ if (!c) = true then Q V.non H1 else ∃ xs, SqL K H1 a xs ∧ ∃ x_5, atI xs 0 = some x_5 ∧ ∃ xs, SqL K H1 a xs ∧ ∃ x_6, atI xs 1 = some x_6 ∧ ∃ xs, SqL K H1 a xs ∧ ∃ x_7, atI xs 2 = some x_7 ∧ sp_rank_of [x_7] H1 (fun x_8 H1 => ∃ xs, SqL K H1 p xs ∧ ∀ (p : Addr), H1 p = none → ∃ ys : List Str, (SqL K (upd H1 p (HO.lst (cutV xs (some 1) none))) p (List.map V.str ys) ∨ SqT K (upd H1 p (HO.lst (cutV xs (some 1) none))) p (List.map V.str ys)) ∧ (List.map (fun x => x.length) ys).sum + ys.length * (Str.ofString "").length ≤ 16777216 ∧ 5 ≤ sizeLine ∧ ∀ (p_4 : Addr), upd H1 p (HO.lst (cutV xs (some 1) none)) p_4 = none → Q (V.ref p_4) (upd (upd H1 p (HO.lst (cutV xs (some 1) none))) p_4 (HO.tup [x_5, x_6, x_8, .bl once, V.str (Txt.join (Str.ofString "") ys)]))) E0) E0 else ∃ xs, SqL K H' a xs ∧ ∃ x_5, atI xs 0 = some x_5 ∧ ∃ xs, SqL K H' a xs ∧ ∃ x_6, atI xs 1 = some x_6 ∧ ∃ xs, SqL K H' a xs ∧ ∃ x_7, atI xs 2 = some x_7 ∧ sp_rank_of [x_7] H' (fun x_8 H1 => ∃ xs, SqL K H1 p xs ∧ ∀ (p : Addr), H1 p = none → ∃ ys : List Str, (SqL K (upd H1 p (HO.lst (cutV xs (some 1) none))) p (List.map V.str ys) ∨ SqT K (upd H1 p (HO.lst (cutV xs (some 1) none))) p (List.map V.str ys)) ∧ (List.map (fun x => x.length) ys).sum + ys.length * (Str.ofString "").length ≤ 16777216 ∧ 5 ≤ sizeLine ∧ ∀ (p_4 : Addr), upd H1 p (HO.lst (cutV xs (some 1) none)) p_4 = none → Q (V.ref p_4) (upd (upd H1 p (HO.lst (cutV xs (some 1) none))) p_4 (HO.tup [x_5, x_6, x_8, .bl once, V.str (Txt.join (Str.ofString "") ys)]))) E0 := by
              intro H4 us once s4 h4 hro4 hu
              refine ⟨by decide, fun q hq => ?_⟩
              have npq : p ≠ q := ne_of_none h4 hq
              have s5 : Same H (upd H4 q (.lst [])) := same_new s4 hq
              have h5 : (upd H4 q (.lst [])) p = some (.lst (us.map V.str)) := by rw [upd_ne npq]; exact h4
              refine ⟨.list (us.map PyData.str), .list [], .lst (.of h5) (dpAll_map fun a _ => .str _), .lst (.of upd_same) .nil, ?_, by decide, _, rfl, ?_⟩
              · exact shaped_strs fun z hz => (hu z hz).2
              · rw [eqv_nil, List.isEmpty_map]
                by_cases hus : us = []
                · subst hus
                  refine ifN (by simp) ?_
                  rw [rowTail_nil] at hro4
                  exact fin _ [] once _ s5 h5 rowTail_nil hro4 hu
                · refine ifP (by simp [hus]) ⟨_, .inl (.of h5), ?_⟩
                  rw [List.length_map]
                  by_cases h2 : us.length = 2
                  · obtain ⟨k, b, rfl⟩ : ∃ k b, us = [k, b] := by
                      match us, h2 with
                      | [k, b], _ => exact ⟨k, b, rfl⟩
                    refine ifN (by simp) ⟨_, .of h5, .str k, atI_nat (j := 0) rfl, rfl, ?_⟩
                    rw [rowTail_two] at hro4
                    by_cases hk : k = ("in" : Str)
                    · refine ifN (by rw [hk]; simp) ⟨_, .of h5, .str b, atI_nat (j := 1) rfl, ?_⟩
                      refine ⟨b, rfl, (hu b (by simp)).1, fun H6 s6 => ⟨_, rfl, ?_⟩⟩
                      by_cases hb : isWord b = true
                      · refine ifN (by simp [hb]) ?_
                        rw [if_pos ⟨hk, hb⟩] at hro4
                        exact fin H6 [k, b] once b (s5.trans s6) (s6 _ _ h5) (by rw [rowTail_two, if_pos ⟨hk, hb⟩]) hro4 hu
                      · refine ifP (by simp [hb]) (q1 ?_ _ (s5.trans s6))
                        rw [hro4, if_neg (fun z => hb z.2)]; simp only [Option.map_none]
                    · refine ifP (by simp [hk]) (q1 ?_ _ s5)
                      rw [hro4, if_neg (fun z => hk z.1)]; simp only [Option.map_none]
                  · refine ifP (by simp; omega) (q1 ?_ _ s5)
                    rw [hro4, rowTail_len hus h2]; simp only [Option.map_none]
            have e3 : cutV ((x :: y :: c :: rest).map V.str) (some 3) none = rest.map V.str := by rw [show (3 : Int) = ((3 : Nat) : Int) from rfl, cutV_from]; rfl
            refine ⟨_, .of upd_same, fun p1 hp1 => ⟨by decide, fun p2 hp2 => ?_⟩⟩
            rw [e3] at hp1 hp2 ⊢
            have e4 : cutV (rest.map V.str) none (some 1) = (rest.take 1).map V.str := by rw [show (1 : Int) = ((1 : Nat) : Int) from rfl, cutV_to, List.map_take]
            rw [e4] at hp2 ⊢
            have np1 : p ≠ p1 := ne_of_none upd_same hp1
            have np2 : p1 ≠ p2 := ne_of_none upd_same hp2
            have np3 : p ≠ p2 := by
              intro e; subst e
              rw [upd_ne np1, upd_same] at hp2; cases hp2
            have s5 : Same H (upd (upd (upd H3 p (.lst (rest.map V.str))) p1 (.lst ((rest.take 1).map V.str))) p2 (.lst [V.str (Str.ofString "once")])) := same_new (same_new (same_new s3 hp3) hp1) hp2
            have f1 : (upd (upd (upd H3 p (.lst (rest.map V.str))) p1 (.lst ((rest.take 1).map V.str))) p2 (.lst [V.str (Str.ofString "once")])) p1 = some (.lst ((rest.take 1).map V.str)) := by rw [upd_ne np2, upd_same]
            have f0 : (upd (upd (upd H3 p (.lst (rest.map V.str))) p1 (.lst ((rest.take 1).map V.str))) p2 (.lst [V.str (Str.ofString "once")])) p = some (.lst (rest.map V.str)) := by rw [upd_ne np3, upd_ne np1, upd_same]
            refine ⟨.list ((rest.take 1).map PyData.str), .list ([("once" : Str)].map PyData.str), .lst (.of f1) (dpAll_map fun a _ => .str _), .lst (.of upd_same) (.cons (.str _) .nil), shaped_strs fun z hz => (he' z (List.mem_of_mem_take hz)).2, by decide +kernel, _, rfl, ?_⟩
            have e5 : PyData.eqv (.list ((rest.take 1).map PyData.str)) (.list ([("once" : Str)].map PyData.str)) = decide (rest.take 1 = [("once" : Str)]) := by
              simp only [PyData.eqv]
              exact eqv_strs _ _
            rw [e5]
            generalize upd (upd (upd H3 p (.lst (rest.map V.str))) p1 (.lst ((rest.take 1).map V.str))) p2 (.lst [V.str (Str.ofString "once")]) = H5 at s5 f0
            by_cases ho : rest.take 1 = [("once" : Str)]
            · rw [decide_eq_true ho] at hro ⊢
              obtain ⟨tl2, rfl⟩ : ∃ tl2, rest = ("once" : Str) :: tl2 := by
                match rest, ho with
                | [], h => simp at h
                | z :: r, h => simp at h; exact ⟨r, by rw [h]⟩
              refine ifP rfl ⟨_, rfl, .inl ⟨rfl, _, .of f0⟩, p, _, 0, 0, _, rfl, rfl, f0, by decide, by decide, by unfold seqIndex?; simp, rfl, ?_⟩
              exact tail _ tl2 true (same_put s5 hpn) upd_same hro (fun z hz => he' z (List.mem_cons_of_mem _ hz))
            · rw [decide_eq_false ho] at hro ⊢
              refine ifN (by simp) ?_
              exact tail _ rest false s5 f0 hro he'
        · exact ifP (by simp [hn]) (q1 (rowOf_bad fun z => hn z.2) _ s2)
      · exact ifP (by simp [hp]) (q1 (rowOf_bad fun z => hp z.1) _ s1)
end
end Hk

set_option Elab.async false
set_option linter.all false
set_option maxRecDepth 100000
set_option maxHeartbeats 4000000
namespace Hk
open PySem PySem.Spec PyProof.Rows L2
open TL
section
variable {P : Program} {w : World} {K : PySem.W.Frag} {mg : Str → Option Value} {base : Heap}
def sp_read (K : PySem.W.Frag) : Sp := fun vs H Q _ => ∃ (z : Str) (rs : List Row), vs = [.str z] ∧ z.length ≤ 9000 ∧ PyData.strOk z = true ∧ (linesOf z).map lineRow = rs.map some ∧
  (∀ H' p vs, Same H H' → H p = none → H' p = some (.lst vs) → DpAll K (offA p H') vs (rs.map rowD) → Q (.ref p) H')
theorem G_read (T : Tx K mg) : Glob P w K mg base (CX0) 4 "read" p_read [] (sp_read K) := by
  obtain ⟨fd, F⟩ := T.f_read
  refine ⟨_, fd, [], F.ok sc_read (fun vs H Q E h => ?_) (fun cdv A outer s H vs Q E hr h => ?_), T.g_read, F.kp, .nil, F.bindsN fun _ _ _ _ _ _ us hl => match us, hl with | [_], _ => rfl⟩
  · obtain ⟨z, rs, rfl, _⟩ := h; rfl
  · obtain ⟨z, rs, rfl, hz, hok, hrs, q⟩ := h
    refine ⟨_, PSs.nox (pss_cons (ps_set (i := 1) sc_read.nd rfl (Or.inl rfl) (pe_lst pa_nil))
      (pss_cons (ps_for PassesOwn.never rfl (pi_enumK (K := K) rfl (by rfl) T.b_enumerate (pa_cons (pe_ifExp (pt_cmpR op_ne (pv 0) pe_str (nomark _)) (pe_split (pv 0) pe_str) (pe_lst pa_nil)) pa_nil)) (pg_tupK (K := K) rfl rfl (pgs_cons (pg_name (i := 2) sc_read.nd rfl (Or.inl rfl)) (pgs_cons (pg_name (i := 3) sc_read.nd rfl (Or.inl rfl)) pgs_nil)))
      (pss_cons (ps_set (i := 4) sc_read.nd rfl (Or.inl rfl) (pe_callG (G_row_of T) (hr.mono (by decide)) (by rfl) pass0 (pa_cons (pe_split (pv 3) pe_str) pa_nil)))
      (pss_cons (ps_if (pt_cmpR op_isN (pv 4) pe_non (nomark _))
      (pss_one ps_never)
      pss_nil)
      (pss_one (ps_expr (pe_bmK (K := K) rfl PySem.F.plainAttrs_list PySem.F.slot_list_append PySem.F.type_list_append mt_append (pv 1) (pa_cons (pv 4) pa_nil)))))))
      (pss_one (ps_ret (pv 1))))), ?_⟩
    simp only [tCutE, false_and, exists_false, false_or, or_false, tRet, tRetN, tAndV, tOrV, tNotV, tChain, rI, rI0, rU, tC, tCB, tCons, tNil, tVar, tOp, tUn, tTest, tB, tAnd, tOr, tNot, tIf, tIfS, tSeq, tAsg, tDrop, tNext, gName, gTup_ref, gCons_cons, gNil_nil, and_assoc, tYes, wipe, rEq, rNe, scal_ss, scal_ii, scal_bb, scal_ns, scal_sn, scal_nn, scal_in, scal_ni, tLc_eq, tFor_eq, iList, iTup, iStr, iRng1, iRng2, iZip, iEnum, gSub, tSl, rSetL_ref, rCat_ref, rRep_ref, rJoin_ref, rSlL_ref, rSlS_ref, rMulS_ref, rIxL_ref, rIxT_ref, rLenK_ref, rAll_ref, rIn_ref, tLst, tTup, tPar, tPar3, tAug, tPart, tNoPart, tCall, List.getElem?_cons_zero, List.getElem?_cons_succ, List.set_cons_zero, List.set_cons_succ, List.map_cons, List.map_nil, List.append_nil, List.nil_append, List.cons_append, Option.some.injEq, exists_eq_left', exists_eq_left, exists_eq_right, exists_eq_right', exists_eq', V.int.injEq, V.str.injEq, V.bl.injEq, V.ref.injEq, List.cons.injEq, tM0, tM1, rNewStrs, sgn_eq, split_dot, split_sp, split_nl, dot_len, sp_len, nl_len, cxOf_K, L2.start, List.length_cons, List.length_nil, List.replicate_succ, List.replicate_zero, Nat.reduceSub, Nat.zero_add, and_true, true_and, and_self, exists_and_left, exists_const, Bool.false_eq_true, if_false, if_true, ite_true, ite_false, reduceIte, decide_eq_true_eq, reduceCtorEq, Nat.reduceAdd, Nat.reduceLT]
    refine ⟨by decide, fun p hp => ?_⟩
    by_cases hz0 : z = ("" : Str)
    · have e0 : linesOf z = [] := by unfold linesOf; rw [if_pos hz0]
      rw [e0] at hrs
      have er : rs = [] := by
        cases rs with
        | nil => rfl
        | cons a r => simp at hrs
      subst er
      refine ifN (by simp [hz0]) ⟨by decide, fun p1 hp1 => ⟨_, .of upd_same, ?_⟩⟩
      have n1 : p ≠ p1 := ne_of_none upd_same hp1
      refine forG walk_enum (fun i σ H' => (∃ c d e, σ = [some (.str z), some (.ref p), c, d, e]) ∧ H' = upd (upd H p (.lst [])) p1 (.lst [])) ⟨⟨_, _, _, rfl⟩, rfl⟩ (fun i σ H' _ h => by rw [h.2]; exact .of upd_same) (fun i x σ H1 H2 hi => absurd hi (by simp)) (fun σ H1 hP => ?_)
      obtain ⟨⟨c, d, e, rfl⟩, rfl⟩ := hP
      simp only [tCutE, false_and, exists_false, false_or, or_false, tRet, tRetN, tAndV, tOrV, tNotV, tChain, rI, rI0, rU, tC, tCB, tCons, tNil, tVar, tOp, tUn, tTest, tB, tAnd, tOr, tNot, tIf, tIfS, tSeq, tAsg, tDrop, tNext, gName, gTup_ref, gCons_cons, gNil_nil, and_assoc, tYes, wipe, rEq, rNe, scal_ss, scal_ii, scal_bb, scal_ns, scal_sn, scal_nn, scal_in, scal_ni, tLc_eq, tFor_eq, iList, iTup, iStr, iRng1, iRng2, iZip, iEnum, gSub, tSl, rSetL_ref, rCat_ref, rRep_ref, rJoin_ref, rSlL_ref, rSlS_ref, rMulS_ref, rIxL_ref, rIxT_ref, rLenK_ref, rAll_ref, rIn_ref, tLst, tTup, tPar, tPar3, tAug, tPart, tNoPart, tCall, List.getElem?_cons_zero, List.getElem?_cons_succ, List.set_cons_zero, List.set_cons_succ, List.map_cons, List.map_nil, List.append_nil, List.nil_append, List.cons_append, Option.some.injEq, exists_eq_left', exists_eq_left, exists_eq_right, exists_eq_right', exists_eq', V.int.injEq, V.str.injEq, V.bl.injEq, V.ref.injEq, List.cons.injEq, tM0, tM1, rNewStrs, sgn_eq, split_dot, split_sp, split_nl, dot_len, sp_len, nl_len, cxOf_K, L2.start, List.length_cons, List.length_nil, List.replicate_succ, List.replicate_zero, Nat.reduceSub, Nat.zero_add, and_true, true_and, and_self, exists_and_left, exists_const, Bool.false_eq_true, if_false, if_true, ite_true, ite_false, reduceIte, decide_eq_true_eq, reduceCtorEq, Nat.reduceAdd, Nat.reduceLT]
      exact q _ p _ (same_new (same_new (Same.refl _) hp) hp1) hp (by rw [upd_ne n1]; exact upd_same) .nil
    · have e0 : linesOf z = nls z := by unfold linesOf; rw [if_neg hz0]
      rw [e0] at hrs
      have hnl : (nls z).length = rs.length := by
        have := congrArg List.length hrs
        simpa using this
      have hnll : (nls z).length ≤ z.length + 1 := split_len_le z "\n" (by decide +kernel) (kind_ok (by decide +kernel))
      have hne : ∀ w ∈ nls z, w.length ≤ z.length := split_each_le z "\n" (by decide +kernel) (kind_ok (by decide +kernel))
      have hno : ∀ w ∈ nls z, PyData.strOk w = true := split_ok (by decide +kernel) (kind_ok (by decide +kernel)) hok
      refine ifP (by simp [hz0]) ⟨small (by omega), fun p1 hp1 => ⟨_, .of upd_same, ?_⟩⟩
      have n1 : p ≠ p1 := ne_of_none upd_same hp1
      obtain ⟨Pv, hPv⟩ : ∃ Pv : Nat → L2.St → Hp → Prop, ∀ i σ H', Pv i σ H' ↔ ∃ c d e vs, σ = [some (.str z), some (.ref p), c, d, e] ∧ Same H H' ∧ H' p1 = some (.lst ((nls z).map V.str)) ∧ H' p = some (.lst vs) ∧ DpAll K (offA p H') vs ((rs.take i).map rowD) ∧ vs.length = i := ⟨_, fun _ _ _ => Iff.rfl⟩
      refine forG walk_enum Pv ((hPv _ _ _).mpr
        ⟨_, _, _, [], rfl, same_new (same_new (Same.refl _) hp) hp1, upd_same, by rw [upd_ne n1]; exact upd_same, .nil, rfl⟩) (fun i σ H' _ z => by obtain ⟨_, _, _, _, _, _, h, _⟩ := (hPv _ _ _).mp z; exact .of h) (fun i x σ H1 H2 hi hP hy => ?_) (fun σ H1 hP => ?_)
      · obtain ⟨c, d, e, vs, rfl, s1, hp1', hp', hd, hvl⟩ := (hPv _ _ _).mp hP
        obtain ⟨t, x1, x2, rfl, ht, rfl, hx1, hx2⟩ := hy
        rw [List.length_map] at hi
        cases hx1
        have hi2 : i < rs.length := by omega
        obtain ⟨w, hw, rfl⟩ : ∃ w, (nls z)[i]? = some w ∧ x2 = .str w := by
          have hx2 : ((nls z).map V.str)[i]? = some x2 := hx2
          rw [List.getElem?_map] at hx2
          cases e : (nls z)[i]? with
          | none => rw [e] at hx2; cases hx2
          | some w => rw [e] at hx2; exact ⟨w, rfl, (Option.some.inj hx2).symm⟩
        have hwm : w ∈ nls z := List.mem_of_getElem? hw
        have hrow : lineRow w = some rs[i] := by
          have := congrArg (fun l => l[i]?) hrs
          simp only [List.getElem?_map, hw, List.getElem?_eq_getElem hi2, Option.map_some, Option.some.injEq] at this
          exact this
        have hwl := hne w hwm
        have npt : p ≠ t := ne_of_none hp' ht
        have np1t : p1 ≠ t := ne_of_none hp1' ht
        refine ⟨t, _, rfl, .of upd_same, rfl, ?_⟩
        simp only [tCutE, false_and, exists_false, false_or, or_false, tRet, tRetN, tAndV, tOrV, tNotV, tChain, rI, rI0, rU, tC, tCB, tCons, tNil, tVar, tOp, tUn, tTest, tB, tAnd, tOr, tNot, tIf, tIfS, tSeq, tAsg, tDrop, tNext, gName, gTup_ref, gCons_cons, gNil_nil, and_assoc, tYes, wipe, rEq, rNe, scal_ss, scal_ii, scal_bb, scal_ns, scal_sn, scal_nn, scal_in, scal_ni, tLc_eq, tFor_eq, iList, iTup, iStr, iRng1, iRng2, iZip, iEnum, gSub, tSl, rSetL_ref, rCat_ref, rRep_ref, rJoin_ref, rSlL_ref, rSlS_ref, rMulS_ref, rIxL_ref, rIxT_ref, rLenK_ref, rAll_ref, rIn_ref, tLst, tTup, tPar, tPar3, tAug, tPart, tNoPart, tCall, List.getElem?_cons_zero, List.getElem?_cons_succ, List.set_cons_zero, List.set_cons_succ, List.map_cons, List.map_nil, List.append_nil, List.nil_append, List.cons_append, Option.some.injEq, exists_eq_left', exists_eq_left, exists_eq_right, exists_eq_right', exists_eq', V.int.injEq, V.str.injEq, V.bl.injEq, V.ref.injEq, List.cons.injEq, tM0, tM1, rNewStrs, sgn_eq, split_dot, split_sp, split_nl, dot_len, sp_len, nl_len, cxOf_K, L2.start, List.length_cons, List.length_nil, List.replicate_succ, List.replicate_zero, Nat.reduceSub, Nat.zero_add, and_true, true_and, and_self, exists_and_left, exists_const, Bool.false_eq_true, if_false, if_true, ite_true, ite_false, reduceIte, decide_eq_true_eq, reduceCtorEq, Nat.reduceAdd, Nat.reduceLT]
        refine ⟨small (by omega), fun u hu => ?_⟩
        have npu : p ≠ u := ne_of_none (by rw [upd_ne npt]; exact hp') hu
        have np1u : p1 ≠ u := ne_of_none (by rw [upd_ne np1t]; exact hp1') hu
        have s3 : Same H1 (upd (upd H1 t (.tup [.int (i : Nat), .str w])) u (.lst ((sps w).map V.str))) := same_new (same_new (Same.refl _) ht) hu
        have hsl : (sps w).length ≤ w.length + 1 := split_len_le w " " (by decide +kernel) (kind_ok (by decide +kernel))
        refine ⟨u, sps w, rfl, .of upd_same, by omega, fun y hy => ⟨?_, ?_⟩, fun hn => ?_, fun r hr H4 t4 s4 ht4 hr4 => ?_⟩
        · have := split_each_le w " " (by decide +kernel) (kind_ok (by decide +kernel)) y hy
          omega
        · exact split_ok (by decide +kernel) (kind_ok (by decide +kernel)) (hno w hwm) y hy
        · rw [show rowOf (sps w) = lineRow w from rfl, hrow] at hn; cases hn
        · have er : r = rs[i] := by
            rw [show rowOf (sps w) = lineRow w from rfl, hrow] at hr
            exact (Option.some.inj hr).symm
          subst er
          have s5 := s3.trans s4
          have hp4 : H4 p = some (.lst vs) := s5 _ _ hp'
          have npt4 : p ≠ t4 := ne_of_none (s3 _ _ hp') ht4
          refine ifN (fun z => by cases z) ⟨_, rfl, .inl ⟨rfl, _, .of hp4⟩, _, rfl, p, vs, .ref t4, rfl, rfl, hp4, smallLt (by omega), ?_⟩
          refine (hPv _ _ _).mpr ⟨_, _, _, vs ++ [.ref t4], rfl, same_put (s1.trans s5) hp, by rw [upd_ne n1.symm]; exact s5 _ _ hp1', upd_same, ?_, by rw [List.length_append, hvl]; rfl⟩
          rw [offA_upd, List.take_add_one, List.getElem?_eq_getElem hi2, List.map_append]
          refine dpAll_snoc (rowD_dp (.of ?_)) (dpAll_same (offA_mono s5) hd)
          rw [offA_ne npt4.symm]; exact hr4
      · obtain ⟨c, d, e, vs, rfl, s1, hp1', hp', hd, hvl⟩ := (hPv _ _ _).mp hP
        simp only [tCutE, false_and, exists_false, false_or, or_false, tRet, tRetN, tAndV, tOrV, tNotV, tChain, rI, rI0, rU, tC, tCB, tCons, tNil, tVar, tOp, tUn, tTest, tB, tAnd, tOr, tNot, tIf, tIfS, tSeq, tAsg, tDrop, tNext, gName, gTup_ref, gCons_cons, gNil_nil, and_assoc, tYes, wipe, rEq, rNe, scal_ss, scal_ii, scal_bb, scal_ns, scal_sn, scal_nn, scal_in, scal_ni, tLc_eq, tFor_eq, iList, iTup, iStr, iRng1, iRng2, iZip, iEnum, gSub, tSl, rSetL_ref, rCat_ref, rRep_ref, rJoin_ref, rSlL_ref, rSlS_ref, rMulS_ref, rIxL_ref, rIxT_ref, rLenK_ref, rAll_ref, rIn_ref, tLst, tTup, tPar, tPar3, tAug, tPart, tNoPart, tCall, List.getElem?_cons_zero, List.getElem?_cons_succ, List.set_cons_zero, List.set_cons_succ, List.map_cons, List.map_nil, List.append_nil, List.nil_append, List.cons_append, Option.some.injEq, exists_eq_left', exists_eq_left, exists_eq_right, exists_eq_right', exists_eq', V.int.injEq, V.str.injEq, V.bl.injEq, V.ref.injEq, List.cons.injEq, tM0, tM1, rNewStrs, sgn_eq, split_dot, split_sp, split_nl, dot_len, sp_len, nl_len, cxOf_K, L2.start, List.length_cons, List.length_nil, List.replicate_succ, List.replicate_zero, Nat.reduceSub, Nat.zero_add, and_true, true_and, and_self, exists_and_left, exists_const, Bool.false_eq_true, if_false, if_true, ite_true, ite_false, reduceIte, decide_eq_true_eq, reduceCtorEq, Nat.reduceAdd, Nat.reduceLT]
        rw [List.length_map, hnl, List.take_length] at hd
        exact q _ p vs s1 hp hp' hd
end
end Hk

set_option Elab.async false
set_option linter.all false
set_option maxRecDepth 100000
set_option maxHeartbeats 4000000
namespace Hk
open PySem PySem.Spec PyProof.Rows L2
open TL
section
variable {P : Program} {w : World} {K : PySem.W.Frag} {mg : Str → Option Value} {base : Heap}
def sp_written (K : PySem.W.Frag) : Sp := fun vs H Q _ => ∃ (a : Addr) (vs' : List V) (rs : List Row), vs = [.ref a] ∧ SqL K H a vs' ∧ DpAll K H vs' (rs.map rowD) ∧ rs.length ≤ 100 ∧ (∀ r ∈ rs, Good r) ∧
  (∀ H', Same H H' → Q (.str (rowsText rs)) H')
theorem G_written (T : Tx K mg) : Glob P w K mg base (CX0) 1 "written" p_written [] (sp_written K) := by
  obtain ⟨fd, F⟩ := T.f_written
  refine ⟨_, fd, [], F.ok sc_written (fun vs H Q E h => ?_) (fun cdv A outer s H vs Q E hr h => ?_), T.g_written, F.kp, .nil, F.bindsN fun _ _ _ _ _ _ us hl => match us, hl with | [_], _ => rfl⟩
  · obtain ⟨a, vs', rs, rfl, _⟩ := h; rfl
  · obtain ⟨a, vs', rs, rfl, hS, hD, hl, hg, q⟩ := h
    refine ⟨_, PSs.nox (pss_cons (ps_set (i := 1) sc_written.nd rfl (Or.inl rfl) (pe_lst pa_nil))
      (pss_cons (ps_for PassesOwn.never rfl (pi_listK (K := K) rfl (pv 0)) (pg_tupK (K := K) rfl rfl (pgs_cons (pg_name (i := 2) sc_written.nd rfl (Or.inl rfl)) (pgs_cons (pg_name (i := 3) sc_written.nd rfl (Or.inl rfl)) (pgs_cons (pg_name (i := 4) sc_written.nd rfl (Or.inl rfl)) (pgs_cons (pg_name (i := 5) sc_written.nd rfl (Or.inl rfl)) (pgs_cons (pg_name (i := 6) sc_written.nd rfl (Or.inl rfl)) pgs_nil))))))
      (pss_cons (ps_set (i := 7) sc_written.nd rfl (Or.inl rfl) (pe_op op_cat (pe_lst (pa_cons (pv 2) (pa_cons (pv 3) (pa_cons (pe_callTy call_str_int (by rfl) T.b_str (by decide +kernel) (pa_cons (pv 4) pa_nil)) pa_nil)))) (pe_op op_rep (pe_lst (pa_cons pe_str pa_nil)) (pe_callTy call_int1 (by rfl) T.b_int (by decide +kernel) (pa_cons (pv 5) pa_nil)))))
      (pss_one (ps_expr (pe_bmK (K := K) rfl PySem.F.plainAttrs_list PySem.F.slot_list_append PySem.F.type_list_append mt_append (pv 1) (pa_cons (pe_joinK (K := K) rfl pe_str (pe_op op_cat (pv 7) (pe_ifExp (pt_cmpR op_ne (pv 6) pe_str (nomark _)) (pe_lst (pa_cons pe_str (pa_cons (pv 6) pa_nil))) (pe_lst pa_nil)))) pa_nil))))))
      (pss_one (ps_ret (pe_joinK (K := K) rfl pe_str (pv 1)))))), ?_⟩
    simp only [tCutE, false_and, exists_false, false_or, or_false, tRet, tRetN, tAndV, tOrV, tNotV, tChain, rI, rI0, rU, tC, tCB, tCons, tNil, tVar, tOp, tUn, tTest, tB, tAnd, tOr, tNot, tIf, tIfS, tSeq, tAsg, tDrop, tNext, gName, gTup_ref, gCons_cons, gNil_nil, and_assoc, tYes, wipe, rEq, rNe, scal_ss, scal_ii, scal_bb, scal_ns, scal_sn, scal_nn, scal_in, scal_ni, tLc_eq, tFor_eq, iList, iTup, iStr, iRng1, iRng2, iZip, iEnum, gSub, tSl, rSetL_ref, rCat_ref, rRep_ref, rJoin_ref, rSlL_ref, rSlS_ref, rMulS_ref, rIxL_ref, rIxT_ref, rLenK_ref, rAll_ref, rIn_ref, tLst, tTup, tPar, tPar3, tAug, tPart, tNoPart, tCall, List.getElem?_cons_zero, List.getElem?_cons_succ, List.set_cons_zero, List.set_cons_succ, List.map_cons, List.map_nil, List.append_nil, List.nil_append, List.cons_append, Option.some.injEq, exists_eq_left', exists_eq_left, exists_eq_right, exists_eq_right', exists_eq', V.int.injEq, V.str.injEq, V.bl.injEq, V.ref.injEq, List.cons.injEq, tM0, tM1, rNewStrs, sgn_eq, split_dot, split_sp, split_nl, dot_len, sp_len, nl_len, cxOf_K, L2.start, List.length_cons, List.length_nil, List.replicate_succ, List.replicate_zero, Nat.reduceSub, Nat.zero_add, and_true, true_and, and_self, exists_and_left, exists_const, Bool.false_eq_true, if_false, if_true, ite_true, ite_false, reduceIte, decide_eq_true_eq, reduceCtorEq, Nat.reduceAdd, Nat.reduceLT]
    refine ⟨by decide, fun p hp => ?_⟩
    have s0 : Same H (upd H p (.lst [])) := same_new (Same.refl _) hp
    have hvl := dpAll_len hD
    rw [List.length_map] at hvl
    refine ⟨⟨_, s0.seq hS⟩, ?_⟩
    obtain ⟨Pv, hPv⟩ : ∃ Pv : Nat → L2.St → Hp → Prop, ∀ i σ H', Pv i σ H' ↔ ∃ c d e f g k, σ = [some (.ref a), some (.ref p), c, d, e, f, g, k] ∧ Same H H' ∧ H' p = some (.lst ((rs.take i).map fun r => V.str (rowText r))) := ⟨_, fun _ _ _ => Iff.rfl⟩
    refine forG walk_list Pv ((hPv _ _ _).mpr ⟨_, _, _, _, _, _, rfl, s0, upd_same⟩) (fun i σ H' _ z => by obtain ⟨_, _, _, _, _, _, _, s1, _⟩ := (hPv _ _ _).mp z; exact s1.seq hS) (fun i x σ H1 H2 hi hP hy => ?_) (fun σ H1 hP => ?_)
    · obtain ⟨c, d, e, f, g, k, rfl, s1, hp1'⟩ := (hPv _ _ _).mp hP
      obtain ⟨rfl, hx⟩ := hy
      have hi2 : i < rs.length := by omega
      have gr : Good rs[i] := hg _ (List.getElem_mem hi2)
      have hdi : (rs.map rowD)[i]? = some (rowD rs[i]) := by rw [List.getElem?_map, List.getElem?_eq_getElem hi2]; rfl
      obtain ⟨v, e1, e2⟩ := dpAll_get hD hdi
      have ev : x = v := Option.some.inj (hx.symm.trans e1)
      subst ev
      obtain ⟨t, rfl, ht⟩ := rowD_inv e2
      generalize hr : rs[i] = r at gr ht
      refine ⟨t, _, rfl, same_tup s1 ht, rfl, ?_⟩
      simp only [rowVs, tCutE, false_and, exists_false, false_or, or_false, tRet, tRetN, tAndV, tOrV, tNotV, tChain, rI, rI0, rU, tC, tCB, tCons, tNil, tVar, tOp, tUn, tTest, tB, tAnd, tOr, tNot, tIf, tIfS, tSeq, tAsg, tDrop, tNext, gName, gTup_ref, gCons_cons, gNil_nil, and_assoc, tYes, wipe, rEq, rNe, scal_ss, scal_ii, scal_bb, scal_ns, scal_sn, scal_nn, scal_in, scal_ni, tLc_eq, tFor_eq, iList, iTup, iStr, iRng1, iRng2, iZip, iEnum, gSub, tSl, rSetL_ref, rCat_ref, rRep_ref, rJoin_ref, rSlL_ref, rSlS_ref, rMulS_ref, rIxL_ref, rIxT_ref, rLenK_ref, rAll_ref, rIn_ref, tLst, tTup, tPar, tPar3, tAug, tPart, tNoPart, tCall, List.getElem?_cons_zero, List.getElem?_cons_succ, List.set_cons_zero, List.set_cons_succ, List.map_cons, List.map_nil, List.append_nil, List.nil_append, List.cons_append, Option.some.injEq, exists_eq_left', exists_eq_left, exists_eq_right, exists_eq_right', exists_eq', V.int.injEq, V.str.injEq, V.bl.injEq, V.ref.injEq, List.cons.injEq, tM0, tM1, rNewStrs, sgn_eq, split_dot, split_sp, split_nl, dot_len, sp_len, nl_len, cxOf_K, L2.start, List.length_cons, List.length_nil, List.replicate_succ, List.replicate_zero, Nat.reduceSub, Nat.zero_add, and_true, true_and, and_self, exists_and_left, exists_const, Bool.false_eq_true, if_false, if_true, ite_true, ite_false, reduceIte, decide_eq_true_eq, reduceCtorEq, Nat.reduceAdd, Nat.reduceLT]
      refine ⟨gr.log, by decide, fun p1 hp1 => ⟨by decide, fun p2 hp2 => ?_⟩⟩
      generalize hH3 : upd H2 p1 _ = H3 at hp2 ⊢
      obtain ⟨s3, f1⟩ := newF hH3 ‹_›
      generalize hH4 : upd H3 p2 _ = H4
      obtain ⟨s4, f2⟩ := newF hH4 hp2
      have hb : (if r.o = true then (1 : Int) else 0) = 0 ∨ (if r.o = true then (1 : Int) else 0) = 1 := by cases r.o <;> simp
      refine ⟨_, f2, by omega, by omega, ?_, fun p3 hp3 => ?_⟩
      · simp only [List.length_singleton]; exact small (by omega)
      generalize hH5 : upd H4 p3 _ = H5
      obtain ⟨s5, f3⟩ := newF hH5 hp3
      have ef : (List.replicate (if r.o = true then (1 : Int) else 0).toNat [V.str (Str.ofString "once")]).flatten = (if r.o = true then [("once" : Str)] else []).map V.str := by cases r.o <;> rfl
      rw [ef] at f3
      have hw : (if r.o = true then [("once" : Str)] else []).length ≤ 1 := by cases r.o <;> simp
      refine ⟨_, s5 _ _ (s4 _ _ f1), _, f3, ?_, fun p4 hp4 => ?_⟩
      · rw [List.length_map]; exact small (by simp; omega)
      generalize hH6 : upd H5 p4 _ = H6
      obtain ⟨s6, f4⟩ := newF hH6 hp4
      have eg : [V.str r.p, V.str r.n, V.str (Str.ofString (toString r.r))] ++ (if r.o = true then [("once" : Str)] else []).map V.str = ([r.p, r.n, (toString r.r : String)] ++ (if r.o = true then [("once" : Str)] else [])).map V.str := by cases r.o <;> rfl
      rw [eg] at f4
      have sH := ((s3.trans s4).trans s5).trans s6
      have hlp := hp1
      have fp : H6 p = some (.lst ((rs.take i).map fun r => V.str (rowText r))) := sH _ _ hp1'
      refine ⟨_, rfl, .inl ⟨rfl, _, .of fp⟩, ?_⟩
      simp only [tCutE, false_and, exists_false, false_or, or_false, tRet, tRetN, tAndV, tOrV, tNotV, tChain, rI, rI0, rU, tC, tCB, tCons, tNil, tVar, tOp, tUn, tTest, tB, tAnd, tOr, tNot, tIf, tIfS, tSeq, tAsg, tDrop, tNext, gName, gTup_ref, gCons_cons, gNil_nil, and_assoc, tYes, wipe, rEq, rNe, scal_ss, scal_ii, scal_bb, scal_ns, scal_sn, scal_nn, scal_in, scal_ni, tLc_eq, tFor_eq, iList, iTup, iStr, iRng1, iRng2, iZip, iEnum, gSub, tSl, rSetL_ref, rCat_ref, rRep_ref, rJoin_ref, rSlL_ref, rSlS_ref, rMulS_ref, rIxL_ref, rIxT_ref, rLenK_ref, rAll_ref, rIn_ref, tLst, tTup, tPar, tPar3, tAug, tPart, tNoPart, tCall, List.getElem?_cons_zero, List.getElem?_cons_succ, List.set_cons_zero, List.set_cons_succ, List.map_cons, List.map_nil, List.append_nil, List.nil_append, List.cons_append, Option.some.injEq, exists_eq_left', exists_eq_left, exists_eq_right, exists_eq_right', exists_eq', V.int.injEq, V.str.injEq, V.bl.injEq, V.ref.injEq, List.cons.injEq, tM0, tM1, rNewStrs, sgn_eq, split_dot, split_sp, split_nl, dot_len, sp_len, nl_len, cxOf_K, L2.start, List.length_cons, List.length_nil, List.replicate_succ, List.replicate_zero, Nat.reduceSub, Nat.zero_add, and_true, true_and, and_self, exists_and_left, exists_const, Bool.false_eq_true, if_false, if_true, ite_true, ite_false, reduceIte, decide_eq_true_eq, reduceCtorEq, Nat.reduceAdd, Nat.reduceLT]
      have fin : ∀ (H7 : Hp) (q : Addr) (us : List Str), Same H6 H7 → H7 q = some (.lst (us.map V.str)) → [r.p, r.n, (toString r.r : String)] ++ (if r.o = true then [("once" : Str)] else []) ++ us = rowWords r → us.length ≤ 2 →
          ∃ xs, H7 p4 = some (.lst xs) ∧ ∃ zs, H7 q = some (.lst zs) ∧ xs.length + zs.length ≤ sizeLine ∧ ∀ u, H7 u = none → ∃ ys : List Str, (SqL K (upd H7 u (.lst (xs ++ zs))) u (ys.map V.str) ∨ SqT K (upd H7 u (.lst (xs ++ zs))) u (ys.map V.str)) ∧ (ys.map (·.length)).sum + ys.length * (Str.ofString " ").length ≤ 16777216 ∧
            rAppend (V.ref p) [V.str (Txt.join (Str.ofString " ") ys)] (upd H7 u (.lst (xs ++ zs))) fun x H1 => Pv (i + 1) [some (V.ref a), some (V.ref p), some (V.str r.p), some (V.str r.n), some (V.int r.r), some (V.bl r.o), some (V.str r.g), some (V.ref p4)] H1 := by
        intro H7 q us s7 hq hus hl2
        have hw1 := rowWords_le r
        refine ⟨_, s7 _ _ f4, _, hq, ?_, fun u hu => ⟨rowWords r, ?_, ?_, ?_⟩⟩
        · rw [List.length_map, List.length_map]; exact small (by simp; omega)
        · rw [← List.map_append, hus]; exact .inl (.of upd_same)
        · have := sum_le (rowWords_len gr)
          have e : (" " : Str).length = 1 := by decide +kernel
          rw [e]; omega
        · have s8 := sH.trans (s7.trans (same_new (o := .lst (List.map V.str ([r.p, r.n, (toString r.r : String)] ++ if r.o = true then [("once" : Str)] else []) ++ List.map V.str us)) (Same.refl _) hu))
          have fp8 := s8 _ _ hp1'
          refine ⟨p, _, _, rfl, rfl, fp8, smallLt (by rw [List.length_map, List.length_take]; omega), (hPv _ _ _).mpr ⟨_, _, _, _, _, _, rfl, same_put (s1.trans s8) hp, ?_⟩⟩
          rw [upd_same, List.take_add_one, List.getElem?_eq_getElem hi2, List.map_append, hr]
          rfl
      by_cases hgg : r.g = ("" : Str)
      · refine ifN (by simp [hgg]) ⟨by decide, fun q hq => ?_⟩
        generalize hH7 : upd H6 q _ = H7
        obtain ⟨s7, fq⟩ := newF hH7 hq
        exact fin H7 q [] s7 fq (by unfold rowWords; simp [hgg]) (by simp)
      · refine ifP (by simp [hgg]) ⟨by decide, fun q hq => ?_⟩
        generalize hH7 : upd H6 q _ = H7
        obtain ⟨s7, fq⟩ := newF hH7 hq
        exact fin H7 q [("in" : Str), r.g] s7 fq (by unfold rowWords; simp [hgg]) (by simp)
    · obtain ⟨c, d, e, f, g, k, rfl, s1, hp1⟩ := (hPv _ _ _).mp hP
      simp only [tCutE, false_and, exists_false, false_or, or_false, tRet, tRetN, tAndV, tOrV, tNotV, tChain, rI, rI0, rU, tC, tCB, tCons, tNil, tVar, tOp, tUn, tTest, tB, tAnd, tOr, tNot, tIf, tIfS, tSeq, tAsg, tDrop, tNext, gName, gTup_ref, gCons_cons, gNil_nil, and_assoc, tYes, wipe, rEq, rNe, scal_ss, scal_ii, scal_bb, scal_ns, scal_sn, scal_nn, scal_in, scal_ni, tLc_eq, tFor_eq, iList, iTup, iStr, iRng1, iRng2, iZip, iEnum, gSub, tSl, rSetL_ref, rCat_ref, rRep_ref, rJoin_ref, rSlL_ref, rSlS_ref, rMulS_ref, rIxL_ref, rIxT_ref, rLenK_ref, rAll_ref, rIn_ref, tLst, tTup, tPar, tPar3, tAug, tPart, tNoPart, tCall, List.getElem?_cons_zero, List.getElem?_cons_succ, List.set_cons_zero, List.set_cons_succ, List.map_cons, List.map_nil, List.append_nil, List.nil_append, List.cons_append, Option.some.injEq, exists_eq_left', exists_eq_left, exists_eq_right, exists_eq_right', exists_eq', V.int.injEq, V.str.injEq, V.bl.injEq, V.ref.injEq, List.cons.injEq, tM0, tM1, rNewStrs, sgn_eq, split_dot, split_sp, split_nl, dot_len, sp_len, nl_len, cxOf_K, L2.start, List.length_cons, List.length_nil, List.replicate_succ, List.replicate_zero, Nat.reduceSub, Nat.zero_add, and_true, true_and, and_self, exists_and_left, exists_const, Bool.false_eq_true, if_false, if_true, ite_true, ite_false, reduceIte, decide_eq_true_eq, reduceCtorEq, Nat.reduceAdd, Nat.reduceLT]
      rw [hvl, List.take_length] at hp1
      have hs := sum_le (k := 700) (ws := rs.map rowText) fun w hw => by
        obtain ⟨r, hr, rfl⟩ := List.mem_map.mp hw
        exact rowText_len (hg r hr)
      have e1 : ("\n" : Str).length = 1 := by decide +kernel
      refine ⟨rs.map rowText, .inl (.of (by rw [List.map_map]; exact hp1)), ?_, q _ s1⟩
      rw [e1]
      rw [List.length_map] at hs ⊢
      omega
def sp_law_text : Sp := fun vs H Q _ => ∃ (t : Addr) (r : Row), vs = [.ref t] ∧ H t = some (.tup (rowVs r)) ∧ Good r ∧ ∀ H', Same H H' → Q (.str (rowText r)) H'
theorem G_law_text (T : Tx K mg) : Glob P w K mg base (CX0) 1 "_law_text" p_law_text [] sp_law_text := by
  obtain ⟨fd, F⟩ := T.f_law_text
  refine ⟨_, fd, [], F.ok sc_law_text (fun vs H Q E h => ?_) (fun cdv A outer s H vs Q E hr h => ?_), T.g__law_text, F.kp, .nil, F.bindsN fun _ _ _ _ _ _ us hl => match us, hl with | [_], _ => rfl⟩
  · obtain ⟨t, r, rfl, _⟩ := h; rfl
  · obtain ⟨t, r, rfl, ht, gr, q⟩ := h
    refine ⟨_, PSs.nox (pss_cons (ps_asg (pv 0) (pg_tupK (K := K) rfl rfl (pgs_cons (pg_name (i := 1) sc_law_text.nd rfl (Or.inl rfl)) (pgs_cons (pg_name (i := 2) sc_law_text.nd rfl (Or.inl rfl)) (pgs_cons (pg_name (i := 3) sc_law_text.nd rfl (Or.inl rfl)) (pgs_cons (pg_name (i := 4) sc_law_text.nd rfl (Or.inl rfl)) (pgs_cons (pg_name (i := 5) sc_law_text.nd rfl (Or.inl rfl)) pgs_nil)))))))
      (pss_one (ps_ret (pe_op op_add_str (pe_op op_add_str (pe_op op_add_str (pe_op op_add_str (pe_op op_add_str (pe_op op_add_str (pv 1) pe_str) (pv 2)) pe_str) (pe_callTy call_str_int (by rfl) T.b_str (by decide +kernel) (pa_cons (pv 3) pa_nil))) (pe_op op_mulS pe_str (pe_callTy call_int1 (by rfl) T.b_int (by decide +kernel) (pa_cons (pv 4) pa_nil)))) (pe_op op_mulS (pe_op op_add_str pe_str (pv 5)) (pe_callTy call_int1 (by rfl) T.b_int (by decide +kernel) (pa_cons (pe_cmpR op_ne (pv 5) pe_str (nomark _)) pa_nil))))))), ?_⟩
    simp only [tCutE, false_and, exists_false, false_or, or_false, tRet, tRetN, tAndV, tOrV, tNotV, tChain, rI, rI0, rU, tC, tCB, tCons, tNil, tVar, tOp, tUn, tTest, tB, tAnd, tOr, tNot, tIf, tIfS, tSeq, tAsg, tDrop, tNext, gName, gTup_ref, gCons_cons, gNil_nil, and_assoc, tYes, wipe, rEq, rNe, scal_ss, scal_ii, scal_bb, scal_ns, scal_sn, scal_nn, scal_in, scal_ni, tLc_eq, tFor_eq, iList, iTup, iStr, iRng1, iRng2, iZip, iEnum, gSub, tSl, rSetL_ref, rCat_ref, rRep_ref, rJoin_ref, rSlL_ref, rSlS_ref, rMulS_ref, rIxL_ref, rIxT_ref, rLenK_ref, rAll_ref, rIn_ref, tLst, tTup, tPar, tPar3, tAug, tPart, tNoPart, tCall, List.getElem?_cons_zero, List.getElem?_cons_succ, List.set_cons_zero, List.set_cons_succ, List.map_cons, List.map_nil, List.append_nil, List.nil_append, List.cons_append, Option.some.injEq, exists_eq_left', exists_eq_left, exists_eq_right, exists_eq_right', exists_eq', V.int.injEq, V.str.injEq, V.bl.injEq, V.ref.injEq, List.cons.injEq, tM0, tM1, rNewStrs, sgn_eq, split_dot, split_sp, split_nl, dot_len, sp_len, nl_len, cxOf_K, L2.start, List.length_cons, List.length_nil, List.replicate_succ, List.replicate_zero, Nat.reduceSub, Nat.zero_add, and_true, true_and, and_self, exists_and_left, exists_const, Bool.false_eq_true, if_false, if_true, ite_true, ite_false, reduceIte, decide_eq_true_eq, reduceCtorEq, Nat.reduceAdd, Nat.reduceLT]
    refine ⟨_, .of ht, rfl, ?_⟩
    simp only [rowVs, tCutE, false_and, exists_false, false_or, or_false, tRet, tRetN, tAndV, tOrV, tNotV, tChain, rI, rI0, rU, tC, tCB, tCons, tNil, tVar, tOp, tUn, tTest, tB, tAnd, tOr, tNot, tIf, tIfS, tSeq, tAsg, tDrop, tNext, gName, gTup_ref, gCons_cons, gNil_nil, and_assoc, tYes, wipe, rEq, rNe, scal_ss, scal_ii, scal_bb, scal_ns, scal_sn, scal_nn, scal_in, scal_ni, tLc_eq, tFor_eq, iList, iTup, iStr, iRng1, iRng2, iZip, iEnum, gSub, tSl, rSetL_ref, rCat_ref, rRep_ref, rJoin_ref, rSlL_ref, rSlS_ref, rMulS_ref, rIxL_ref, rIxT_ref, rLenK_ref, rAll_ref, rIn_ref, tLst, tTup, tPar, tPar3, tAug, tPart, tNoPart, tCall, List.getElem?_cons_zero, List.getElem?_cons_succ, List.set_cons_zero, List.set_cons_succ, List.map_cons, List.map_nil, List.append_nil, List.nil_append, List.cons_append, Option.some.injEq, exists_eq_left', exists_eq_left, exists_eq_right, exists_eq_right', exists_eq', V.int.injEq, V.str.injEq, V.bl.injEq, V.ref.injEq, List.cons.injEq, tM0, tM1, rNewStrs, sgn_eq, split_dot, split_sp, split_nl, dot_len, sp_len, nl_len, cxOf_K, L2.start, List.length_cons, List.length_nil, List.replicate_succ, List.replicate_zero, Nat.reduceSub, Nat.zero_add, and_true, true_and, and_self, exists_and_left, exists_const, Bool.false_eq_true, if_false, if_true, ite_true, ite_false, reduceIte, decide_eq_true_eq, reduceCtorEq, Nat.reduceAdd, Nat.reduceLT]
    rw [rowText_eq]
    have h1 := word_len gr.n
    have h2 := gr.gl
    have h3 : (Str.ofString (toString r.r)).length ≤ 2 := gr.rl
    have h4 := gr.pl
    have e1 : (Str.ofString " ").length = 1 := by decide +kernel
    have e2 : (if (if r.o = true then (1 : Int) else 0) = 1 then Str.ofString " once" else Str.empty).length ≤ 5 := by cases r.o <;> decide +kernel
    have e3 : (Str.ofString " in ").length = 4 := by decide +kernel
    have ea : ∀ a b : Str, (a ++ b).length = a.length + b.length := fun a b => by rw [len_tl, tl_append, List.length_append, ← len_tl, ← len_tl]
    have e4 : (if (if (!decide (r.g = Str.ofString "")) = true then (1 : Int) else 0) = 1 then Str.ofString " in " ++ r.g else Str.empty).length ≤ 8 := by
      generalize (if (!decide (r.g = Str.ofString "")) = true then (1 : Int) else 0) = k
      split
      · rw [ea]; omega
      · exact Nat.zero_le _
    simp only [ea]
    refine ⟨small (by omega), small (by omega), small (by omega), gr.log, small (by omega), by cases r.o <;> simp, small (by omega), small (by omega), ?_, small (by omega), q _ (Same.refl _)⟩
    by_cases h : r.g = ("" : Str) <;> simp [h]
end
end Hk

set_option Elab.async false
set_option linter.all false
set_option maxRecDepth 100000
set_option maxHeartbeats 4000000
namespace Hk
open PySem PySem.Spec PyProof.Rows L2
section
variable {P : Program} {w : World} {K : PySem.W.Frag} {mg : Str → Option Value} {base : Heap}
/-! ### what is drawn from: a list of a number, the cells and a place -/
def SrcOk (H : Hp) (h l : Addr) : Prop := ∃ (m p : Int) (cs : List Int), H h = some (.lst [.int m, .ref l, .int p]) ∧ H l = some (.lst (cs.map V.int)) ∧ 0 ≤ m ∧ m < 2147483647 ∧ 0 ≤ p ∧ cs.length ≤ 63
abbrev DrS (h l : Addr) : Addr → Prop := fun b => b = h ∨ b = l
theorem SrcOk.ne {H : Hp} {h l : Addr} (s : SrcOk H h l) : h ≠ l := by
  obtain ⟨m, p, cs, e1, e2, _⟩ := s
  intro e; subst e
  rw [e1] at e2
  cases cs with
  | nil => cases e2
  | cons a r =>
    cases r with
    | nil => cases e2
    | cons b r => cases e2
def sp_law_mix (K : PySem.W.Frag) : Sp := fun vs H Q _ => ∃ (a : Addr) (ns : List Int) (sd : Int), vs = [.ref a, .int sd] ∧ SqL K H a (ns.map V.int) ∧ ns.length ≤ 63 ∧ 0 ≤ sd ∧ sd < 2147483647 ∧
  ∀ H' h l, Same H H' → H h = none → H l = none → SrcOk H' h l → Q (.ref h) H'
theorem G_law_mix (T : Tx K mg) : Glob P w K mg base (CX0) 1 "_law_mix" p_law_mix [] (sp_law_mix K) := by
  obtain ⟨fd, F⟩ := T.f_law_mix
  refine ⟨_, fd, [], F.ok sc_law_mix (fun vs H Q E h => ?_) (fun cdv A outer s H vs Q E hr h => ?_), T.g__law_mix, F.kp, .nil, F.bindsN fun _ _ _ _ _ _ us hl => match us, hl with | [_, _], _ => rfl⟩
  · obtain ⟨a, ns, sd, rfl, _⟩ := h; rfl
  · obtain ⟨a, ns, sd, rfl, hS, hn, h0, h1, q⟩ := h
    refine ⟨_, PSs.nox (pss_cons (ps_set (i := 2) sc_law_mix.nd rfl (Or.inl rfl) (pv 1))
      (pss_cons (ps_for PassesOwn.never rfl (pi_listK (K := K) rfl (pv 0)) (pg_name (i := 3) sc_law_mix.nd rfl (Or.inl rfl))
      (pss_one (ps_set (i := 2) sc_law_mix.nd rfl (Or.inl rfl) (pe_op op_mod (pe_op op_add (pe_op op_add (pe_op op_mul (pv 2) pe_int) (pe_op op_mod (pv 3) pe_int)) pe_int) pe_int))))
      (pss_one (ps_ret (pe_lst (pa_cons (pv 2) (pa_cons (pe_callTy (call_list_ofK (K := K) rfl) (by rfl) T.b_list (by decide +kernel) (pa_cons (pv 0) pa_nil)) (pa_cons pe_int pa_nil)))))))), ?_⟩
    simp only [tCutE, false_and, exists_false, false_or, or_false, tRet, tRetN, tAndV, tOrV, tNotV, tChain, rI, rI0, rU, tC, tCB, tCons, tNil, tVar, tOp, tUn, tTest, tB, tAnd, tOr, tNot, tIf, tIfS, tSeq, tAsg, tDrop, tNext, gName, gTup_ref, gCons_cons, gNil_nil, and_assoc, tYes, wipe, rEq, rNe, scal_ss, scal_ii, scal_bb, scal_ns, scal_sn, scal_nn, scal_in, scal_ni, tLc_eq, tFor_eq, iList, iTup, iStr, iRng1, iRng2, iZip, iEnum, gSub, tSl, rSetL_ref, rCat_ref, rRep_ref, rJoin_ref, rSlL_ref, rSlS_ref, rMulS_ref, rIxL_ref, rIxT_ref, rLenK_ref, rAll_ref, rIn_ref, tLst, tTup, tPar, tPar3, tAug, tPart, tNoPart, tCall, List.getElem?_cons_zero, List.getElem?_cons_succ, List.set_cons_zero, List.set_cons_succ, List.map_cons, List.map_nil, List.append_nil, List.nil_append, List.cons_append, Option.some.injEq, exists_eq_left', exists_eq_left, exists_eq_right, exists_eq_right', exists_eq', V.int.injEq, V.str.injEq, V.bl.injEq, V.ref.injEq, List.cons.injEq, tM0, tM1, rNewStrs, sgn_eq, split_dot, split_sp, split_nl, dot_len, sp_len, nl_len, cxOf_K, L2.start, List.length_cons, List.length_nil, List.replicate_succ, List.replicate_zero, Nat.reduceSub, Nat.zero_add, and_true, true_and, and_self, exists_and_left, exists_const, Bool.false_eq_true, if_false, if_true, ite_true, ite_false, reduceIte, decide_eq_true_eq, reduceCtorEq, Nat.reduceAdd, Nat.reduceLT]
    refine ⟨⟨_, hS⟩, forG (walk_listm ns V.int) (fun i σ H' => ∃ m c, σ = [some (.ref a), some (.int sd), some (.int m), c] ∧ 0 ≤ m ∧ m < 2147483647 ∧ H' = H) ⟨sd, none, rfl, h0, h1, rfl⟩ (fun i σ H' _ ⟨m, c, _, _, _, e⟩ => by rw [e]; exact hS) (fun i x σ H1 H2 hi hP hy => ?_) (fun σ H1 hP => ?_)⟩
    · obtain ⟨m, c, rfl, hm0, hm1, rfl⟩ := hP
      obtain ⟨rfl, y, hy, rfl⟩ := hy
      simp only [tCutE, false_and, exists_false, false_or, or_false, tRet, tRetN, tAndV, tOrV, tNotV, tChain, rI, rI0, rU, tC, tCB, tCons, tNil, tVar, tOp, tUn, tTest, tB, tAnd, tOr, tNot, tIf, tIfS, tSeq, tAsg, tDrop, tNext, gName, gTup_ref, gCons_cons, gNil_nil, and_assoc, tYes, wipe, rEq, rNe, scal_ss, scal_ii, scal_bb, scal_ns, scal_sn, scal_nn, scal_in, scal_ni, tLc_eq, tFor_eq, iList, iTup, iStr, iRng1, iRng2, iZip, iEnum, gSub, tSl, rSetL_ref, rCat_ref, rRep_ref, rJoin_ref, rSlL_ref, rSlS_ref, rMulS_ref, rIxL_ref, rIxT_ref, rLenK_ref, rAll_ref, rIn_ref, tLst, tTup, tPar, tPar3, tAug, tPart, tNoPart, tCall, List.getElem?_cons_zero, List.getElem?_cons_succ, List.set_cons_zero, List.set_cons_succ, List.map_cons, List.map_nil, List.append_nil, List.nil_append, List.cons_append, Option.some.injEq, exists_eq_left', exists_eq_left, exists_eq_right, exists_eq_right', exists_eq', V.int.injEq, V.str.injEq, V.bl.injEq, V.ref.injEq, List.cons.injEq, tM0, tM1, rNewStrs, sgn_eq, split_dot, split_sp, split_nl, dot_len, sp_len, nl_len, cxOf_K, L2.start, List.length_cons, List.length_nil, List.replicate_succ, List.replicate_zero, Nat.reduceSub, Nat.zero_add, and_true, true_and, and_self, exists_and_left, exists_const, Bool.false_eq_true, if_false, if_true, ite_true, ite_false, reduceIte, decide_eq_true_eq, reduceCtorEq, Nat.reduceAdd, Nat.reduceLT]
      refine ⟨.inr ⟨by omega, by omega⟩, by omega, by omega, ?_, ?_⟩
      · exact Int.emod_nonneg _ (by omega)
      · exact Int.emod_lt_of_pos _ (by omega)
    · obtain ⟨m, c, rfl, hm0, hm1, rfl⟩ := hP
      simp only [tCutE, false_and, exists_false, false_or, or_false, tRet, tRetN, tAndV, tOrV, tNotV, tChain, rI, rI0, rU, tC, tCB, tCons, tNil, tVar, tOp, tUn, tTest, tB, tAnd, tOr, tNot, tIf, tIfS, tSeq, tAsg, tDrop, tNext, gName, gTup_ref, gCons_cons, gNil_nil, and_assoc, tYes, wipe, rEq, rNe, scal_ss, scal_ii, scal_bb, scal_ns, scal_sn, scal_nn, scal_in, scal_ni, tLc_eq, tFor_eq, iList, iTup, iStr, iRng1, iRng2, iZip, iEnum, gSub, tSl, rSetL_ref, rCat_ref, rRep_ref, rJoin_ref, rSlL_ref, rSlS_ref, rMulS_ref, rIxL_ref, rIxT_ref, rLenK_ref, rAll_ref, rIn_ref, tLst, tTup, tPar, tPar3, tAug, tPart, tNoPart, tCall, List.getElem?_cons_zero, List.getElem?_cons_succ, List.set_cons_zero, List.set_cons_succ, List.map_cons, List.map_nil, List.append_nil, List.nil_append, List.cons_append, Option.some.injEq, exists_eq_left', exists_eq_left, exists_eq_right, exists_eq_right', exists_eq', V.int.injEq, V.str.injEq, V.bl.injEq, V.ref.injEq, List.cons.injEq, tM0, tM1, rNewStrs, sgn_eq, split_dot, split_sp, split_nl, dot_len, sp_len, nl_len, cxOf_K, L2.start, List.length_cons, List.length_nil, List.replicate_succ, List.replicate_zero, Nat.reduceSub, Nat.zero_add, and_true, true_and, and_self, exists_and_left, exists_const, Bool.false_eq_true, if_false, if_true, ite_true, ite_false, reduceIte, decide_eq_true_eq, reduceCtorEq, Nat.reduceAdd, Nat.reduceLT]
      refine ⟨a, _, rfl, .inl hS, fun l hl => ?_⟩
      simp only [tCutE, false_and, exists_false, false_or, or_false, tRet, tRetN, tAndV, tOrV, tNotV, tChain, rI, rI0, rU, tC, tCB, tCons, tNil, tVar, tOp, tUn, tTest, tB, tAnd, tOr, tNot, tIf, tIfS, tSeq, tAsg, tDrop, tNext, gName, gTup_ref, gCons_cons, gNil_nil, and_assoc, tYes, wipe, rEq, rNe, scal_ss, scal_ii, scal_bb, scal_ns, scal_sn, scal_nn, scal_in, scal_ni, tLc_eq, tFor_eq, iList, iTup, iStr, iRng1, iRng2, iZip, iEnum, gSub, tSl, rSetL_ref, rCat_ref, rRep_ref, rJoin_ref, rSlL_ref, rSlS_ref, rMulS_ref, rIxL_ref, rIxT_ref, rLenK_ref, rAll_ref, rIn_ref, tLst, tTup, tPar, tPar3, tAug, tPart, tNoPart, tCall, List.getElem?_cons_zero, List.getElem?_cons_succ, List.set_cons_zero, List.set_cons_succ, List.map_cons, List.map_nil, List.append_nil, List.nil_append, List.cons_append, Option.some.injEq, exists_eq_left', exists_eq_left, exists_eq_right, exists_eq_right', exists_eq', V.int.injEq, V.str.injEq, V.bl.injEq, V.ref.injEq, List.cons.injEq, tM0, tM1, rNewStrs, sgn_eq, split_dot, split_sp, split_nl, dot_len, sp_len, nl_len, cxOf_K, L2.start, List.length_cons, List.length_nil, List.replicate_succ, List.replicate_zero, Nat.reduceSub, Nat.zero_add, and_true, true_and, and_self, exists_and_left, exists_const, Bool.false_eq_true, if_false, if_true, ite_true, ite_false, reduceIte, decide_eq_true_eq, reduceCtorEq, Nat.reduceAdd, Nat.reduceLT]
      refine ⟨by decide, fun h hh => ?_⟩
      have nlh : l ≠ h := by
        intro e; subst e
        rw [upd_same] at hh; cases hh
      rw [upd_ne nlh.symm] at hh
      exact q _ h l (same_put (same_put (Same.refl _) hl) hh) hh hl ⟨m, 0, ns, upd_same, by rw [upd_ne nlh, upd_same], hm0, hm1, Int.le_refl _, hn⟩
def sp_law_next : Sp := fun vs H Q _ => ∃ (h l : Addr) (n : Int), vs = [.ref h, .int n] ∧ SrcOk H h l ∧ 0 < n ∧ n < 1073741824 ∧
  ∀ H' r, Ext (DrS h l) H H' → SrcOk H' h l → 0 ≤ r → r < n → Q (.int r) H'
theorem G_law_next (T : Tx K mg) : Glob P w K mg base (CX0) 1 "_law_next" p_law_next [] sp_law_next := by
  obtain ⟨fd, F⟩ := T.f_law_next
  refine ⟨_, fd, [], F.ok sc_law_next (fun vs H Q E h => ?_) (fun cdv A outer s H vs Q E hr h => ?_), T.g__law_next, F.kp, .nil, F.bindsN fun _ _ _ _ _ _ us hl => match us, hl with | [_, _], _ => rfl⟩
  · obtain ⟨h, l, n, rfl, _⟩ := h; rfl
  · obtain ⟨h, l, n, rfl, hS, h0, h1, q⟩ := h
    have hne := hS.ne
    obtain ⟨m, p, cs, e1, e2, hm0, hm1, hp, hc⟩ := hS
    refine ⟨_, PSs.nox (pss_cons (ps_set (i := 2) sc_law_next.nd rfl (Or.inl rfl) (pe_ix (ix_listK (K := K) rfl) (pe_op op_cat (pe_ix (ix_listK (K := K) rfl) (pv 0) pe_int (fun _ _ => rfl)) (pe_lst (pa_cons pe_int pa_nil))) (pe_op op_mod (pe_ix (ix_listK (K := K) rfl) (pv 0) pe_int (fun _ _ => rfl)) (pe_callB (call_max2 rfl) (by rfl) T.b_max (by decide +kernel) (pa_cons pe_int (pa_cons (pe_callB (call_len_seqK (K := K) rfl) (by rfl) T.b_len (by decide +kernel) (pa_cons (pe_ix (ix_listK (K := K) rfl) (pv 0) pe_int (fun _ _ => rfl)) pa_nil)) pa_nil)))) (fun _ _ => rfl)))
      (pss_cons (ps_if (pt_cmpR op_ge (pv 2) (pe_op op_pow pe_int pe_int) (nomark _))
      (pss_cons (ps_asg (pe_op op_fdiv (pv 2) (pv 1)) (pg_sub (pe_ix (ix_listK (K := K) rfl) (pv 0) pe_int (fun _ _ => rfl)) (pe_op op_mod (pe_ix (ix_listK (K := K) rfl) (pv 0) pe_int (fun _ _ => rfl)) (pe_callB (call_len_seqK (K := K) rfl) (by rfl) T.b_len (by decide +kernel) (pa_cons (pe_ix (ix_listK (K := K) rfl) (pv 0) pe_int (fun _ _ => rfl)) pa_nil))) set_list))
      (pss_one (ps_ret (pe_op op_mod (pv 2) (pv 1)))))
      pss_nil)
      (pss_cons (ps_asg (pe_op op_mod (pe_op op_add (pe_op op_add (pe_op op_mul (pe_ix (ix_listK (K := K) rfl) (pv 0) pe_int (fun _ _ => rfl)) pe_int) (pe_op op_mul (pv 2) pe_int)) pe_int) pe_int) (pg_sub (pv 0) pe_int set_list))
      (pss_cons (ps_asg (pe_op op_add (pe_ix (ix_listK (K := K) rfl) (pv 0) pe_int (fun _ _ => rfl)) pe_int) (pg_sub (pv 0) pe_int set_list))
      (pss_one (ps_ret (pe_op op_mod (pe_op op_fdiv (pe_ix (ix_listK (K := K) rfl) (pv 0) pe_int (fun _ _ => rfl)) pe_int) (pv 1)))))))), ?_⟩
    simp only [tCutE, false_and, exists_false, false_or, or_false, tRet, tRetN, tAndV, tOrV, tNotV, tChain, rI, rI0, rU, tC, tCB, tCons, tNil, tVar, tOp, tUn, tTest, tB, tAnd, tOr, tNot, tIf, tIfS, tSeq, tAsg, tDrop, tNext, gName, gTup_ref, gCons_cons, gNil_nil, and_assoc, tYes, wipe, rEq, rNe, scal_ss, scal_ii, scal_bb, scal_ns, scal_sn, scal_nn, scal_in, scal_ni, tLc_eq, tFor_eq, iList, iTup, iStr, iRng1, iRng2, iZip, iEnum, gSub, tSl, rSetL_ref, rCat_ref, rRep_ref, rJoin_ref, rSlL_ref, rSlS_ref, rMulS_ref, rIxL_ref, rIxT_ref, rLenK_ref, rAll_ref, rIn_ref, tLst, tTup, tPar, tPar3, tAug, tPart, tNoPart, tCall, List.getElem?_cons_zero, List.getElem?_cons_succ, List.set_cons_zero, List.set_cons_succ, List.map_cons, List.map_nil, List.append_nil, List.nil_append, List.cons_append, Option.some.injEq, exists_eq_left', exists_eq_left, exists_eq_right, exists_eq_right', exists_eq', V.int.injEq, V.str.injEq, V.bl.injEq, V.ref.injEq, List.cons.injEq, tM0, tM1, rNewStrs, sgn_eq, split_dot, split_sp, split_nl, dot_len, sp_len, nl_len, cxOf_K, L2.start, List.length_cons, List.length_nil, List.replicate_succ, List.replicate_zero, Nat.reduceSub, Nat.zero_add, and_true, true_and, and_self, exists_and_left, exists_const, Bool.false_eq_true, if_false, if_true, ite_true, ite_false, reduceIte, decide_eq_true_eq, reduceCtorEq, Nat.reduceAdd, Nat.reduceLT]
    refine ⟨_, .of e1, _, rfl, by decide, fun b hb => ?_⟩
    have nhb : h ≠ b := ne_of_none e1 hb
    have nlb : l ≠ b := ne_of_none e2 hb
    refine ⟨l, b, _, _, rfl, rfl, by rw [upd_ne nlb]; exact e2, upd_same, by rw [List.length_map]; exact small (by simp; omega), fun c hc2 => ?_⟩
    have nbc : b ≠ c := by
      intro e; subst e
      rw [upd_same] at hc2; cases hc2
    have nhc : h ≠ c := by
      intro e; subst e
      rw [upd_ne nhb, e1] at hc2; cases hc2
    have nlc : l ≠ c := by
      intro e; subst e
      rw [upd_ne nlb, e2] at hc2; cases hc2
    have s1 : Ext (DrS h l) H (upd (upd H b (HO.lst [V.int 0])) c (HO.lst (List.map V.int cs ++ [V.int 0]))) := .of_same (same_new (same_put (Same.refl _) hb) hc2)
    have f1 : (upd (upd H b (HO.lst [V.int 0])) c (HO.lst (List.map V.int cs ++ [V.int 0]))) h = some (.lst [.int m, .ref l, .int p]) := by rw [upd_ne nhc, upd_ne nhb]; exact e1
    have f2 : (upd (upd H b (HO.lst [V.int 0])) c (HO.lst (List.map V.int cs ++ [V.int 0]))) l = some (.lst (cs.map V.int)) := by rw [upd_ne nlc, upd_ne nlb]; exact e2
    have f3 : (upd (upd H b (HO.lst [V.int 0])) c (HO.lst (List.map V.int cs ++ [V.int 0]))) c = some (.lst ((cs ++ [0]).map V.int)) := by rw [upd_same, List.map_append]; rfl
    generalize upd (upd H b (HO.lst [V.int 0])) c (HO.lst (List.map V.int cs ++ [V.int 0])) = H1 at s1 f1 f2 f3
    refine ⟨_, .of f1, _, rfl, _, .of f1, _, rfl, ?_⟩
    simp only [tCutE, false_and, exists_false, false_or, or_false, tRet, tRetN, tAndV, tOrV, tNotV, tChain, rI, rI0, rU, tC, tCB, tCons, tNil, tVar, tOp, tUn, tTest, tB, tAnd, tOr, tNot, tIf, tIfS, tSeq, tAsg, tDrop, tNext, gName, gTup_ref, gCons_cons, gNil_nil, and_assoc, tYes, wipe, rEq, rNe, scal_ss, scal_ii, scal_bb, scal_ns, scal_sn, scal_nn, scal_in, scal_ni, tLc_eq, tFor_eq, iList, iTup, iStr, iRng1, iRng2, iZip, iEnum, gSub, tSl, rSetL_ref, rCat_ref, rRep_ref, rJoin_ref, rSlL_ref, rSlS_ref, rMulS_ref, rIxL_ref, rIxT_ref, rLenK_ref, rAll_ref, rIn_ref, tLst, tTup, tPar, tPar3, tAug, tPart, tNoPart, tCall, List.getElem?_cons_zero, List.getElem?_cons_succ, List.set_cons_zero, List.set_cons_succ, List.map_cons, List.map_nil, List.append_nil, List.nil_append, List.cons_append, Option.some.injEq, exists_eq_left', exists_eq_left, exists_eq_right, exists_eq_right', exists_eq', V.int.injEq, V.str.injEq, V.bl.injEq, V.ref.injEq, List.cons.injEq, tM0, tM1, rNewStrs, sgn_eq, split_dot, split_sp, split_nl, dot_len, sp_len, nl_len, cxOf_K, L2.start, List.length_cons, List.length_nil, List.replicate_succ, List.replicate_zero, Nat.reduceSub, Nat.zero_add, and_true, true_and, and_self, exists_and_left, exists_const, Bool.false_eq_true, if_false, if_true, ite_true, ite_false, reduceIte, decide_eq_true_eq, reduceCtorEq, Nat.reduceAdd, Nat.reduceLT]
    refine ⟨_, .inl (.of f2), ?_⟩
    rw [List.length_map]
    have hd : (0 : Int) < if (cs.length : Int) > 1 then (cs.length : Int) else 1 := by split <;> omega
    refine ⟨hd, ?_⟩
    have hd1 : (if (cs.length : Int) > 1 then (cs.length : Int) else 1) ≤ (cs ++ [0]).length := by rw [List.length_append]; simp only [List.length_singleton]; split <;> omega
    have hi0 := Int.emod_nonneg p (b := if (cs.length : Int) > 1 then (cs.length : Int) else 1) (by omega)
    have hi1 := Int.emod_lt_of_pos p hd
    generalize hD : (if (cs.length : Int) > 1 then (cs.length : Int) else 1) = D at hd hd1 hi0 hi1
    have hix : ((p % D).toNat : Nat) < (cs ++ [0]).length := by omega
    have hci : (cs ++ [(0 : Int)])[(p % D).toNat]? = some ((cs ++ [0])[(p % D).toNat]) := List.getElem?_eq_getElem hix
    generalize (cs ++ [(0 : Int)])[(p % D).toNat] = cell at hci
    have hat : atI ((cs ++ [0]).map V.int) (p % D) = some (.int cell) := by
      have e : (p % D) = (((p % D).toNat : Nat) : Int) := by omega
      rw [e]
      refine atI_nat ?_
      rw [List.getElem?_map, hci]; rfl
    refine ⟨_, .of f3, _, hat, ⟨by decide, by decide, by decide⟩, _, rfl, ?_⟩
    split
    · rename_i hbig
      have hcs : 0 < cs.length := by
        rcases Nat.eq_zero_or_pos cs.length with e | e
        · exfalso
          have ec : cs = [] := List.eq_nil_of_length_eq_zero e
          subst ec
          have ex : (p % D).toNat = 0 := by simp at hix; omega
          rw [ex] at hci
          have := Option.some.inj hci
          subst this
          exact absurd hbig (by decide)
        · exact e
      simp only [tCutE, false_and, exists_false, false_or, or_false, tRet, tRetN, tAndV, tOrV, tNotV, tChain, rI, rI0, rU, tC, tCB, tCons, tNil, tVar, tOp, tUn, tTest, tB, tAnd, tOr, tNot, tIf, tIfS, tSeq, tAsg, tDrop, tNext, gName, gTup_ref, gCons_cons, gNil_nil, and_assoc, tYes, wipe, rEq, rNe, scal_ss, scal_ii, scal_bb, scal_ns, scal_sn, scal_nn, scal_in, scal_ni, tLc_eq, tFor_eq, iList, iTup, iStr, iRng1, iRng2, iZip, iEnum, gSub, tSl, rSetL_ref, rCat_ref, rRep_ref, rJoin_ref, rSlL_ref, rSlS_ref, rMulS_ref, rIxL_ref, rIxT_ref, rLenK_ref, rAll_ref, rIn_ref, tLst, tTup, tPar, tPar3, tAug, tPart, tNoPart, tCall, List.getElem?_cons_zero, List.getElem?_cons_succ, List.set_cons_zero, List.set_cons_succ, List.map_cons, List.map_nil, List.append_nil, List.nil_append, List.cons_append, Option.some.injEq, exists_eq_left', exists_eq_left, exists_eq_right, exists_eq_right', exists_eq', V.int.injEq, V.str.injEq, V.bl.injEq, V.ref.injEq, List.cons.injEq, tM0, tM1, rNewStrs, sgn_eq, split_dot, split_sp, split_nl, dot_len, sp_len, nl_len, cxOf_K, L2.start, List.length_cons, List.length_nil, List.replicate_succ, List.replicate_zero, Nat.reduceSub, Nat.zero_add, and_true, true_and, and_self, exists_and_left, exists_const, Bool.false_eq_true, if_false, if_true, ite_true, ite_false, reduceIte, decide_eq_true_eq, reduceCtorEq, Nat.reduceAdd, Nat.reduceLT]
      refine ⟨⟨h0, h1⟩, _, .of f1, _, rfl, _, .of f1, _, rfl, _, .of f1, _, rfl, ?_⟩
      simp only [tCutE, false_and, exists_false, false_or, or_false, tRet, tRetN, tAndV, tOrV, tNotV, tChain, rI, rI0, rU, tC, tCB, tCons, tNil, tVar, tOp, tUn, tTest, tB, tAnd, tOr, tNot, tIf, tIfS, tSeq, tAsg, tDrop, tNext, gName, gTup_ref, gCons_cons, gNil_nil, and_assoc, tYes, wipe, rEq, rNe, scal_ss, scal_ii, scal_bb, scal_ns, scal_sn, scal_nn, scal_in, scal_ni, tLc_eq, tFor_eq, iList, iTup, iStr, iRng1, iRng2, iZip, iEnum, gSub, tSl, rSetL_ref, rCat_ref, rRep_ref, rJoin_ref, rSlL_ref, rSlS_ref, rMulS_ref, rIxL_ref, rIxT_ref, rLenK_ref, rAll_ref, rIn_ref, tLst, tTup, tPar, tPar3, tAug, tPart, tNoPart, tCall, List.getElem?_cons_zero, List.getElem?_cons_succ, List.set_cons_zero, List.set_cons_succ, List.map_cons, List.map_nil, List.append_nil, List.nil_append, List.cons_append, Option.some.injEq, exists_eq_left', exists_eq_left, exists_eq_right, exists_eq_right', exists_eq', V.int.injEq, V.str.injEq, V.bl.injEq, V.ref.injEq, List.cons.injEq, tM0, tM1, rNewStrs, sgn_eq, split_dot, split_sp, split_nl, dot_len, sp_len, nl_len, cxOf_K, L2.start, List.length_cons, List.length_nil, List.replicate_succ, List.replicate_zero, Nat.reduceSub, Nat.zero_add, and_true, true_and, and_self, exists_and_left, exists_const, Bool.false_eq_true, if_false, if_true, ite_true, ite_false, reduceIte, decide_eq_true_eq, reduceCtorEq, Nat.reduceAdd, Nat.reduceLT]
      refine ⟨_, .inl (.of f2), ?_⟩
      rw [List.length_map]
      have hr0 := Int.emod_nonneg p (b := (cs.length : Int)) (by omega)
      have hr1 := Int.emod_lt_of_pos p (b := (cs.length : Int)) (by omega)
      refine ⟨by omega, _, f2, _, ixN_in hr0 (by rw [List.length_map]; exact hr1), h0, ?_⟩
      refine q _ _ (s1.trans ((Ext.refl _ _).put (.inr (.inr rfl)))) ⟨m, p, cs.set (p % (cs.length : Int)).toNat (cell / n), by rw [upd_ne hne]; exact f1, by rw [upd_same, List.map_set], hm0, hm1, hp, by rw [List.length_set]; exact hc⟩ (Int.emod_nonneg _ (by omega)) (Int.emod_lt_of_pos _ h0)
    · rename_i hsm
      simp only [tCutE, false_and, exists_false, false_or, or_false, tRet, tRetN, tAndV, tOrV, tNotV, tChain, rI, rI0, rU, tC, tCB, tCons, tNil, tVar, tOp, tUn, tTest, tB, tAnd, tOr, tNot, tIf, tIfS, tSeq, tAsg, tDrop, tNext, gName, gTup_ref, gCons_cons, gNil_nil, and_assoc, tYes, wipe, rEq, rNe, scal_ss, scal_ii, scal_bb, scal_ns, scal_sn, scal_nn, scal_in, scal_ni, tLc_eq, tFor_eq, iList, iTup, iStr, iRng1, iRng2, iZip, iEnum, gSub, tSl, rSetL_ref, rCat_ref, rRep_ref, rJoin_ref, rSlL_ref, rSlS_ref, rMulS_ref, rIxL_ref, rIxT_ref, rLenK_ref, rAll_ref, rIn_ref, tLst, tTup, tPar, tPar3, tAug, tPart, tNoPart, tCall, List.getElem?_cons_zero, List.getElem?_cons_succ, List.set_cons_zero, List.set_cons_succ, List.map_cons, List.map_nil, List.append_nil, List.nil_append, List.cons_append, Option.some.injEq, exists_eq_left', exists_eq_left, exists_eq_right, exists_eq_right', exists_eq', V.int.injEq, V.str.injEq, V.bl.injEq, V.ref.injEq, List.cons.injEq, tM0, tM1, rNewStrs, sgn_eq, split_dot, split_sp, split_nl, dot_len, sp_len, nl_len, cxOf_K, L2.start, List.length_cons, List.length_nil, List.replicate_succ, List.replicate_zero, Nat.reduceSub, Nat.zero_add, and_true, true_and, and_self, exists_and_left, exists_const, Bool.false_eq_true, if_false, if_true, ite_true, ite_false, reduceIte, decide_eq_true_eq, reduceCtorEq, Nat.reduceAdd, Nat.reduceLT]
      refine ⟨_, .of f1, _, rfl, _, rfl, .inr ⟨by decide, by decide⟩, .inr ⟨by decide, by decide⟩, by decide, _, f1, 0, rfl, _, .of upd_same, _, rfl, _, rfl, _, upd_same, 2, rfl, _, .of upd_same, _, rfl, _, rfl, ⟨by decide, by decide⟩, h0, ?_⟩
      refine q _ _ (s1.trans (((Ext.refl _ _).put (.inr (.inl rfl))).put (.inr (.inl rfl)))) ⟨_, _, cs, upd_same, by rw [upd_ne hne.symm, upd_ne hne.symm]; exact f2, Int.emod_nonneg _ (by decide), Int.emod_lt_of_pos _ (by decide), by omega, hc⟩ (Int.emod_nonneg _ (by omega)) (Int.emod_lt_of_pos _ h0)
theorem SrcOk.put {H : Hp} {h l D : Addr} {o : HO} (s : SrcOk H h l) (n1 : D ≠ h) (n2 : D ≠ l) : SrcOk (upd H D o) h l := by
  obtain ⟨m, p, cs, e1, e2, r⟩ := s
  exact ⟨m, p, cs, by rw [upd_ne n1.symm]; exact e1, by rw [upd_ne n2.symm]; exact e2, r⟩
theorem SrcOk.neD {H : Hp} {h l D : Addr} (s : SrcOk H h l) (n : H D = none) : D ≠ h ∧ D ≠ l := by
  obtain ⟨m, p, cs, e1, e2, r⟩ := s
  exact ⟨(ne_of_none e1 n).symm, (ne_of_none e2 n).symm⟩
theorem SrcOk.new {H : Hp} {h l D : Addr} {o : HO} (s : SrcOk H h l) (n : H D = none) : SrcOk (upd H D o) h l := s.put (s.neD n).1 (s.neD n).2
theorem Ext.new {S : Addr → Prop} {H H1 : Hp} {p : Addr} {o : HO} (s : Ext S H H1) (n : H1 p = none) (hS : ¬ S p) : Ext S H (upd H1 p o) := s.put (.inl (s.free hS n))
theorem SrcOk.nD {H : Hp} {h l D : Addr} (s : SrcOk H h l) (n : H D = none) : ¬ DrS h l D := fun z => z.elim (s.neD n).1 (s.neD n).2
theorem SrcOk.same {H H' : Hp} {h l : Addr} (s : SrcOk H h l) (e : Same H H') : SrcOk H' h l := by
  obtain ⟨m, pp, cs, e1, e2, r⟩ := s
  exact ⟨m, pp, cs, e _ _ e1, e _ _ e2, r⟩
theorem SrcOk.off {H : Hp} {h l D : Addr} (s : SrcOk H h l) (n1 : D ≠ h) (n2 : D ≠ l) : SrcOk (offA D H) h l := by
  obtain ⟨m, pp, cs, e1, e2, r⟩ := s
  exact ⟨m, pp, cs, by rw [offA_ne n1.symm]; exact e1, by rw [offA_ne n2.symm]; exact e2, r⟩
theorem SrcOk.tups {H H' : Hp} {h l : Addr} (s : SrcOk H h l) (e : Ext (DrS h l) H H') : ∀ t x, H t = some (.tup x) → H' t = some (.tup x) := fun t x ht => by
  obtain ⟨m, pp, cs, e1, e2, r⟩ := s
  refine e t _ (fun z => ?_) ht
  rcases z with z | z
  · rw [z, e1] at ht; cases ht
  · rw [z, e2] at ht; cases ht
end
end Hk

set_option Elab.async false
set_option linter.all false
set_option maxRecDepth 100000
set_option maxHeartbeats 4000000
namespace Hk
open PySem PySem.Spec PyProof.Rows L2
open TL
section
variable {P : Program} {w : World} {K : PySem.W.Frag} {mg : Str → Option Value} {base : Heap}
def sp_law_word : Sp := fun vs H Q _ => ∃ (h l : Addr), vs = [.ref h] ∧ SrcOk H h l ∧
  ∀ H' (w : Str), Ext (DrS h l) H H' → SrcOk H' h l → isWord w = true → Q (.str w) H'
theorem G_law_word (T : Tx K mg) : Glob P w K mg base (CX0) 2 "_law_word" p_law_word [] sp_law_word := by
  obtain ⟨fd, F⟩ := T.f_law_word
  refine ⟨_, fd, [], F.ok sc_law_word (fun vs H Q E h => ?_) (fun cdv A outer s H vs Q E hr h => ?_), T.g__law_word, F.kp, .nil, F.bindsN fun _ _ _ _ _ _ us hl => match us, hl with | [_], _ => rfl⟩
  · obtain ⟨h, l, rfl, _⟩ := h; rfl
  · obtain ⟨h, l, rfl, hS, q⟩ := h
    refine ⟨_, PSs.nox (pss_one (ps_ret (pe_joinK (K := K) rfl pe_str (pe_lc (own := [("_law_k", 1)]) (g := (gName 1)) (tt := tYes) rfl sc_law_word.nd (pi_range1 (by rfl) T.b_range (pa_cons (pe_op op_add pe_int (pe_callG (G_law_next T) (hr.mono (by decide)) (by rfl) pass0 (pa_cons (pv 0) (pa_cons pe_int pa_nil)))) pa_nil)) (blkOk_by (by kernel_rfl)) (fun _ _ _ _ _ => (pg_name (i := 1) sc_law_word.nd rfl (Or.inl rfl))) (fun _ _ _ _ _ => pts_nil) (fun _ _ _ _ _ => (pe_item_str pe_str (pe_callG (G_law_next T) (hr.mono (by decide)) (by rfl) pass0 (pa_cons (pv 0) (pa_cons pe_int pa_nil))) (fun _ _ => rfl))))))), ?_⟩
    simp only [tCutE, false_and, exists_false, false_or, or_false, tRet, tRetN, tAndV, tOrV, tNotV, tChain, rI, rI0, rU, tC, tCB, tCons, tNil, tVar, tOp, tUn, tTest, tB, tAnd, tOr, tNot, tIf, tIfS, tSeq, tAsg, tDrop, tNext, gName, gTup_ref, gCons_cons, gNil_nil, and_assoc, tYes, wipe, rEq, rNe, scal_ss, scal_ii, scal_bb, scal_ns, scal_sn, scal_nn, scal_in, scal_ni, tLc_eq, tFor_eq, iList, iTup, iStr, iRng1, iRng2, iZip, iEnum, gSub, tSl, rSetL_ref, rCat_ref, rRep_ref, rJoin_ref, rSlL_ref, rSlS_ref, rMulS_ref, rIxL_ref, rIxT_ref, rLenK_ref, rAll_ref, rIn_ref, tLst, tTup, tPar, tPar3, tAug, tPart, tNoPart, tCall, List.getElem?_cons_zero, List.getElem?_cons_succ, List.set_cons_zero, List.set_cons_succ, List.map_cons, List.map_nil, List.append_nil, List.nil_append, List.cons_append, Option.some.injEq, exists_eq_left', exists_eq_left, exists_eq_right, exists_eq_right', exists_eq', V.int.injEq, V.str.injEq, V.bl.injEq, V.ref.injEq, List.cons.injEq, tM0, tM1, rNewStrs, sgn_eq, split_dot, split_sp, split_nl, dot_len, sp_len, nl_len, cxOf_K, L2.start, List.length_cons, List.length_nil, List.replicate_succ, List.replicate_zero, Nat.reduceSub, Nat.zero_add, and_true, true_and, and_self, exists_and_left, exists_const, Bool.false_eq_true, if_false, if_true, ite_true, ite_false, reduceIte, decide_eq_true_eq, reduceCtorEq, Nat.reduceAdd, Nat.reduceLT]
    refine ⟨h, l, 4, rfl, hS, by decide, by decide, fun H3 r3 x3 S3 h30 h31 => ⟨_, rfl, by omega, by omega, ?_⟩⟩
    refine lc_acc walk_range (DrS h l) (fun H => SrcOk H h l) (fun i acc => ∃ cs : List Nat, acc = cs.map (fun c => V.str ⟨#[c]⟩) ∧ cs.length = i ∧ ∀ c ∈ cs, c ∈ tl letters) (smallLt (by omega)) (fun D nD => S3.nD nD) ⟨[], rfl, rfl, fun _ h => nomatch h⟩ S3 (fun D H o nD s => s.put (S3.neD nD).1 (S3.neD nD).2) (fun _ _ _ => trivial) (fun j y Hc Hd acc2 R2 hj xc Sc pc hy q0 q1 => ?_) (fun D acc2 Hc nD pc lc xc Sc hD => ?_)
    · obtain ⟨rfl, rfl⟩ := hy
      obtain ⟨cs, rfl, hcl, hcs⟩ := pc
      simp only [tCutE, false_and, exists_false, false_or, or_false, tRet, tRetN, tAndV, tOrV, tNotV, tChain, rI, rI0, rU, tC, tCB, tCons, tNil, tVar, tOp, tUn, tTest, tB, tAnd, tOr, tNot, tIf, tIfS, tSeq, tAsg, tDrop, tNext, gName, gTup_ref, gCons_cons, gNil_nil, and_assoc, tYes, wipe, rEq, rNe, scal_ss, scal_ii, scal_bb, scal_ns, scal_sn, scal_nn, scal_in, scal_ni, tLc_eq, tFor_eq, iList, iTup, iStr, iRng1, iRng2, iZip, iEnum, gSub, tSl, rSetL_ref, rCat_ref, rRep_ref, rJoin_ref, rSlL_ref, rSlS_ref, rMulS_ref, rIxL_ref, rIxT_ref, rLenK_ref, rAll_ref, rIn_ref, tLst, tTup, tPar, tPar3, tAug, tPart, tNoPart, tCall, List.getElem?_cons_zero, List.getElem?_cons_succ, List.set_cons_zero, List.set_cons_succ, List.map_cons, List.map_nil, List.append_nil, List.nil_append, List.cons_append, Option.some.injEq, exists_eq_left', exists_eq_left, exists_eq_right, exists_eq_right', exists_eq', V.int.injEq, V.str.injEq, V.bl.injEq, V.ref.injEq, List.cons.injEq, tM0, tM1, rNewStrs, sgn_eq, split_dot, split_sp, split_nl, dot_len, sp_len, nl_len, cxOf_K, L2.start, List.length_cons, List.length_nil, List.replicate_succ, List.replicate_zero, Nat.reduceSub, Nat.zero_add, and_true, true_and, and_self, exists_and_left, exists_const, Bool.false_eq_true, if_false, if_true, ite_true, ite_false, reduceIte, decide_eq_true_eq, reduceCtorEq, Nat.reduceAdd, Nat.reduceLT]
      refine ⟨h, l, 26, rfl, Sc, by omega, by omega, fun H4 r4 x4 S4 h40 h41 => ⟨_, rfl, h40, by omega, ?_, ?_⟩⟩
      · have : (Str.ofString "abcdefghijklmnopqrstuvwxyz").length = 26 := by decide +kernel
        rw [this]; omega
      · have hll : (tl letters).length = 26 := by decide +kernel
        have hlt : r4.toNat < (tl letters).length := by omega
        have hg : (Str.ofString "abcdefghijklmnopqrstuvwxyz").cps[r4.toNat]? = some (tl letters)[r4.toNat] := by
          rw [← Array.getElem?_toList]
          exact List.getElem?_eq_getElem hlt
        refine ⟨_, hg, q1 _ _ x4 S4 ⟨cs ++ [(tl letters)[r4.toNat]], by rw [List.map_append]; rfl, by rw [List.length_append, hcl]; rfl, fun d hd => ?_⟩⟩
        rcases List.mem_append.mp hd with hd | hd
        · exact hcs d hd
        · rw [List.mem_singleton.mp hd]; exact List.getElem_mem hlt
    · obtain ⟨cs, rfl, hcl, hcs⟩ := pc
      simp only [tCutE, false_and, exists_false, false_or, or_false, tRet, tRetN, tAndV, tOrV, tNotV, tChain, rI, rI0, rU, tC, tCB, tCons, tNil, tVar, tOp, tUn, tTest, tB, tAnd, tOr, tNot, tIf, tIfS, tSeq, tAsg, tDrop, tNext, gName, gTup_ref, gCons_cons, gNil_nil, and_assoc, tYes, wipe, rEq, rNe, scal_ss, scal_ii, scal_bb, scal_ns, scal_sn, scal_nn, scal_in, scal_ni, tLc_eq, tFor_eq, iList, iTup, iStr, iRng1, iRng2, iZip, iEnum, gSub, tSl, rSetL_ref, rCat_ref, rRep_ref, rJoin_ref, rSlL_ref, rSlS_ref, rMulS_ref, rIxL_ref, rIxT_ref, rLenK_ref, rAll_ref, rIn_ref, tLst, tTup, tPar, tPar3, tAug, tPart, tNoPart, tCall, List.getElem?_cons_zero, List.getElem?_cons_succ, List.set_cons_zero, List.set_cons_succ, List.map_cons, List.map_nil, List.append_nil, List.nil_append, List.cons_append, Option.some.injEq, exists_eq_left', exists_eq_left, exists_eq_right, exists_eq_right', exists_eq', V.int.injEq, V.str.injEq, V.bl.injEq, V.ref.injEq, List.cons.injEq, tM0, tM1, rNewStrs, sgn_eq, split_dot, split_sp, split_nl, dot_len, sp_len, nl_len, cxOf_K, L2.start, List.length_cons, List.length_nil, List.replicate_succ, List.replicate_zero, Nat.reduceSub, Nat.zero_add, and_true, true_and, and_self, exists_and_left, exists_const, Bool.false_eq_true, if_false, if_true, ite_true, ite_false, reduceIte, decide_eq_true_eq, reduceCtorEq, Nat.reduceAdd, Nat.reduceLT]
      refine ⟨cs.map fun c => (⟨#[c]⟩ : Str), .inl (.of (by rw [hD, List.map_map]; rfl)), ?_, ?_⟩
      · rw [sum_one, List.length_map]
        have : (Str.ofString "").length = 0 := by decide +kernel
        rw [this]; omega
      · refine q _ _ (x3.trans xc) Sc ?_
        have et := tl_signs cs
        unfold isWord
        have hl1 : (Txt.join (Str.ofString "") (cs.map fun c => (⟨#[c]⟩ : Str))).length = cs.length := by rw [len_tl, et]
        rw [hl1, decide_eq_true (by omega : 1 ≤ cs.length), decide_eq_true (by omega : cs.length ≤ 4), et, Bool.true_and, Bool.true_and, List.all_eq_true]
        exact fun c hc => decide_eq_true (hcs c hc)
def sp_law_row : Sp := fun vs H Q _ => ∃ (h l : Addr), vs = [.ref h] ∧ SrcOk H h l ∧
  ∀ H' (t : Addr) (r : Row), Ext (DrS h l) H H' → SrcOk H' h l → Good r → H t = none → H' t = some (.tup (rowVs r)) → Q (.ref t) H'
theorem G_law_row (T : Tx K mg) : Glob P w K mg base (CX0) 3 "_law_row" p_law_row [] sp_law_row := by
  obtain ⟨fd, F⟩ := T.f_law_row
  refine ⟨_, fd, [], F.ok sc_law_row (fun vs H Q E h => ?_) (fun cdv A outer s H vs Q E hr h => ?_), T.g__law_row, F.kp, .nil, F.bindsN fun _ _ _ _ _ _ us hl => match us, hl with | [_], _ => rfl⟩
  · obtain ⟨h, l, rfl, _⟩ := h; rfl
  · obtain ⟨h, l, rfl, hS, q⟩ := h
    refine ⟨_, PSs.nox (pss_cons (ps_setLc (i := 1) (own := [("_law_k", 2)]) (g := (gName 2)) (tt := tYes) rfl sc_law_row.nd rfl rfl (sw_true rfl rfl rfl (by kernel_rfl)) (pi_range1 (by rfl) T.b_range (pa_cons (pe_callG (G_law_next T) (hr.mono (by decide)) (by rfl) pass0 (pa_cons (pv 0) (pa_cons pe_int pa_nil))) pa_nil)) (blkOk_by (by kernel_rfl)) (fun _ _ _ _ _ => (pg_name (i := 2) sc_law_row.nd rfl (Or.inl rfl))) (fun _ _ _ _ _ => pts_nil) (fun _ _ _ _ _ => (pe_ix (ix_listK (K := K) rfl) (pe_lst (pa_cons pe_str (pa_cons (pe_callG (G_law_word T) (hr.mono (by decide)) (by rfl) pass0 (pa_cons (pv 0) pa_nil)) (pa_cons (pe_callG (G_law_word T) (hr.mono (by decide)) (by rfl) pass0 (pa_cons (pv 0) pa_nil)) pa_nil)))) (pe_callG (G_law_next T) (hr.mono (by decide)) (by rfl) pass0 (pa_cons (pv 0) (pa_cons pe_int pa_nil))) (fun _ _ => rfl))))
      (pss_cutE (ps_set (i := 3) sc_law_row.nd rfl (Or.inl rfl) (pe_ifExp (PW.pt (pw_or (pt_cmpR (op_eqDK (K := K) rfl hr.units) (pv 1) (pe_lst pa_nil) (nomark _)) (pw_or1 (pt_cmpR op_eq (pe_callG (G_law_next T) (hr.mono (by decide)) (by rfl) pass0 (pa_cons (pv 0) (pa_cons pe_int pa_nil))) pe_int (nomark _))))) (pe_joinK (K := K) rfl pe_str (pe_op op_cat (pv 1) (pe_lst (pa_cons pe_str pa_nil)))) (pe_joinK (K := K) rfl pe_str (pv 1))))
      (pss_cutE (ps_set (i := 4) sc_law_row.nd rfl (Or.inl rfl) (pe_ifExp (pt_cmpR op_eq (pe_callG (G_law_next T) (hr.mono (by decide)) (by rfl) pass0 (pa_cons (pv 0) (pa_cons pe_int pa_nil))) pe_int (nomark _)) (pe_callG (G_law_word T) (hr.mono (by decide)) (by rfl) pass0 (pa_cons (pv 0) pa_nil)) pe_str))
      (pss_one (ps_ret (pe_tup (pa_cons (pv 3) (pa_cons (pe_callG (G_law_word T) (hr.mono (by decide)) (by rfl) pass0 (pa_cons (pv 0) pa_nil)) (pa_cons (pe_op op_sub (pe_callG (G_law_next T) (hr.mono (by decide)) (by rfl) pass0 (pa_cons (pv 0) (pa_cons pe_int pa_nil))) pe_int) (pa_cons (pe_cmpR op_eq (pe_callG (G_law_next T) (hr.mono (by decide)) (by rfl) pass0 (pa_cons (pv 0) (pa_cons pe_int pa_nil))) pe_int (nomark _)) (pa_cons (pv 4) pa_nil))))))))))), ?_⟩
    simp only [tCutE, false_and, exists_false, false_or, or_false, tRet, tRetN, tAndV, tOrV, tNotV, tChain, rI, rI0, rU, tC, tCB, tCons, tNil, tVar, tOp, tUn, tTest, tB, tAnd, tOr, tNot, tIf, tIfS, tSeq, tAsg, tDrop, tNext, gName, gTup_ref, gCons_cons, gNil_nil, and_assoc, tYes, wipe, rEq, rNe, scal_ss, scal_ii, scal_bb, scal_ns, scal_sn, scal_nn, scal_in, scal_ni, tLc_eq, tFor_eq, iList, iTup, iStr, iRng1, iRng2, iZip, iEnum, gSub, tSl, rSetL_ref, rCat_ref, rRep_ref, rJoin_ref, rSlL_ref, rSlS_ref, rMulS_ref, rIxL_ref, rIxT_ref, rLenK_ref, rAll_ref, rIn_ref, tLst, tTup, tPar, tPar3, tAug, tPart, tNoPart, tCall, List.getElem?_cons_zero, List.getElem?_cons_succ, List.set_cons_zero, List.set_cons_succ, List.map_cons, List.map_nil, List.append_nil, List.nil_append, List.cons_append, Option.some.injEq, exists_eq_left', exists_eq_left, exists_eq_right, exists_eq_right', exists_eq', V.int.injEq, V.str.injEq, V.bl.injEq, V.ref.injEq, List.cons.injEq, tM0, tM1, rNewStrs, sgn_eq, split_dot, split_sp, split_nl, dot_len, sp_len, nl_len, cxOf_K, L2.start, List.length_cons, List.length_nil, List.replicate_succ, List.replicate_zero, Nat.reduceSub, Nat.zero_add, and_true, true_and, and_self, exists_and_left, exists_const, Bool.false_eq_true, if_false, if_true, ite_true, ite_false, reduceIte, decide_eq_true_eq, reduceCtorEq, Nat.reduceAdd, Nat.reduceLT]
    refine ⟨h, l, 7, rfl, hS, by decide, by decide, fun H1 r1 x1 S1 h10 h11 => ⟨_, rfl, by omega, by omega, ?_⟩⟩
    refine lc_acc walk_range (DrS h l) (fun H => SrcOk H h l) (fun i acc => ∃ ws : List Str, acc = ws.map V.str ∧ ws.length = i ∧ ∀ w ∈ ws, starOr w = true) (smallLt (by omega)) (fun D nD => S1.nD nD) ⟨[], rfl, rfl, fun _ h => nomatch h⟩ S1 (fun D H o nD s => s.put (S1.neD nD).1 (S1.neD nD).2) (fun _ _ _ => trivial) (fun i x Ha Hb acc R hi xa Sa pa hy r0 r1 => ?_) (fun D acc Ha nD pa la xa Sa hD => ?_)
    · obtain ⟨rfl, rfl⟩ := hy
      obtain ⟨ws, rfl, hw, hws⟩ := pa
      simp only [tCutE, false_and, exists_false, false_or, or_false, tRet, tRetN, tAndV, tOrV, tNotV, tChain, rI, rI0, rU, tC, tCB, tCons, tNil, tVar, tOp, tUn, tTest, tB, tAnd, tOr, tNot, tIf, tIfS, tSeq, tAsg, tDrop, tNext, gName, gTup_ref, gCons_cons, gNil_nil, and_assoc, tYes, wipe, rEq, rNe, scal_ss, scal_ii, scal_bb, scal_ns, scal_sn, scal_nn, scal_in, scal_ni, tLc_eq, tFor_eq, iList, iTup, iStr, iRng1, iRng2, iZip, iEnum, gSub, tSl, rSetL_ref, rCat_ref, rRep_ref, rJoin_ref, rSlL_ref, rSlS_ref, rMulS_ref, rIxL_ref, rIxT_ref, rLenK_ref, rAll_ref, rIn_ref, tLst, tTup, tPar, tPar3, tAug, tPart, tNoPart, tCall, List.getElem?_cons_zero, List.getElem?_cons_succ, List.set_cons_zero, List.set_cons_succ, List.map_cons, List.map_nil, List.append_nil, List.nil_append, List.cons_append, Option.some.injEq, exists_eq_left', exists_eq_left, exists_eq_right, exists_eq_right', exists_eq', V.int.injEq, V.str.injEq, V.bl.injEq, V.ref.injEq, List.cons.injEq, tM0, tM1, rNewStrs, sgn_eq, split_dot, split_sp, split_nl, dot_len, sp_len, nl_len, cxOf_K, L2.start, List.length_cons, List.length_nil, List.replicate_succ, List.replicate_zero, Nat.reduceSub, Nat.zero_add, and_true, true_and, and_self, exists_and_left, exists_const, Bool.false_eq_true, if_false, if_true, ite_true, ite_false, reduceIte, decide_eq_true_eq, reduceCtorEq, Nat.reduceAdd, Nat.reduceLT]
      refine ⟨h, l, rfl, Sa, fun H2 w1 x2 S2 g1 => ⟨h, l, rfl, S2, fun H3 w2 x3 S3 g2 => ⟨by decide, fun t ht => ?_⟩⟩⟩
      have St := S3.new (o := .lst [.str ("*" : Str), .str w1, .str w2]) ht
      have xt : Ext (DrS h l) H3 (upd H3 t (.lst [.str ("*" : Str), .str w1, .str w2])) := (Ext.refl _ _).new ht (S3.nD ht)
      refine ⟨h, l, 3, rfl, St, by decide, by decide, fun H4 r4 x4 S4 h40 h41 => ?_⟩
      have hk : ∃ w : Str, starOr w = true ∧ atI [V.str ("*" : Str), .str w1, .str w2] r4 = some (.str w) := by
        rcases (show r4 = 0 ∨ r4 = 1 ∨ r4 = 2 by omega) with e | e | e
        · rw [e]; exact ⟨("*" : Str), by decide +kernel, rfl⟩
        · rw [e]; exact ⟨w1, word_star g1, rfl⟩
        · rw [e]; exact ⟨w2, word_star g2, rfl⟩
      obtain ⟨w, hw1, hw2⟩ := hk
      refine ⟨t, _, r4, .str w, rfl, rfl, .of (x4 _ _ (S3.nD ht) upd_same), hw2, r1 _ _ (((x2.trans x3).trans xt).trans x4) S4 ⟨ws ++ [w], by rw [List.map_append]; rfl, by rw [List.length_append, hw]; rfl, fun u hu => ?_⟩⟩
      rcases List.mem_append.mp hu with hu | hu
      · exact hws u hu
      · rw [List.mem_singleton.mp hu]; exact hw1
    · obtain ⟨ws, rfl, hw, hws⟩ := pa
      simp only [tCutE, false_and, exists_false, false_or, or_false, tRet, tRetN, tAndV, tOrV, tNotV, tChain, rI, rI0, rU, tC, tCB, tCons, tNil, tVar, tOp, tUn, tTest, tB, tAnd, tOr, tNot, tIf, tIfS, tSeq, tAsg, tDrop, tNext, gName, gTup_ref, gCons_cons, gNil_nil, and_assoc, tYes, wipe, rEq, rNe, scal_ss, scal_ii, scal_bb, scal_ns, scal_sn, scal_nn, scal_in, scal_ni, tLc_eq, tFor_eq, iList, iTup, iStr, iRng1, iRng2, iZip, iEnum, gSub, tSl, rSetL_ref, rCat_ref, rRep_ref, rJoin_ref, rSlL_ref, rSlS_ref, rMulS_ref, rIxL_ref, rIxT_ref, rLenK_ref, rAll_ref, rIn_ref, tLst, tTup, tPar, tPar3, tAug, tPart, tNoPart, tCall, List.getElem?_cons_zero, List.getElem?_cons_succ, List.set_cons_zero, List.set_cons_succ, List.map_cons, List.map_nil, List.append_nil, List.nil_append, List.cons_append, Option.some.injEq, exists_eq_left', exists_eq_left, exists_eq_right, exists_eq_right', exists_eq', V.int.injEq, V.str.injEq, V.bl.injEq, V.ref.injEq, List.cons.injEq, tM0, tM1, rNewStrs, sgn_eq, split_dot, split_sp, split_nl, dot_len, sp_len, nl_len, cxOf_K, L2.start, List.length_cons, List.length_nil, List.replicate_succ, List.replicate_zero, Nat.reduceSub, Nat.zero_add, and_true, true_and, and_self, exists_and_left, exists_const, Bool.false_eq_true, if_false, if_true, ite_true, ite_false, reduceIte, decide_eq_true_eq, reduceCtorEq, Nat.reduceAdd, Nat.reduceLT]
      obtain ⟨R1, hR1⟩ : ∃ R : L2.St → Hp → Prop, ∀ σ H', R σ H' ↔ ∃ pat : Str, σ = [some (.ref h), some (.ref D), none, some (.str pat), none] ∧ Ext (DrS h l) H H' ∧ SrcOk H' h l ∧ isPat pat = true ∧ (pat.length ≤ 100 ∧ ∀ c ∈ tl pat, 33 ≤ c ∧ c ≤ 122) := ⟨_, fun _ _ => Iff.rfl⟩
      obtain ⟨R2, hR2⟩ : ∃ R : L2.St → Hp → Prop, ∀ σ H', R σ H' ↔ ∃ pat g : Str, σ = [some (.ref h), some (.ref D), none, some (.str pat), some (.str g)] ∧ Ext (DrS h l) H H' ∧ SrcOk H' h l ∧ isPat pat = true ∧ (pat.length ≤ 100 ∧ ∀ c ∈ tl pat, 33 ≤ c ∧ c ≤ 122) ∧ (g = ("" : Str) ∨ isWord g = true) := ⟨_, fun _ _ => Iff.rfl⟩
      have xH := x1.trans xa
      have hwl : ws.length ≤ 6 := by omega
      have e1 : (Str.ofString ".").length = 1 := by decide +kernel
      have hw4 : ∀ w ∈ ws, w.length ≤ 4 := fun w hw => (star_signs (hws w hw)).1
      have hsum := sum_le hw4
      have hlD : H D = none := (x1.free (S1.nD nD) nD)
      have hash : ∀ (H5 : Hp), Ext (DrS h l) H H5 → SrcOk H5 h l → H5 D = some (.lst (ws.map V.str)) → 1 ≤ sizeLine ∧ ∀ (p : Addr), H5 p = none → ∃ xs, upd H5 p (HO.lst [V.str (Str.ofString "#")]) D = some (HO.lst xs) ∧ ∃ x_2, upd H5 p (HO.lst [V.str (Str.ofString "#")]) p = some (HO.lst x_2) ∧ xs.length + x_2.length ≤ sizeLine ∧ ∀ (p_1 : Addr), upd H5 p (HO.lst [V.str (Str.ofString "#")]) p_1 = none → ∃ ys : List Str, (SqL K (upd (upd H5 p (HO.lst [V.str (Str.ofString "#")])) p_1 (HO.lst (xs ++ x_2))) p_1 (List.map V.str ys) ∨ SqT K (upd (upd H5 p (HO.lst [V.str (Str.ofString "#")])) p_1 (HO.lst (xs ++ x_2))) p_1 (List.map V.str ys)) ∧ (List.map (fun x => x.length) ys).sum + ys.length * (Str.ofString ".").length ≤ 16777216 ∧ R1 [some (V.ref h), some (V.ref D), none, some (V.str (Txt.join (Str.ofString ".") ys)), none] (upd (upd H5 p (HO.lst [V.str (Str.ofString "#")])) p_1 (HO.lst (xs ++ x_2))) := by
        intro H5 x5 S5 hD5
        refine ⟨by decide, fun p hp => ?_⟩
        have Sp' := S5.new (o := .lst [V.str (Str.ofString "#")]) hp
        have xp : Ext (DrS h l) H (upd H5 p (.lst [V.str (Str.ofString "#")])) := x5.new hp (S5.nD hp)
        have nDp : D ≠ p := ne_of_none hD5 hp
        refine ⟨_, by rw [upd_ne nDp]; exact hD5, _, upd_same, by rw [List.length_map]; exact small (by simp; omega), fun u hu => ⟨ws ++ [("#" : Str)], ?_, ?_, ?_⟩⟩
        · rw [List.map_append]; exact .inl (.of upd_same)
        · have e2 : Str.length ("#" : Str) = 1 := by decide +kernel
          rw [List.map_append, List.sum_append, List.length_append, e1]
          simp only [List.map_cons, List.map_nil, List.sum_cons, List.sum_nil, e2, List.length_singleton]
          omega
        · refine (hR1 _ _).mpr ⟨_, rfl, xp.new hu (Sp'.nD hu), Sp'.new hu, isPat_hash hwl hws, ?_, pat_signs fun u hu => by
            rcases List.mem_append.mp hu with hu | hu
            · exact .inl (hws u hu)
            · exact .inr (List.mem_singleton.mp hu)⟩
          have := joinD_len (k := 4) (ws := ws ++ [("#" : Str)]) fun w hw => by
            rcases List.mem_append.mp hw with hw | hw
            · exact hw4 w hw
            · rw [List.mem_singleton.mp hw]; decide +kernel
          rw [List.length_append, List.length_singleton] at this
          show (Txt.join "." (ws ++ [("#" : Str)])).length ≤ 100
          omega
      refine ⟨by decide, R1, fun p hp => ?_, fun σ' H' h' => ⟨R2, ?_, fun σ2 H2 h2 => ?_⟩⟩
      · generalize hH5 : upd Ha p _ = H5
        obtain ⟨s5, fp⟩ := newF hH5 hp
        have S5 : SrcOk H5 h l := by rw [← hH5]; exact Sa.new hp
        have x5 : Ext (DrS h l) H H5 := xH.trans (.of_same s5)
        have hD5 := s5 _ _ hD
        have hso : ∀ z ∈ ws, PyData.strOk z = true := fun z hz => strOk_iff.mpr fun c hc => by
          rcases (star_signs (hws z hz)).2.1 c hc with e | e <;> omega
        refine ⟨.list (ws.map PyData.str), .list [], .lst (.of hD5) (dpAll_map fun a _ => .str _), .lst (.of fp) .nil, shaped_strs hso, by decide, _, rfl, ?_⟩
        rw [eqv_nil, List.isEmpty_map]
        by_cases hwe : ws = []
        · refine ifP (by rw [hwe]; rfl) (hash H5 x5 S5 hD5)
        · refine ifN (by simp [hwe]) ⟨h, l, 3, rfl, S5, by decide, by decide, fun H6 r6 x6 S6 h60 h61 => ⟨rfl, ?_⟩⟩
          have hD6 := x6 _ _ (S1.nD nD) hD5
          by_cases hr6 : r6 = 0
          · exact ifP (by rw [hr6]) (hash H6 (x5.trans x6) S6 hD6)
          · refine ifN (by simp [hr6]) ⟨ws, .inl (.of hD6), by rw [e1]; omega, (hR1 _ _).mpr ⟨_, rfl, x5.trans x6, S6, isPat_join hwe hwl hws, ?_, pat_signs fun u hu => .inl (hws u hu)⟩⟩
            have := joinD_len hw4
            show (Txt.join "." ws).length ≤ 100
            omega
      · obtain ⟨pat, rfl, x5, S5, gp, lp⟩ := (hR1 _ _).mp h'
        refine ⟨_, rfl, h, l, 2, rfl, S5, by decide, by decide, fun H6 r6 x6 S6 h60 h61 => ⟨rfl, ?_⟩⟩
        by_cases hr6 : r6 = 0
        · refine ifP (by rw [hr6]) ⟨_, rfl, h, l, rfl, S6, fun H7 w x7 S7 gw => (hR2 _ _).mpr ⟨pat, w, rfl, (x5.trans x6).trans x7, S7, gp, lp, .inr gw⟩⟩
        · exact ifN (by simp [hr6]) ((hR2 _ _).mpr ⟨pat, _, rfl, x5.trans x6, S6, gp, lp, .inl rfl⟩)
      · obtain ⟨pat, g, rfl, x5, S5, gp, lp, hg⟩ := (hR2 _ _).mp h2
        refine ⟨_, rfl, _, rfl, h, l, rfl, S5, fun H6 nm x6 S6 gn => ⟨_, rfl, h, l, 19, rfl, S6, by decide, by decide, fun H7 rk x7 S7 h70 h71 => ⟨_, rfl, _, rfl, h, l, 2, rfl, S7, by decide, by decide, fun H8 oo x8 S8 h80 h81 => ⟨rfl, _, rfl, by decide, fun t ht => ?_⟩⟩⟩⟩
        have x9 := ((x5.trans x6).trans x7).trans x8
        exact q _ t ⟨pat, nm, rk - 9, decide (V.int oo = V.int 0), g⟩ (x9.new ht (S8.nD ht)) (S8.new ht) ⟨gp, gn, by show -9 ≤ rk - 9; omega, by show rk - 9 ≤ 9; omega, hg, lp.1, lp.2⟩ (x9.free (S8.nD ht) ht) upd_same
end
end Hk

set_option Elab.async false
set_option linter.all false
set_option maxRecDepth 100000
set_option maxHeartbeats 4000000
namespace Hk
open PySem PySem.Spec PyProof.Rows L2
open TL
section
variable {P : Program} {w : World} {K : PySem.W.Frag} {mg : Str → Option Value} {base : Heap}
theorem Good.data {r : Row} (g : Good r) : (rowD r).canLay0 = true ∧ (rowD r).depth ≤ 1 ∧ smallD (rowD r) = true := by
  have h1 : PyData.strOk r.p = true := strOk_iff.mpr fun c hc => by have := g.ps c hc; omega
  have h2 : PyData.strOk r.n = true := strOk_iff.mpr fun c hc => by have := (word_signs g.n).2.2 c hc; omega
  have h3 : PyData.strOk r.g = true := by
    rcases g.g with e | e
    · rw [e]; decide +kernel
    · exact strOk_iff.mpr fun c hc => by have := (word_signs e).2.2 c hc; omega
  refine ⟨?_, ?_, ?_⟩
  · simp only [rowD, PyData.canLay0, PyData.canLayAll0, h1, h2, h3, Bool.and_self, Bool.and_true]
  · simp only [rowD, PyData.depth, PyData.depthAll]; decide
  · simp only [rowD, smallD, smallAll]; rfl
theorem rowsT_dp {H : Hp} {ts : List Addr} {rs : List Row} (h : TupsAt H ts (rs.map rowVs)) : DpAll K H (ts.map V.ref) (rs.map rowD) := h.dp fun _ _ e => rowD_dp (.of e)
theorem rows_shaped {rs : List Row} (g : ∀ r ∈ rs, Good r) : SeqAt.shaped (.list (rs.map rowD)) = true := shaped_list 1 (by decide) fun d hd => by
  obtain ⟨r, hr, rfl⟩ := List.mem_map.mp hd
  exact ⟨(g r hr).data.1, (g r hr).data.2.1⟩
theorem rows_can {rs : List Row} (g : ∀ r ∈ rs, Good r) : (PyData.list (rs.map rowD)).canLay0 = true := by
  simp only [PyData.canLay0]
  exact canAll_of fun d hd => by
    obtain ⟨r, hr, rfl⟩ := List.mem_map.mp hd
    exact (g r hr).data.1
theorem rows_depth {rs : List Row} (g : ∀ r ∈ rs, Good r) : (PyData.list (rs.map rowD)).depth < 8 := by
  have := depthAll_of (k := 1) (ds := rs.map rowD) fun d hd => by
    obtain ⟨r, hr, rfl⟩ := List.mem_map.mp hd
    exact (g r hr).data.2.1
  simp only [PyData.depth]
  omega
theorem rows_small {rs : List Row} (hl : rs.length ≤ 9) (g : ∀ r ∈ rs, Good r) : smallD (.list (rs.map rowD)) = true := smallL_of (by rw [List.length_map]; omega) fun d hd => by
  obtain ⟨r, hr, rfl⟩ := List.mem_map.mp hd
  exact (g r hr).data.2.2
def sp_law (K : PySem.W.Frag) : Sp := fun vs H Q _ => ∃ (a : Addr) (ns : List Int), vs = [.ref a] ∧ SqL K H a (ns.map V.int) ∧ ns.length ≤ 63 ∧ ∀ H', Q (.bl true) H'
theorem F_law_ok (T : Tx K mg) {f : Addr} {fd : FuncData} (F : F_law K f fd) : FnOk P w K mg base CX0 10 f fd p_law (sp_law K) := by
  refine F.ok sc_law (fun vs H Q E h => ?_) (fun cdv A outer s H vs Q E hr h => ?_)
  · obtain ⟨a, ns, rfl, _⟩ := h; rfl
  · obtain ⟨a, ns, rfl, hS, hn, q⟩ := h
    refine ⟨_, PSs.nox (pss_cons (ps_set (i := 1) sc_law.nd rfl (Or.inr rfl) (pe_callG (G_law_mix T) (hr.mono (by decide)) (by rfl) pass0 (pa_cons (pv 0) (pa_cons pe_int pa_nil))))
      (pss_cons (ps_for PassesOwn.never rfl (pi_range1 (by rfl) T.b_range (pa_cons pe_int pa_nil)) (pg_name (i := 2) sc_law.nd rfl (Or.inl rfl))
      (pss_cutE (ps_setLc (i := 3) (own := [("_law_k", 4)]) (g := (gName 4)) (tt := tYes) rfl sc_law.nd rfl rfl (sw_true rfl rfl rfl (by kernel_rfl)) (pi_range1 (by rfl) T.b_range (pa_cons (pe_callG (G_law_next T) (hr.mono (by decide)) (by rfl) pass0 (pa_cons (pv 1) (pa_cons pe_int pa_nil))) pa_nil)) (blkOk_by (by kernel_rfl)) (fun _ _ _ _ _ => (pg_name (i := 4) sc_law.nd rfl (Or.inl rfl))) (fun _ _ _ _ _ => pts_nil) (fun _ _ _ _ _ => (pe_callG (G_law_row T) (hr.mono (by decide)) (by rfl) pass0 (pa_cons (pv 1) pa_nil))))
      (pss_cutE (ps_set (i := 5) sc_law.nd rfl (Or.inl rfl) (pe_joinK (K := K) rfl pe_str (pe_lc (own := [("_law_row_here", 6)]) (g := (gName 6)) (tt := tYes) rfl sc_law.nd (pi_listK (K := K) rfl (pv 3)) (blkOk_by (by kernel_rfl)) (fun _ _ _ _ _ => (pg_name (i := 6) sc_law.nd rfl (Or.inl rfl))) (fun _ _ _ _ _ => pts_nil) (fun _ _ _ _ _ => (pe_callG (G_law_text T) (hr.mono (by decide)) (by rfl) pass0 (pa_cons (pv 6) pa_nil))))))
      (pss_cutE (ps_set (i := 7) sc_law.nd rfl (Or.inl rfl) (pe_callTy (call_list_ofK (K := K) rfl) (by rfl) T.b_list (by decide +kernel) (pa_cons (pv 3) pa_nil)))
      (pss_cons (ps_if (PW.pt (pw_or (pt_cmpR op_ne (pe_callG (G_written T) (hr.mono (by decide)) (by rfl) pass0 (pa_cons (pv 7) pa_nil)) (pv 5) (nomark _)) (pw_or1 (pt_cmpR (op_neDK (K := K) rfl hr.units) (pv 7) (pv 3) (nomark _)))))
      (pss_one (ps_ret pe_bl))
      pss_nil)
      (pss_one (ps_for PassesOwn.never rfl (pi_range1 (by rfl) T.b_range (pa_cons pe_int pa_nil)) (pg_name (i := 8) sc_law.nd rfl (Or.inl rfl))
      (pss_cons (ps_set (i := 9) sc_law.nd rfl (Or.inl rfl) (pe_callG (G_read T) (hr.mono (by decide)) (by rfl) pass0 (pa_cons (pv 5) pa_nil)))
      (pss_cons (ps_if (pt_not (pt_val (pe_callG (G_law_alike T 8) (hr.mono (by decide)) (by rfl) pass0 (pa_cons (pv 9) (pa_cons (pv 3) pa_nil)))))
      (pss_one (ps_ret pe_bl))
      pss_nil)
      (pss_one (ps_expr (pe_bmK (K := K) rfl PySem.F.plainAttrs_list PySem.F.slot_list_append PySem.F.type_list_append mt_append (pv 9) (pa_cons pe_int pa_nil)))))))))))))
      (pss_one (ps_ret (pe_and (pe_cmpR (op_eqDK (K := K) rfl hr.units) (pe_callG (G_read T) (hr.mono (by decide)) (by rfl) pass0 (pa_cons pe_str pa_nil)) (pe_lst pa_nil) (nomark _)) (pe_one (pe_cmpR op_eq (pe_callG (G_written T) (hr.mono (by decide)) (by rfl) pass0 (pa_cons (pe_lst pa_nil) pa_nil)) pe_str (nomark _)))))))), ?_⟩
    simp only [tCutE, false_and, exists_false, false_or, or_false, tRet, tRetN, tAndV, tOrV, tNotV, tChain, rI, rI0, rU, tC, tCB, tCons, tNil, tVar, tOp, tUn, tTest, tB, tAnd, tOr, tNot, tIf, tIfS, tSeq, tAsg, tDrop, tNext, gName, gTup_ref, gCons_cons, gNil_nil, and_assoc, tYes, wipe, rEq, rNe, scal_ss, scal_ii, scal_bb, scal_ns, scal_sn, scal_nn, scal_in, scal_ni, tLc_eq, tFor_eq, iList, iTup, iStr, iRng1, iRng2, iZip, iEnum, gSub, tSl, rSetL_ref, rCat_ref, rRep_ref, rJoin_ref, rSlL_ref, rSlS_ref, rMulS_ref, rIxL_ref, rIxT_ref, rLenK_ref, rAll_ref, rIn_ref, tLst, tTup, tPar, tPar3, tAug, tPart, tNoPart, tCall, List.getElem?_cons_zero, List.getElem?_cons_succ, List.set_cons_zero, List.set_cons_succ, List.map_cons, List.map_nil, List.append_nil, List.nil_append, List.cons_append, Option.some.injEq, exists_eq_left', exists_eq_left, exists_eq_right, exists_eq_right', exists_eq', V.int.injEq, V.str.injEq, V.bl.injEq, V.ref.injEq, List.cons.injEq, tM0, tM1, rNewStrs, sgn_eq, split_dot, split_sp, split_nl, dot_len, sp_len, nl_len, cxOf_K, L2.start, List.length_cons, List.length_nil, List.replicate_succ, List.replicate_zero, Nat.reduceSub, Nat.zero_add, and_true, true_and, and_self, exists_and_left, exists_const, Bool.false_eq_true, if_false, if_true, ite_true, ite_false, reduceIte, decide_eq_true_eq, reduceCtorEq, Nat.reduceAdd, Nat.reduceLT]
    refine ⟨a, ns, 71, rfl, hS, hn, by decide, by decide, fun H1 h l s1 hh hl S1 => ?_⟩
    simp only [tCutE, false_and, exists_false, false_or, or_false, tRet, tRetN, tAndV, tOrV, tNotV, tChain, rI, rI0, rU, tC, tCB, tCons, tNil, tVar, tOp, tUn, tTest, tB, tAnd, tOr, tNot, tIf, tIfS, tSeq, tAsg, tDrop, tNext, gName, gTup_ref, gCons_cons, gNil_nil, and_assoc, tYes, wipe, rEq, rNe, scal_ss, scal_ii, scal_bb, scal_ns, scal_sn, scal_nn, scal_in, scal_ni, tLc_eq, tFor_eq, iList, iTup, iStr, iRng1, iRng2, iZip, iEnum, gSub, tSl, rSetL_ref, rCat_ref, rRep_ref, rJoin_ref, rSlL_ref, rSlS_ref, rMulS_ref, rIxL_ref, rIxT_ref, rLenK_ref, rAll_ref, rIn_ref, tLst, tTup, tPar, tPar3, tAug, tPart, tNoPart, tCall, List.getElem?_cons_zero, List.getElem?_cons_succ, List.set_cons_zero, List.set_cons_succ, List.map_cons, List.map_nil, List.append_nil, List.nil_append, List.cons_append, Option.some.injEq, exists_eq_left', exists_eq_left, exists_eq_right, exists_eq_right', exists_eq', V.int.injEq, V.str.injEq, V.bl.injEq, V.ref.injEq, List.cons.injEq, tM0, tM1, rNewStrs, sgn_eq, split_dot, split_sp, split_nl, dot_len, sp_len, nl_len, cxOf_K, L2.start, List.length_cons, List.length_nil, List.replicate_succ, List.replicate_zero, Nat.reduceSub, Nat.zero_add, and_true, true_and, and_self, exists_and_left, exists_const, Bool.false_eq_true, if_false, if_true, ite_true, ite_false, reduceIte, decide_eq_true_eq, reduceCtorEq, Nat.reduceAdd, Nat.reduceLT]
    obtain ⟨Pv, hPv⟩ : ∃ Pv : Nat → L2.St → Hp → Prop, ∀ i σ H', Pv i σ H' ↔ ∃ c d e f g k m o, σ = [some (.ref a), some (.ref h), c, d, e, f, g, k, m, o] ∧ SrcOk H' h l := ⟨_, fun _ _ _ => Iff.rfl⟩
    refine ⟨by decide, by decide, forG walk_range Pv ((hPv _ _ _).mpr ⟨_, _, _, _, _, _, _, _, rfl, S1⟩) (fun _ _ _ _ _ => trivial) (fun i x σ Ha Hb hi hP hy => ?_) (fun σ Ha hP => ?_)⟩
    · obtain ⟨rfl, rfl⟩ := hy
      obtain ⟨c, d, e, f, g, k, m, o, rfl, Sa⟩ := (hPv _ _ _).mp hP
      simp only [tCutE, false_and, exists_false, false_or, or_false, tRet, tRetN, tAndV, tOrV, tNotV, tChain, rI, rI0, rU, tC, tCB, tCons, tNil, tVar, tOp, tUn, tTest, tB, tAnd, tOr, tNot, tIf, tIfS, tSeq, tAsg, tDrop, tNext, gName, gTup_ref, gCons_cons, gNil_nil, and_assoc, tYes, wipe, rEq, rNe, scal_ss, scal_ii, scal_bb, scal_ns, scal_sn, scal_nn, scal_in, scal_ni, tLc_eq, tFor_eq, iList, iTup, iStr, iRng1, iRng2, iZip, iEnum, gSub, tSl, rSetL_ref, rCat_ref, rRep_ref, rJoin_ref, rSlL_ref, rSlS_ref, rMulS_ref, rIxL_ref, rIxT_ref, rLenK_ref, rAll_ref, rIn_ref, tLst, tTup, tPar, tPar3, tAug, tPart, tNoPart, tCall, List.getElem?_cons_zero, List.getElem?_cons_succ, List.set_cons_zero, List.set_cons_succ, List.map_cons, List.map_nil, List.append_nil, List.nil_append, List.cons_append, Option.some.injEq, exists_eq_left', exists_eq_left, exists_eq_right, exists_eq_right', exists_eq', V.int.injEq, V.str.injEq, V.bl.injEq, V.ref.injEq, List.cons.injEq, tM0, tM1, rNewStrs, sgn_eq, split_dot, split_sp, split_nl, dot_len, sp_len, nl_len, cxOf_K, L2.start, List.length_cons, List.length_nil, List.replicate_succ, List.replicate_zero, Nat.reduceSub, Nat.zero_add, and_true, true_and, and_self, exists_and_left, exists_const, Bool.false_eq_true, if_false, if_true, ite_true, ite_false, reduceIte, decide_eq_true_eq, reduceCtorEq, Nat.reduceAdd, Nat.reduceLT]
      obtain ⟨R1, hR1⟩ : ∃ R : L2.St → Hp → Prop, ∀ σ H', R σ H' ↔ ∃ (D : Addr) (ts : List Addr) (rs : List Row), σ = [some (.ref a), some (.ref h), some (.int (0 + (i : Int))), some (.ref D), e, f, g, k, m, o] ∧ SrcOk H' h l ∧ H' D = some (.lst (ts.map V.ref)) ∧ TupsAt H' ts (rs.map rowVs) ∧ (∀ r ∈ rs, Good r) ∧ rs.length ≤ 9 := ⟨_, fun _ _ => Iff.rfl⟩
      refine ⟨R1, ?_, fun σ1 H1 h1 => ?_⟩
      · refine ⟨h, l, 10, rfl, Sa, by decide, by decide, fun H2 r2 x2 S2 h20 h21 => ⟨_, rfl, by omega, by omega, ?_⟩⟩
        refine lc_accH walk_range (DrS h l) (fun i acc H => SrcOk H h l ∧ ∃ (ts : List Addr) (rs : List Row), acc = ts.map V.ref ∧ TupsAt H ts (rs.map rowVs) ∧ (∀ r ∈ rs, Good r) ∧ rs.length = i) (smallLt (by omega)) (fun D nD => S2.nD nD) ⟨S2, [], [], rfl, trivial, (fun _ h => nomatch h), rfl⟩ (fun _ _ _ _ _ _ _ => trivial) (fun D j x Hc Hd acc R hD1 hDc hj xc Jc hy q0 q1 => ?_) (fun D acc Hc hD1 hl xc Jc hDc => ?_)
        · obtain ⟨rfl, rfl⟩ := hy
          obtain ⟨Sc, ts, rs, rfl, ht, hg, hrl⟩ := Jc
          have Sd := Sc.same offA_same
          simp only [tCutE, false_and, exists_false, false_or, or_false, tRet, tRetN, tAndV, tOrV, tNotV, tChain, rI, rI0, rU, tC, tCB, tCons, tNil, tVar, tOp, tUn, tTest, tB, tAnd, tOr, tNot, tIf, tIfS, tSeq, tAsg, tDrop, tNext, gName, gTup_ref, gCons_cons, gNil_nil, and_assoc, tYes, wipe, rEq, rNe, scal_ss, scal_ii, scal_bb, scal_ns, scal_sn, scal_nn, scal_in, scal_ni, tLc_eq, tFor_eq, iList, iTup, iStr, iRng1, iRng2, iZip, iEnum, gSub, tSl, rSetL_ref, rCat_ref, rRep_ref, rJoin_ref, rSlL_ref, rSlS_ref, rMulS_ref, rIxL_ref, rIxT_ref, rLenK_ref, rAll_ref, rIn_ref, tLst, tTup, tPar, tPar3, tAug, tPart, tNoPart, tCall, List.getElem?_cons_zero, List.getElem?_cons_succ, List.set_cons_zero, List.set_cons_succ, List.map_cons, List.map_nil, List.append_nil, List.nil_append, List.cons_append, Option.some.injEq, exists_eq_left', exists_eq_left, exists_eq_right, exists_eq_right', exists_eq', V.int.injEq, V.str.injEq, V.bl.injEq, V.ref.injEq, List.cons.injEq, tM0, tM1, rNewStrs, sgn_eq, split_dot, split_sp, split_nl, dot_len, sp_len, nl_len, cxOf_K, L2.start, List.length_cons, List.length_nil, List.replicate_succ, List.replicate_zero, Nat.reduceSub, Nat.zero_add, and_true, true_and, and_self, exists_and_left, exists_const, Bool.false_eq_true, if_false, if_true, ite_true, ite_false, reduceIte, decide_eq_true_eq, reduceCtorEq, Nat.reduceAdd, Nat.reduceLT]
          refine ⟨h, l, rfl, Sd, fun H3 t r x3 S3 gr ht0 ht3 => ?_⟩
          have nDt : D ≠ t := ne_of_none hDc ht0
          refine q1 _ _ x3 ⟨S3.off (S2.neD hD1).1 (S2.neD hD1).2, ts ++ [t], rs ++ [r], by rw [List.map_append]; rfl, ?_, fun y hy => ?_, by rw [List.length_append, hrl]; rfl⟩
          · rw [List.map_append]
            refine TupsAt.snoc (by rw [offA_ne nDt.symm]; exact ht3) (ht.mono ?_)
            exact Sc.tups (ext_off x3)
          · rcases List.mem_append.mp hy with hy | hy
            · exact hg y hy
            · rw [List.mem_singleton.mp hy]; exact gr
        · obtain ⟨Sc, ts, rs, rfl, ht, hg, hrl⟩ := Jc
          exact (hR1 _ _).mpr ⟨D, ts, rs, rfl, Sc.same offA_same, hDc, ht.mono fun t x e => offA_same _ _ e, hg, by omega⟩
      · obtain ⟨D, ts, rs, rfl, S1, hD, ht, hg, hrl⟩ := (hR1 _ _).mp h1
        have htl := ht.len
        rw [List.length_map] at htl
        obtain ⟨R2, hR2⟩ : ∃ R : L2.St → Hp → Prop, ∀ σ H', R σ H' ↔ σ = [some (.ref a), some (.ref h), some (.int (0 + (i : Int))), some (.ref D), e, some (.str (rowsText rs)), g, k, m, o] ∧ Same H1 H' := ⟨_, fun _ _ => Iff.rfl⟩
        refine ⟨R2, ⟨_, rfl, D, rfl, ⟨_, .of hD⟩, ?_⟩, fun σ2 H2 h2 => ?_⟩
        · have wk : Walk (Itl K D) (ts.zip rs).length (fun H => SqL K H D (ts.map V.ref)) (fun j H x H' => H' = H ∧ ∃ y, (ts.zip rs)[j]? = some y ∧ x = .ref y.1) := by
            have w := walk_listm (K := K) (a := D) ts V.ref
            have el : (ts.zip rs).length = ts.length := by rw [List.length_zip]; omega
            rw [el]
            refine w.mono (fun H h => h) (fun i H x H' hi _ y => ⟨y.1, ?_⟩)
            obtain ⟨t, e1, e2⟩ := y.2
            have hi2 : i < rs.length := by omega
            refine ⟨(t, rs[i]), List.getElem?_zip_eq_some.mpr ⟨e1, List.getElem?_eq_getElem hi2⟩, e2⟩
          refine lc_map (ts.zip rs) (fun q => V.str (rowText q.2)) wk ?_ (fun H2 s2 => s2.seq (.of hD)) (fun j q x Hc Hd R hx sc hy r => ?_) (fun D2 Hc nD2 sc hD2 => ?_)
          · rw [List.length_zip]; omega
          · obtain ⟨rfl, y, hy, rfl⟩ := hy
            cases Option.some.inj (hx.symm.trans hy)
            have hz := List.getElem?_zip_eq_some.mp hx
            obtain ⟨xv, e1, e2⟩ := ht.get hz.1
            rw [List.getElem?_map, hz.2] at e1
            cases e1
            simp only [tCutE, false_and, exists_false, false_or, or_false, tRet, tRetN, tAndV, tOrV, tNotV, tChain, rI, rI0, rU, tC, tCB, tCons, tNil, tVar, tOp, tUn, tTest, tB, tAnd, tOr, tNot, tIf, tIfS, tSeq, tAsg, tDrop, tNext, gName, gTup_ref, gCons_cons, gNil_nil, and_assoc, tYes, wipe, rEq, rNe, scal_ss, scal_ii, scal_bb, scal_ns, scal_sn, scal_nn, scal_in, scal_ni, tLc_eq, tFor_eq, iList, iTup, iStr, iRng1, iRng2, iZip, iEnum, gSub, tSl, rSetL_ref, rCat_ref, rRep_ref, rJoin_ref, rSlL_ref, rSlS_ref, rMulS_ref, rIxL_ref, rIxT_ref, rLenK_ref, rAll_ref, rIn_ref, tLst, tTup, tPar, tPar3, tAug, tPart, tNoPart, tCall, List.getElem?_cons_zero, List.getElem?_cons_succ, List.set_cons_zero, List.set_cons_succ, List.map_cons, List.map_nil, List.append_nil, List.nil_append, List.cons_append, Option.some.injEq, exists_eq_left', exists_eq_left, exists_eq_right, exists_eq_right', exists_eq', V.int.injEq, V.str.injEq, V.bl.injEq, V.ref.injEq, List.cons.injEq, tM0, tM1, rNewStrs, sgn_eq, split_dot, split_sp, split_nl, dot_len, sp_len, nl_len, cxOf_K, L2.start, List.length_cons, List.length_nil, List.replicate_succ, List.replicate_zero, Nat.reduceSub, Nat.zero_add, and_true, true_and, and_self, exists_and_left, exists_const, Bool.false_eq_true, if_false, if_true, ite_true, ite_false, reduceIte, decide_eq_true_eq, reduceCtorEq, Nat.reduceAdd, Nat.reduceLT]
            exact ⟨q.1, q.2, rfl, sc _ _ e2, hg _ (List.mem_of_getElem? hz.2), r⟩
          · have e1 : (ts.zip rs).map (fun q => V.str (rowText q.2)) = (rs.map rowText).map V.str := by
              rw [List.map_map]
              have : rs = (ts.zip rs).map Prod.snd := by rw [List.map_snd_zip (by omega)]
              conv => rhs; rw [this, List.map_map]
              rfl
            rw [e1] at hD2
            have hs := sum_le (k := 700) (ws := rs.map rowText) fun w hw => by
              obtain ⟨r, hr, rfl⟩ := List.mem_map.mp hw
              exact rowText_len (hg r hr)
            have e2 : (Str.ofString "\n").length = 1 := by decide +kernel
            refine ⟨_, D2, rs.map rowText, rfl, rfl, .inl (.of hD2), ?_, (hR2 _ _).mpr ⟨rfl, sc⟩⟩
            rw [e2]
            rw [List.length_map] at hs ⊢
            omega
        · obtain ⟨rfl, s2⟩ := (hR2 _ _).mp h2
          obtain ⟨R3, hR3⟩ : ∃ R : L2.St → Hp → Prop, ∀ σ H', R σ H' ↔ ∃ D3, σ = [some (.ref a), some (.ref h), some (.int (0 + (i : Int))), some (.ref D), e, some (.str (rowsText rs)), g, some (.ref D3), m, o] ∧ Same H1 H' ∧ H' D3 = some (.lst (ts.map V.ref)) := ⟨_, fun _ _ => Iff.rfl⟩
          refine ⟨R3, ⟨_, rfl, D, _, rfl, .inl (.of (s2 _ _ hD)), fun D3 hD3 => (hR3 _ _).mpr ⟨D3, rfl, same_new s2 hD3, upd_same⟩⟩, fun σ3 H3 h3 => ?_⟩
          obtain ⟨D3, rfl, s3, hD3⟩ := (hR3 _ _).mp h3
          have ht3 : TupsAt H3 ts (rs.map rowVs) := ht.mono fun t x e => s3 _ _ e
          refine ⟨_, rfl, D3, _, rs, rfl, .of hD3, rowsT_dp ht3, by omega, hg, fun H4 s4 => ⟨_, rfl, rfl, ?_⟩⟩
          have s4' := s3.trans s4
          have ht4 : TupsAt H4 ts (rs.map rowVs) := ht.mono fun t x e => s4' _ _ e
          refine ifN (by simp) ⟨_, rfl, _, rfl, .list (rs.map rowD), .list (rs.map rowD), .lst (.of (s4 _ _ hD3)) (rowsT_dp ht4), .lst (.of (s4' _ _ hD)) (rowsT_dp ht4), rows_shaped hg, rows_shaped hg, _, rfl, ?_⟩
          rw [SeqAt.eqv_refl _ (rows_can hg)]
          refine ifN (by simp) ⟨by decide, by decide, ?_⟩
          obtain ⟨Pt, hPt⟩ : ∃ Pv : Nat → L2.St → Hp → Prop, ∀ i' σ H', Pv i' σ H' ↔ (∃ m o, σ = [some (.ref a), some (.ref h), some (.int (0 + (i : Int))), some (.ref D), e, some (.str (rowsText rs)), g, some (.ref D3), m, o]) ∧ Same H4 H' := ⟨_, fun _ _ _ => Iff.rfl⟩
          refine forG walk_range Pt ((hPt _ _ _).mpr ⟨⟨_, _, rfl⟩, Same.refl _⟩) (fun _ _ _ _ _ => trivial) (fun j x σ Hc Hd hj hP hy => ?_) (fun σ Hc hP => ?_)
          · obtain ⟨rfl, rfl⟩ := hy
            obtain ⟨⟨m', o', rfl⟩, s5⟩ := (hPt _ _ _).mp hP
            have s5' := s4'.trans s5
            simp only [tCutE, false_and, exists_false, false_or, or_false, tRet, tRetN, tAndV, tOrV, tNotV, tChain, rI, rI0, rU, tC, tCB, tCons, tNil, tVar, tOp, tUn, tTest, tB, tAnd, tOr, tNot, tIf, tIfS, tSeq, tAsg, tDrop, tNext, gName, gTup_ref, gCons_cons, gNil_nil, and_assoc, tYes, wipe, rEq, rNe, scal_ss, scal_ii, scal_bb, scal_ns, scal_sn, scal_nn, scal_in, scal_ni, tLc_eq, tFor_eq, iList, iTup, iStr, iRng1, iRng2, iZip, iEnum, gSub, tSl, rSetL_ref, rCat_ref, rRep_ref, rJoin_ref, rSlL_ref, rSlS_ref, rMulS_ref, rIxL_ref, rIxT_ref, rLenK_ref, rAll_ref, rIn_ref, tLst, tTup, tPar, tPar3, tAug, tPart, tNoPart, tCall, List.getElem?_cons_zero, List.getElem?_cons_succ, List.set_cons_zero, List.set_cons_succ, List.map_cons, List.map_nil, List.append_nil, List.nil_append, List.cons_append, Option.some.injEq, exists_eq_left', exists_eq_left, exists_eq_right, exists_eq_right', exists_eq', V.int.injEq, V.str.injEq, V.bl.injEq, V.ref.injEq, List.cons.injEq, tM0, tM1, rNewStrs, sgn_eq, split_dot, split_sp, split_nl, dot_len, sp_len, nl_len, cxOf_K, L2.start, List.length_cons, List.length_nil, List.replicate_succ, List.replicate_zero, Nat.reduceSub, Nat.zero_add, and_true, true_and, and_self, exists_and_left, exists_const, Bool.false_eq_true, if_false, if_true, ite_true, ite_false, reduceIte, decide_eq_true_eq, reduceCtorEq, Nat.reduceAdd, Nat.reduceLT]
            have hln := rowsText_len hg
            refine ⟨_, rs, rfl, by omega, rowsText_ok hg, lines_rows hg, fun H6 p vs s6 hp hp6 hd6 => ?_⟩
            have s6' := s5'.trans s6
            have ht6 : TupsAt H6 ts (rs.map rowVs) := ht.mono fun t x e => s6' _ _ e
            refine ⟨_, _, .list (rs.map rowD), rfl, .lst (.of hp6) (dpAll_same offA_same hd6), .lst (.of (s6' _ _ hD)) (rowsT_dp ht6), rows_depth hg, rows_small hrl hg, fun H7 s7 => ⟨_, rfl, ?_⟩⟩
            have hv := dpAll_len hd6
            rw [List.length_map] at hv
            have hp7 := s7 _ _ hp6
            refine ifN (by simp) ⟨_, rfl, .inl ⟨rfl, _, .of hp7⟩, p, vs, .int 0, rfl, rfl, hp7, smallLt (by omega), ?_⟩
            exact (hPt _ _ _).mpr ⟨⟨_, _, rfl⟩, s5.trans (same_put (s6.trans s7) hp)⟩
          · obtain ⟨⟨m', o', rfl⟩, s5⟩ := (hPt _ _ _).mp hP
            exact (hPv _ _ _).mpr ⟨_, _, _, _, _, _, _, _, rfl, S1.same (s4'.trans s5)⟩
    · obtain ⟨c, d, e, f, g, k, m, o, rfl, Sa⟩ := (hPv _ _ _).mp hP
      simp only [tCutE, false_and, exists_false, false_or, or_false, tRet, tRetN, tAndV, tOrV, tNotV, tChain, rI, rI0, rU, tC, tCB, tCons, tNil, tVar, tOp, tUn, tTest, tB, tAnd, tOr, tNot, tIf, tIfS, tSeq, tAsg, tDrop, tNext, gName, gTup_ref, gCons_cons, gNil_nil, and_assoc, tYes, wipe, rEq, rNe, scal_ss, scal_ii, scal_bb, scal_ns, scal_sn, scal_nn, scal_in, scal_ni, tLc_eq, tFor_eq, iList, iTup, iStr, iRng1, iRng2, iZip, iEnum, gSub, tSl, rSetL_ref, rCat_ref, rRep_ref, rJoin_ref, rSlL_ref, rSlS_ref, rMulS_ref, rIxL_ref, rIxT_ref, rLenK_ref, rAll_ref, rIn_ref, tLst, tTup, tPar, tPar3, tAug, tPart, tNoPart, tCall, List.getElem?_cons_zero, List.getElem?_cons_succ, List.set_cons_zero, List.set_cons_succ, List.map_cons, List.map_nil, List.append_nil, List.nil_append, List.cons_append, Option.some.injEq, exists_eq_left', exists_eq_left, exists_eq_right, exists_eq_right', exists_eq', V.int.injEq, V.str.injEq, V.bl.injEq, V.ref.injEq, List.cons.injEq, tM0, tM1, rNewStrs, sgn_eq, split_dot, split_sp, split_nl, dot_len, sp_len, nl_len, cxOf_K, L2.start, List.length_cons, List.length_nil, List.replicate_succ, List.replicate_zero, Nat.reduceSub, Nat.zero_add, and_true, true_and, and_self, exists_and_left, exists_const, Bool.false_eq_true, if_false, if_true, ite_true, ite_false, reduceIte, decide_eq_true_eq, reduceCtorEq, Nat.reduceAdd, Nat.reduceLT]
      refine ⟨_, [], rfl, by decide +kernel, by decide +kernel, by decide +kernel, fun H2 p vs s2 hp hp2 hd2 => ⟨by decide, fun p3 hp3 => ?_⟩⟩
      have ev : vs = [] := by
        have := dpAll_len hd2
        exact List.eq_nil_of_length_eq_zero (by simpa using this)
      subst ev
      have n3 : p ≠ p3 := ne_of_none hp2 hp3
      refine ⟨.list [], .list [], .lst (.of (by rw [upd_ne n3]; exact hp2)) .nil, .lst (.of upd_same) .nil, by decide, by decide, _, rfl, ?_⟩
      rw [SeqAt.eqv_refl _ (by decide)]
      refine ifP rfl ⟨by decide, fun p4 hp4 => ⟨p4, [], [], rfl, .of upd_same, .nil, by decide, (fun _ h => nomatch h), fun H5 s5 => ⟨rfl, ?_⟩⟩⟩
      rw [decide_eq_true (by rw [rowsText_nil])]
      exact q _
end
/-! ### the head -/
abbrev Rw : PySem.W.OpenRow := PySem.W.OpenLaw.row PySem.Challenge.rw_hearken_k18_rows_written_and_read
abbrev hk : PySem.W.Hook := He.hookD 5 fa fn
def ob (s : PySem.W.SharedT) : He.AlD := He.obsDG 5 fa fn (HandSHeadRun.getT s)
theorem ob_eq (s : PySem.W.SharedT) : ob s = hk.obs s.abs := He.obsDG_eq (HandSHeadRun.getT_eq s)
def loose : List Str := ["HearError", "BadText", "LETTERS", "MOST_LETTERS", "MOST_WORDS", "ANY", "REST", "is_word", "is_pattern", "FIGURES", "written", "rank_of", "row_of", "read", "_law_mix", "_law_next", "_law_alike", "_law_word", "_law_row", "_law_text"]
theorem run (w : World) : HandSHeadRun.RunEq Rw (PySem.W.view Rw.prog [24]) hk ob 4000 loose w := by
  intro os
  kernel_rfl
end Hk
open PySem PySem.W PySem.Calls PyProof.Rows
theorem PySem.Challenge.cw_hearken_k18_rows_written_and_read_holds : PySem.Challenge.rw_hearken_k18_rows_written_and_read.Holds := by
  w_on; o_law
  refine HandSHeadRun.head_any (r := OpenLaw.row PySem.Challenge.rw_hearken_k18_rows_written_and_read) (q := view (OpenLaw.row PySem.Challenge.rw_hearken_k18_rows_written_and_read).prog [24]) (H := Hk.hk) (ob := Hk.ob) (M := 4000) (loose := Hk.loose) (d := HandSHeadRun.topDef (OpenLaw.row PySem.Challenge.rw_hearken_k18_rows_written_and_read).prog 24) (kwd := []) Hk.ob_eq
    (by kernel_rfl) (fun s => by kernel_rfl) Hk.run (by kernel_rfl) (by kernel_rfl) (by kernel_rfl) (by rfl) (by first | assumption | decide +kernel) (by decide +kernel) ⟨rfl, rfl, rfl, rfl, rfl, by decide +kernel⟩ ?hw ?hc
  case hw => w_witness2
  case hc =>
    refine L2.walk_ofE (l := PySem.Challenge.rw_hearken_k18_rows_written_and_read) (n := 63) (k := 10) (x := "_law_script") (CX := L2.CX0) rfl (by decide) (by kernel_rfl) ⟨rfl, by decide, by decide⟩ ?F (fun _ _ _ _ z => z)
    intro w mg fa h Y G hmg0
    obtain ⟨K, KX, c⟩ := Y
    have hmg : mg ("law" : PySem.Str) = some (.ref fa) := by
      have e : (HandSHeadRun.topDef (OpenLaw.row PySem.Challenge.rw_hearken_k18_rows_written_and_read).prog 24).name = ("law" : PySem.Str) := by kernel_rfl
      rw [← e]
      exact hmg0
    have T : Hk.Tx K mg := ⟨h, KX, G, c⟩
    obtain ⟨fd, F⟩ := T.f_law
    have ef := hmg.symm.trans T.g_law
    cases ef
    have b := L2.FunD.bindsA (ps := ["_law_script"]) F fun _ _ _ _ _ _ us hl => match us, hl with | [_], _ => rfl
    exact ⟨K, fd, Hk.sp_law K, KX, fun s v => b s [v] rfl, fun H a ns hl _ hS => ⟨a, ns, rfl, hS, hl, fun _ => rfl⟩, fun base _ _ => Hk.F_law_ok T F⟩

