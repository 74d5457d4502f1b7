import PyProof.Rows.All
import Wide.All
import OpenK.AllK
import Wide.FinOn
import HandS.ForMost
import HandS.Style
import HandS.Walk
import HandS.Defaults
import HandS.Exc
import HandS.Flow
import HandS.TryOnly
import HandS.ExcOwn
import HandS.WordsExc
import HandS.TupAny
import HandS.SetFor
import HandS.IsInst
import PyProof.StrBlock2
import HandS.Nested
import HandS.ExcIs
import HandS.HeadHook4
import HandS.HeadWalk
import KE.KDictZip
import HandS.OwnIter
import HandS.HeadHook2
import HandS.HeadEnd
import HandS.Head2
import PySem.Challenge.RW_hearken_k01_lines_and_patterns_refused
set_option Elab.async false
set_option linter.all false
set_option maxRecDepth 100000
set_option maxHeartbeats 4000000
/-! Common words for all the laws of hearken. -/
namespace Hk
open PySem PySem.Spec PyProof.Rows L2
/-! ### heaps that grow -/
/-- all that was tracked, but where S is, is as it was -/
def Ext (S : Addr → Prop) (H H' : Hp) : Prop := ∀ b o, ¬ S b → H b = some o → H' b = some o
abbrev No : Addr → Prop := fun _ => False
theorem Ext.refl (S : Addr → Prop) (H : Hp) : Ext S H H := fun _ _ _ h => h
theorem Ext.trans {S : Addr → Prop} {H H1 H2 : Hp} (a : Ext S H H1) (b : Ext S H1 H2) : Ext S H H2 := fun c o n h => b c o n (a c o n h)
theorem Ext.of_same {S : Addr → Prop} {H H' : Hp} (s : Same H H') : Ext S H H' := fun b o _ h => s b o h
theorem Ext.same {H H' : Hp} (e : Ext No H H') : Same H H' := fun b o h => e b o (fun z => z) h
theorem Ext.mono {S S' : Addr → Prop} {H H' : Hp} (e : Ext S H H') (h : ∀ b, S b → S' b) : Ext S' H H' := fun b o n q => e b o (fun z => n (h b z)) q
theorem Ext.free {S : Addr → Prop} {H H' : Hp} (e : Ext S H H') {l : Addr} (n : ¬ S l) (h : H' l = none) : H l = none := by
  cases q : H l with
  | none => rfl
  | some o =>
    rw [e l o n q] at h
    cases h
theorem Ext.put {S : Addr → Prop} {H H1 : Hp} {p : Addr} {o : HO} (s : Ext S H H1) (n : H p = none ∨ S p) : Ext S H (upd H1 p o) := fun b u nb h => by
  by_cases e : b = p
  · subst e
    rcases n with n | n
    · rw [h] at n; cases n
    · exact absurd n nb
  · rw [upd_ne e]
    exact s b u nb h
theorem same_put {H H1 : Hp} {p : Addr} {o : HO} (s : Same H H1) (n : H p = none) : Same H (upd H1 p o) := fun b u h => by
  by_cases e : b = p
  · subst e
    rw [h] at n; cases n
  · rw [upd_ne e]
    exact s b u h
theorem same_new {H H1 : Hp} {p : Addr} {o : HO} (s : Same H H1) (n : H1 p = none) : Same H (upd H1 p o) := same_put s (s.free n)
theorem same_tup {K : PySem.W.Frag} {H H' : Hp} {a : Addr} {xs : List V} (e : Same H H') (h : SqT K H a xs) : SqT K H' a xs := by
  rcases h with (h | ⟨o, h⟩) | h
  · exact .inl (.inl (e _ _ h))
  · exact .inl (.inr ⟨o, e _ _ h⟩)
  · exact .inr h
theorem small {n : Nat} (h : n ≤ 100000) : n ≤ sizeLine := Nat.le_trans h (by decide)
theorem smallLt {n : Nat} (h : n ≤ 100000) : n < sizeLine := Nat.lt_of_le_of_lt h (by decide)
theorem sgn_eq {c d : Nat} : ((⟨#[c]⟩ : Str) = ⟨#[d]⟩) = (c = d) := propext ⟨fun e => by
  have e2 : (#[c] : Array Nat) = #[d] := congrArg Str.cps e
  have e3 : [c] = [d] := congrArg Array.toList e2
  exact (List.cons.inj e3).1, fun e => by rw [e]⟩
theorem beq_dec {a b : Str} : (a == b) = decide (b = a) := by
  by_cases h : b = a
  · subst h; simp
  · rw [decide_eq_false h]; exact beq_eq_false_iff_ne.mpr (Ne.symm h)
/-- a text's words -/
def wds (z : Str) : List Str := Txt.split z "."
theorem split_dot {z : Str} : Txt.split z (Str.ofString ".") = wds z := rfl
def sps (z : Str) : List Str := Txt.split z " "
def nls (z : Str) : List Str := Txt.split z "\n"
theorem split_sp {z : Str} : Txt.split z (Str.ofString " ") = sps z := rfl
theorem split_nl {z : Str} : Txt.split z (Str.ofString "\n") = nls z := rfl
theorem dot_len : ((Str.ofString ".").length == 0) = false := by decide +kernel
theorem sp_len : ((Str.ofString " ").length == 0) = false := by decide +kernel
theorem nl_len : ((Str.ofString "\n").length == 0) = false := by decide +kernel
section
variable {CX : CXT} {P : Program} {w : World} {K : PySem.W.Frag} {mg : Str → Option Value} {base : Heap} {N : List Str} {qual : Str} {scope : Scope} {f : Addr} {cd : Value} {A : Around} {outer : List Env} {s : Shared} {H : Hp} {E : XK}
theorem cxOf_K : (cxOf CX P w K mg base N qual scope f cd A outer s H E).K = K := rfl
end
theorem ifP {c A B : Prop} [Decidable c] (h : c) (a : A) : if c then A else B := by rw [if_pos h]; exact a
theorem ifN {c A B : Prop} [Decidable c] (h : ¬ c) (b : B) : if c then A else B := by rw [if_neg h]; exact b
/-! ### a global def with its promise -/
structure Glob (P : Program) (w : World) (K : PySem.W.Frag) (mg : Str → Option Value) (base : Heap) (CX : CXT) (k : Nat) (x : Str) (ps : List Str) (dvs : List V) (sp : Sp) : Prop where
  ex : ∃ f fd ds, FnOk P w K mg base CX k f fd ps sp ∧ mg x = some (.ref f) ∧ PySem.W.keepIn K (.ref f) = true ∧ Vals dvs ds ∧ Binds K fd ps ds
theorem Glob.mono {P : Program} {w : World} {K : PySem.W.Frag} {mg : Str → Option Value} {base : Heap} {CX : CXT} {j k : Nat} {x : Str} {ps : List Str} {dvs : List V} {sp : Sp} (G : Glob P w K mg base CX j x ps dvs sp) (h : j ≤ k) : Glob P w K mg base CX k x ps dvs sp := by
  obtain ⟨f, fd, ds, F, r⟩ := G.ex
  exact ⟨f, fd, ds, F.mono h, r⟩
section
variable {X : Cx} {CX : CXT} {k : Nat} {x : Str} {ps : List Str} {dvs : List V} {sp : Sp} {E : XK} {p pos : Pos} {e : Expr} {es : List Expr} {t : TA}
theorem pe_callG (G : Glob X.prog X.w X.K X.mg X.base CX k x ps dvs sp) (hr : Room k X.A) (hg : Gl X x) (hx : Passes CX X E) (ha : PA X (e :: es) t)
    (hdb : (x == ("__debug__" : Str)) = false := by decide) (he : starEach (e :: es) X.env = (false, eval e X.env) :: starEach es X.env := by rfl) (hpl : (backTo pos (starEach es X.env)).any (·.1) = false := by rfl) :
    PE X (.Call (.Name x p) (e :: es) [] pos) (tCall sp dvs E t) := by
  refine ⟨fun pins s σ H Q I h => ?_⟩
  obtain ⟨f, fd, ds, F, hm, kp, vd, hb⟩ := G.ex
  exact (pe_call F hr hg hm kp hb vd hx ha hdb he hpl).run pins s σ H Q I h
theorem pe_callG0 (G : Glob X.prog X.w X.K X.mg X.base CX k x ps dvs sp) (hr : Room k X.A) (hg : Gl X x) (hx : Passes CX X E) (hdb : (x == ("__debug__" : Str)) = false := by decide) :
    PE X (.Call (.Name x p) [] [] pos) (tCall sp dvs E tNil) := by
  refine ⟨fun pins s σ H Q I h => ?_⟩
  obtain ⟨f, fd, ds, F, hm, kp, vd, hb⟩ := G.ex
  exact (pe_call0 F hr hg hm kp hb vd hx hdb).run pins s σ H Q I h
/-- a def that may raise, called where it does not -/
theorem passN : Passes (L2.CX X.prog X.w) X E0 := fun _ _ _ _ _ _ _ h => by
  obtain ⟨_, _, _, _, _, _, _, _, _, _, _, _, z⟩ := h
  exact z.elim
/-- a module's constant -/
theorem pe_gi {i : Int} (h : ∃ t, X.mg x = some (.int i t)) (hg : Gl X x) (hd : (x == ("__debug__" : Str)) = false := by decide) : PE X (.Name x pos) (tC (.int i)) := by
  obtain ⟨t, h⟩ := h
  exact pe_glob hg h ⟨t, rfl⟩ hd
theorem pe_gs {z : Str} (h : ∃ t, X.mg x = some (.str z t)) (hg : Gl X x) (hd : (x == ("__debug__" : Str)) = false := by decide) : PE X (.Name x pos) (tC (.str z)) := by
  obtain ⟨t, h⟩ := h
  exact pe_glob hg h ⟨t, rfl⟩ hd
end
/-! ### comprehensions: the new list by what has been gathered -/
/-- a comprehension's turns, behind its source -/
def LcG (J : It) (g : TG) (tt : TT) (te : TE) (vs : List Nat) (σ : L2.St) (H1 : Hp) (Q : VK) : Prop := ∀ D, H1 D = none → ∃ W : Nat → Nat → Hp → Prop, (∃ m, W 0 m (upd H1 D (.lst []))) ∧ ∀ i m H, W i m H →
  (J.stop i H ∧ Q (.ref D) H) ∨ (J.go i H ∧ ∃ Nx : Hp → Prop, (∀ H', Nx H' → ∃ m', m' < m ∧ W (i + 1) m' H') ∧ ∀ x H', J.yld i H x H' → g x (wipe σ vs) H' fun σ2 H2 => wipe σ2 vs = wipe σ vs ∧ tt σ2 H2 fun b H3 =>
    if b = true then te σ2 H3 fun y H4 => ∃ acc, H4 D = some (.lst acc) ∧ acc.length < sizeLine ∧ Nx (upd H4 D (.lst (acc ++ [y]))) else Nx H3)
theorem tLc_eq {wi : TI} {g : TG} {tt : TT} {te : TE} {vs : List Nat} {σ : L2.St} {H : Hp} {Q : VK} : tLc wi g tt te vs σ H Q = wi σ H fun J H1 => LcG J g tt te vs σ H1 Q := rfl
/-- a for's turns, behind its source -/
def ForG (J : It) (g : TG) (tb : TS) (D : Ends) (σ : L2.St) (H : Hp) : Prop := ∃ W : Nat → Nat → L2.St → Hp → Prop, (∃ m, W 0 m σ H) ∧ ∀ i m σ H, W i m σ H →
  (J.stop i H ∧ D.nx σ H) ∨ (J.go i H ∧ ∃ N : L2.St → Hp → Prop, (∀ σ' H', N σ' H' → ∃ m', m' < m ∧ W (i + 1) m' σ' H') ∧ ∀ x H', J.yld i H x H' → g x σ H' fun σ2 H2 => tb { D with nx := N, ct := N, bk := D.nx } σ2 H2)
theorem tFor_eq {wi : TI} {g : TG} {tb : TS} {D : Ends} {σ : L2.St} {H : Hp} : tFor wi g tb D σ H = wi σ H fun J H1 => ForG J g tb D σ H1 := rfl
theorem forG {J : It} {n : Nat} {G : Hp → Prop} {Y : Nat → Hp → V → Hp → Prop} (w : Walk J n G Y) {g : TG} {tb : TS} {D : Ends} {σ : L2.St} {H : Hp} (Pv : Nat → L2.St → Hp → Prop) (h0 : Pv 0 σ H) (hG : ∀ i σ H, i ≤ n → Pv i σ H → G H)
    (hs : ∀ i x σ H H', i < n → Pv i σ H → Y i H x H' → g x σ H' fun σ2 H2 => tb { D with nx := Pv (i + 1), ct := Pv (i + 1), bk := D.nx } σ2 H2) (hd : ∀ σ H, Pv n σ H → D.nx σ H) : ForG J g tb D σ H := for_it w Pv h0 hG hs hd
theorem lc_acc {J : It} {n : Nat} {G : Hp → Prop} {Y : Nat → Hp → V → Hp → Prop} (w : Walk J n G Y) {g : TG} {tt : TT} {te : TE} {vs : List Nat} {σ : L2.St} {H1 : Hp} {Q : VK} (S : Addr → Prop) (Iv : Hp → Prop) (Pa : Nat → List V → Prop)
    (hn : n < sizeLine) (nD : ∀ D, H1 D = none → ¬ S D) (h0 : Pa 0 []) (i0 : Iv H1) (hI : ∀ D H o, H1 D = none → Iv H → Iv (upd H D o)) (hG : ∀ H, Ext S H1 H → Iv H → G H)
    (hs : ∀ i x H H' acc (R : Option V → Hp → Prop), i < n → Ext S H1 H → Iv H → Pa i acc → Y i H x H' →
      (∀ H2, Ext S H H2 → Iv H2 → Pa (i + 1) acc → R none H2) → (∀ y H2, Ext S H H2 → Iv H2 → Pa (i + 1) (acc ++ [y]) → R (some y) H2) →
      g x (wipe σ vs) H' fun σ2 H2 => wipe σ2 vs = wipe σ vs ∧ tt σ2 H2 fun b H3 => if b = true then te σ2 H3 (fun y H4 => R (some y) H4) else R none H3)
    (hd : ∀ D acc H, H1 D = none → Pa n acc → acc.length ≤ n → Ext S H1 H → Iv H → H D = some (.lst acc) → Q (.ref D) H) : LcG J g tt te vs σ H1 Q := by
  intro D fD
  have nD := nD D fD
  have hI := fun H o => hI D H o fD
  refine lc_it w (fun i H => ∃ acc, Pa i acc ∧ acc.length ≤ i ∧ Ext S H1 H ∧ Iv H ∧ H D = some (.lst acc)) ⟨[], h0, Nat.le_refl _, (Ext.refl S H1).put (.inl fD), hI _ _ i0, upd_same⟩ (fun i H _ ⟨acc, _, _, e, iv, _⟩ => hG H e iv) (fun i x H H' hi hP hy => ?_)
    (fun H ⟨acc, p, l, e, iv, hD⟩ => hd D acc H fD p l e iv hD)
  obtain ⟨acc, p, l, e, iv, hD⟩ := hP
  refine hs i x H H' acc (fun o H4 => match o with
    | some y => ∃ acc, H4 D = some (.lst acc) ∧ acc.length < sizeLine ∧ ∃ acc', Pa (i + 1) acc' ∧ acc'.length ≤ i + 1 ∧ Ext S H1 (upd H4 D (.lst (acc ++ [y]))) ∧ Iv (upd H4 D (.lst (acc ++ [y]))) ∧ (upd H4 D (.lst (acc ++ [y]))) D = some (.lst acc')
    | none => ∃ acc', Pa (i + 1) acc' ∧ acc'.length ≤ i + 1 ∧ Ext S H1 H4 ∧ Iv H4 ∧ H4 D = some (.lst acc')) hi e iv p hy (fun H2 e2 iv2 p2 => ?_) (fun y H2 e2 iv2 p2 => ?_)
  · exact ⟨acc, p2, Nat.le_succ_of_le l, e.trans e2, iv2, e2 D _ nD hD⟩
  · exact ⟨acc, e2 D _ nD hD, Nat.lt_of_le_of_lt (Nat.le_trans l (Nat.le_of_lt hi)) hn, acc ++ [y], p2, by rw [List.length_append]; exact Nat.succ_le_succ l, (e.trans e2).put (.inl fD), hI _ _ iv2, upd_same⟩
section
variable {K : PySem.W.Frag} {a b : Addr}
theorem walk_listm {α : Type} (xs : List α) (inj : α → V) : Walk (Itl K a) xs.length (fun H => SqL K H a (xs.map inj)) (fun i H x H' => H' = H ∧ ∃ y, xs[i]? = some y ∧ x = inj y) := by
  have w := walk_list (K := K) (a := a) (xs := xs.map inj)
  rw [List.length_map] at w
  refine w.mono (fun H h => h) (fun i H x H' hi _ y => ⟨y.1, ?_⟩)
  have h := y.2
  rw [List.getElem?_map] at h
  cases q : xs[i]? with
  | none => rw [q] at h; cases h
  | some z => rw [q] at h; exact ⟨z, rfl, (Option.some.inj h).symm⟩
theorem walk_tupm {α : Type} (xs : List α) (inj : α → V) : Walk (Itt K a) xs.length (fun H => SqT K H a (xs.map inj)) (fun i H x H' => H' = H ∧ ∃ y, xs[i]? = some y ∧ x = inj y) := by
  have w := walk_tup (K := K) (a := a) (xs := xs.map inj)
  rw [List.length_map] at w
  refine w.mono (fun H h => h) (fun i H x H' hi _ y => ⟨y.1, ?_⟩)
  have h := y.2
  rw [List.getElem?_map] at h
  cases q : xs[i]? with
  | none => rw [q] at h; cases h
  | some z => rw [q] at h; exact ⟨z, rfl, (Option.some.inj h).symm⟩
/-- zip of two lists: a new pair at each turn -/
theorem walk_zipm {α β : Type} (xs : List α) (ys : List β) (f : α → V) (g : β → V) : Walk (Itz K a b) (xs.zip ys).length (fun H => SqL K H a (xs.map f) ∧ SqL K H b (ys.map g))
    (fun i H v H' => ∃ (t : Addr) (q : α × β), v = .ref t ∧ H t = none ∧ H' = upd H t (.tup [f q.1, g q.2]) ∧ (xs.zip ys)[i]? = some q) := by
  have w := walk_zip (K := K) (a := a) (b := b) (xs := xs.map f) (ys := ys.map g) (n := (xs.zip ys).length) (by rw [List.length_zip, List.length_map, List.length_map])
  refine w.mono (fun H h => h) (fun i H x H' hi _ y => ?_)
  obtain ⟨t, x1, x2, e1, e2, e3, e4, e5⟩ := y
  have h1 : (xs.zip ys)[i]? = some (xs.zip ys)[i] := List.getElem?_eq_getElem hi
  have h2 := List.getElem?_zip_eq_some.mp h1
  have e6 : x1 = f (xs.zip ys)[i].1 := by
    have e4 : (xs.map f)[i]? = some x1 := e4
    rw [List.getElem?_map, h2.1] at e4
    exact (Option.some.inj e4).symm
  have e7 : x2 = g (xs.zip ys)[i].2 := by
    have e5 : (ys.map g)[i]? = some x2 := e5
    rw [List.getElem?_map, h2.2] at e5
    exact (Option.some.inj e5).symm
  exact ⟨t, _, e1, e2, by rw [e3, e6, e7], h1⟩
theorem ixN_in {n : Nat} {i : Int} (h0 : 0 ≤ i) (h1 : i < n) : ixN n i = some i.toNat := by
  unfold ixN
  rw [if_pos h0, if_pos h1]
theorem atI_neg1 {xs : List V} (h : xs ≠ []) : atI xs (-1) = xs.getLast? := by
  have e : xs = xs.dropLast ++ [xs.getLast h] := (List.dropLast_concat_getLast h).symm
  rw [e, atI_last]
  simp
end
/-- a comprehension that changes nothing that stood: the new list is F of the items, where it is some -/
theorem lc_fil {α : Type} (xs : List α) (F : α → Option V) {J : It} {G : Hp → Prop} {Y : Nat → Hp → V → Hp → Prop} (w : Walk J xs.length G Y) {g : TG} {tt : TT} {te : TE} {vs : List Nat} {σ : L2.St} {H1 : Hp} {Q : VK}
    (hn : xs.length ≤ 100000) (hG : ∀ H, Same H1 H → G H)
    (hs : ∀ i a x H H' (R : Option V → Hp → Prop), xs[i]? = some a → Same H1 H → Y i H x H' → (∀ H2, Same H H2 → R (F a) H2) →
      g x (wipe σ vs) H' fun σ2 H2 => wipe σ2 vs = wipe σ vs ∧ tt σ2 H2 fun b H3 => if b = true then te σ2 H3 (fun y H4 => R (some y) H4) else R none H3)
    (hd : ∀ D H, H1 D = none → Same H1 H → H D = some (.lst (xs.filterMap F)) → Q (.ref D) H) : LcG J g tt te vs σ H1 Q := by
  refine lc_acc w No (fun _ => True) (fun i acc => acc = (xs.take i).filterMap F) (smallLt hn) (fun _ _ z => z) rfl trivial (fun _ _ _ _ _ => trivial) (fun H e _ => hG H e.same) (fun i x H H' acc R hi e _ p hy r0 r1 => ?_) (fun D acc H fD p _ e _ hD => ?_)
  · have hx : xs[i]? = some xs[i] := List.getElem?_eq_getElem hi
    refine hs i xs[i] x H H' R hx e.same hy (fun H2 s2 => ?_)
    cases q : F xs[i] with
    | none =>
      refine r0 H2 (.of_same s2) trivial ?_
      rw [p, List.take_add_one, hx, List.filterMap_append]
      simp [q]
    | some y =>
      refine r1 y H2 (.of_same s2) trivial ?_
      rw [p, List.take_add_one, hx, List.filterMap_append]
      simp [q]
  · subst p
    refine hd D H fD e.same ?_
    rw [hD, List.take_length]
/-- .. the new list is f of the items -/
theorem lc_map {α : Type} (xs : List α) (f : α → V) {J : It} {G : Hp → Prop} {Y : Nat → Hp → V → Hp → Prop} (w : Walk J xs.length G Y) {g : TG} {te : TE} {vs : List Nat} {σ : L2.St} {H1 : Hp} {Q : VK}
    (hn : xs.length ≤ 100000) (hG : ∀ H, Same H1 H → G H)
    (hs : ∀ i a x H H' (R : VK), xs[i]? = some a → Same H1 H → Y i H x H' → (∀ H2, Same H H2 → R (f a) H2) →
      g x (wipe σ vs) H' fun σ2 H2 => wipe σ2 vs = wipe σ vs ∧ te σ2 H2 R)
    (hd : ∀ D H, H1 D = none → Same H1 H → H D = some (.lst (xs.map f)) → Q (.ref D) H) : LcG J g tYes te vs σ H1 Q := by
  refine lc_fil xs (fun a => some (f a)) w hn hG (fun i a x H H' R hx s1 hy r => ?_) (fun D H fD s1 hD => hd D H fD s1 ?_)
  · simp only [tYes, if_true]
    exact hs i a x H H' (fun v h => R (some v) h) hx s1 hy r
  · rw [hD]
    simp
end Hk

set_option Elab.async false
set_option linter.all false
set_option maxRecDepth 100000
set_option maxHeartbeats 4000000
/-! The rules that speak of X.K, with K told (a comprehension's block has an X of its own). -/
namespace Hk
open PySem PySem.Spec PyProof.Rows L2
section
variable {X : Cx} {K : PySem.W.Frag} (hK : X.K = K)
include hK
theorem ix_listK : IxR X (rIxL K) := by subst hK; exact ix_list
theorem ix_tupK : IxR X (rIxT K) := by subst hK; exact ix_tup
theorem sl_listK : SlR X (rSlL K) := by subst hK; exact sl_list
theorem sl_tupK : SlR X (rSlA K) := by subst hK; exact sl_tupA
theorem op_in_seqK : OpR X (compareOp .In) (rIn K false) := by subst hK; exact op_in_seq
theorem op_notIn_seqK : OpR X (compareOp .NotIn) (rIn K true) := by subst hK; exact op_notIn_seq
def rLenK (K : PySem.W.Frag) : List V → Hp → VK → Prop := fun xs H Q => ∃ p ys, xs = [.ref p] ∧ (SqL K H p ys ∨ SqT K H p ys) ∧ Q (.int ys.length) H
theorem call_len_seqK : CallR X (.builtin "len") (rLenK K) := by subst hK; exact call_len_seq
theorem cr_allK (hc : X.calm = true) : CallR X (.builtin "all") (rAll K) := by subst hK; exact cr_all hc
theorem cr_anyK (hc : X.calm = true) : CallR X (.builtin "any") (rAny K) := by subst hK; exact cr_any hc
def rListOf (K : PySem.W.Frag) : List V → Hp → VK → Prop := fun xs H Q => ∃ p ys, xs = [.ref p] ∧ (SqL K H p ys ∨ SqT K H p ys) ∧ ∀ l, H l = none → Q (.ref l) (upd H l (.lst ys))
theorem call_list_ofK : CallR X (.type "list") (rListOf K) := by subst hK; exact call_list_of
theorem op_eqDK (hu : X.A.units + 64 < cLine) : OpR X (compareOp .Eq) (rEqD K) := by subst hK; exact op_eqD hu
theorem op_neDK (hu : X.A.units + 64 < cLine) : OpR X (compareOp .NotEq) (rNeD K) := by subst hK; exact op_neD hu
theorem op_catAK : OpR X (binaryOp .Add) (rCatA K) := by subst hK; exact op_catA
theorem pi_listK {tg l : Expr} {tl : TE} (hl : PE X l tl) : PI X tg l (iList K tl) := by subst hK; exact pi_list hl
theorem pi_tupK {tg l : Expr} {tl : TE} (hl : PE X l tl) : PI X tg l (iTup K tl) := by subst hK; exact pi_tup hl
theorem pi_zipK {e e2 : Expr} {ta : TA} {p pos tpos : Pos} {elts : List Expr} {kk : Nat} (hg : Gl X "zip") (hm : X.mg "zip" = none) (ha : PA X [e, e2] ta)
    (hs : starEach [e, e2] X.env = (false, eval e X.env) :: starEach [e2] X.env := by rfl) (hpl : (backTo pos (starEach [e2] X.env)).any (·.1) = false := by rfl) :
    PI X (.Tuple elts kk tpos) (.Call (.Name "zip" p) [e, e2] [] pos) (iZip K ta) := by subst hK; exact pi_zip hg hm ha hs hpl
theorem pi_enumK {e : Expr} {ta : TA} {p pos tpos : Pos} {elts : List Expr} {kk : Nat} (hg : Gl X "enumerate") (hm : X.mg "enumerate" = none) (ha : PA X [e] ta) (hs : starEach [e] X.env = [(false, eval e X.env)] := by rfl) :
    PI X (.Tuple elts kk tpos) (.Call (.Name "enumerate" p) [e] [] pos) (iEnum K ta) := by subst hK; exact pi_enum hg hm ha hs
theorem pg_tupK {es : List Expr} {k : Nat} {t : TGs} {n : Nat} {pos : Pos} (hc : X.calm = true) (h : PGs X es t) (hn : (assignEach es X.env).length = n := by rfl) (hst : (assignEach es X.env).findIdx? (·.1) = none := by rfl) :
    PG X (.Tuple es k pos) (gTup K n t) := by subst hK; exact pg_tup hc h hn hst
theorem pe_bm0K {o : Expr} {to : TE} {name : Str} {apos cpos : Pos} {T id : String} {r : V → List V → Hp → VK → Prop} (pa : PlainAttrs T) (slot : Slot T name id) (hty : typeOf (.builtin id) = pure (.type "method_descriptor")) (hm : MtR X id r) (ho : PE X o to)
    (hbase : attributeBase o name X.env (eval o X.env) = eval o X.env := by rfl) (hline : (apos.endLine == cpos.line) = true := by rfl) : PE X (.Call (.Attribute o name apos) [] [] cpos) (tBM0 K T r to) := by
  subst hK; exact pe_bm0 pa slot hty hm ho hbase hline
theorem pe_bmK {o e : Expr} {es : List Expr} {to : TE} {t : TA} {name : Str} {apos cpos : Pos} {T id : String} {r : V → List V → Hp → VK → Prop} (pa : PlainAttrs T) (slot : Slot T name id) (hty : typeOf (.builtin id) = pure (.type "method_descriptor")) (hm : MtR X id r) (ho : PE X o to) (ha : PA X (e :: es) t)
    (hbase : attributeBase o name X.env (eval o X.env) = eval o X.env := by rfl)
    (hfew : ((backTo cpos (starEach (e :: es) X.env)).all (fun x => !x.1) && (backToKw cpos (keywordEach [] X.env)).all (fun x => x.1.isSome)
      && decide ((e :: es).length + ([] : List Keyword).length + (if ([] : List Keyword).isEmpty then 0 else 1) < 30)) = true := by rfl)
    (hline : (apos.endLine == cpos.line) = true := by rfl) (hs : starEach (e :: es) X.env = (false, eval e X.env) :: starEach es X.env := by rfl) (hplain : (backTo cpos (starEach es X.env)).any (·.1) = false := by rfl) :
    PE X (.Call (.Attribute o name apos) (e :: es) [] cpos) (tBM K T r to t) := by subst hK; exact pe_bm pa slot hty hm ho ha hbase hfew hline hs hplain
def rJoin (K : PySem.W.Frag) : V → List V → Hp → VK → Prop := fun x xs H Q => ∃ a p, ∃ ys : List Str, x = .str a ∧ xs = [.ref p] ∧ (SqL K H p (ys.map V.str) ∨ SqT K H p (ys.map V.str)) ∧
      (ys.map (·.length)).sum + ys.length * a.length ≤ 16777216 ∧ Q (.str (Txt.join a ys)) H
theorem pe_joinK {o e : Expr} {to te : TE} {apos pos : Pos} (ho : PE X o to) (he : PE X e te) (hs : starEach [e] X.env = [(false, eval e X.env)] := by rfl) (hbase : attributeBase o "join" X.env (eval o X.env) = eval o X.env := by rfl) (hline : (apos.endLine == pos.line) = true := by rfl) :
    PE X (.Call (.Attribute o "join" apos) [e] [] pos) (tM1 (rJoin K) to te) := by subst hK; exact pe_join ho he hs hbase hline
theorem pt_truthK {a : Expr} {ta : TE} (ha : PE X a ta) (he : ∀ whole, isTrue a X.env whole = (do let v ← whole; standAt a.pos; holding [v] (truthy v))) :
    PT X a (fun σ H Q => ta σ H fun x H' => ∃ k, TruV K x H' k ∧ Q k H') := by subst hK; exact pt_truth ha he
theorem pe_notTK {a : Expr} {ta : TE} {pos : Pos} (ha : PE X a ta) : PE X (.UnaryOp .Not a pos) (tNotT K ta) := by subst hK; exact pe_notT ha
theorem mt_indexK : MtR X "list.index" (rIndex K) := by subst hK; exact mt_index
theorem mt_lcountK : MtR X "list.count" (rCntI K) := by subst hK; exact mt_lcount
theorem pe_fldK {e : Expr} {f : Str} {ta : TE} {pos : Pos} (he : PE X e ta) (hb : attributeBase e f X.env (eval e X.env) = eval e X.env) : PE X (.Attribute e f pos) (tFld K ta f) := by subst hK; exact pe_fld he hb
end
/-! ### words for readings -/
theorem scal_ss {a b : Str} : scal (.str a) (.str b) = true := rfl
theorem scal_ii {a b : Int} : scal (.int a) (.int b) = true := rfl
theorem scal_bb {a b : Bool} : scal (.bl a) (.bl b) = true := rfl
theorem scal_ns {b : Str} : scal .non (.str b) = true := rfl
theorem scal_sn {b : Str} : scal (.str b) .non = true := rfl
theorem scal_nn : scal .non .non = true := rfl
theorem scal_in {a : Int} : scal (.int a) .non = true := rfl
theorem scal_ni {a : Int} : scal .non (.int a) = true := rfl
theorem gCons_cons {t : TG} {u : TGs} {x : V} {xs : List V} {σ : L2.St} {H : Hp} {Q : L2.St → Hp → Prop} : gCons t u (x :: xs) σ H Q = t x σ H fun σ' H' => u xs σ' H' Q := propext ⟨fun ⟨v, r, e, h⟩ => by cases e; exact h, fun h => ⟨x, xs, rfl, h⟩⟩
theorem gNil_nil {σ : L2.St} {H : Hp} {Q : L2.St → Hp → Prop} : gNil [] σ H Q = Q σ H := propext ⟨fun h => h.2, fun h => ⟨rfl, h⟩⟩
theorem gTup_ref {K : PySem.W.Frag} {n : Nat} {t : TGs} {a : Addr} {σ : L2.St} {H : Hp} {Q : L2.St → Hp → Prop} : gTup K n t (.ref a) σ H Q = ∃ xs, SqT K H a xs ∧ xs.length = n ∧ t xs σ H Q := propext ⟨fun ⟨_, xs, e, h⟩ => by cases e; exact ⟨xs, h⟩, fun ⟨xs, h⟩ => ⟨a, xs, rfl, h⟩⟩
theorem rSetL_ref {p : Addr} {k : Int} {v : V} {H : Hp} {Q : Hp → Prop} : rSetL (.ref p) (.int k) v H Q = ∃ xs j, H p = some (.lst xs) ∧ ixN xs.length k = some j ∧ Q (upd H p (.lst (xs.set j v))) := propext ⟨fun ⟨_, xs, _, j, e, e2, h⟩ => by cases e; cases e2; exact ⟨xs, j, h⟩, fun ⟨xs, j, h⟩ => ⟨p, xs, k, j, rfl, rfl, h⟩⟩
theorem rCat_ref {l b : Addr} {H : Hp} {Q : VK} : rCat (.ref l) (.ref b) H Q = ∃ xs zs, H l = some (.lst xs) ∧ H b = some (.lst zs) ∧ xs.length + zs.length ≤ sizeLine ∧ ∀ p, H p = none → Q (.ref p) (upd H p (.lst (xs ++ zs))) := propext ⟨fun ⟨_, _, xs, zs, e, e2, h⟩ => by cases e; cases e2; exact ⟨xs, zs, h⟩, fun ⟨xs, zs, h⟩ => ⟨l, b, xs, zs, rfl, rfl, h⟩⟩
theorem rRep_ref {l : Addr} {k : Int} {H : Hp} {Q : VK} : rRep (.ref l) (.int k) H Q = ∃ xs, H l = some (.lst xs) ∧ -(2 ^ 63) ≤ k ∧ k < 2 ^ 63 ∧ xs.length * k.toNat ≤ sizeLine ∧ ∀ p, H p = none → Q (.ref p) (upd H p (.lst (List.replicate k.toNat xs).flatten)) := propext ⟨fun ⟨_, _, xs, e, e2, h⟩ => by cases e; cases e2; exact ⟨xs, h⟩, fun ⟨xs, h⟩ => ⟨l, k, xs, rfl, rfl, h⟩⟩
theorem rJoin_ref {K : PySem.W.Frag} {a : Str} {p : Addr} {H : Hp} {Q : VK} : rJoin K (.str a) [.ref p] H Q = ∃ ys : List Str, (SqL K H p (ys.map V.str) ∨ SqT K H p (ys.map V.str)) ∧ (ys.map (·.length)).sum + ys.length * a.length ≤ 16777216 ∧ Q (.str (Txt.join a ys)) H := propext ⟨fun ⟨_, _, xs, e, e2, h⟩ => by cases e; cases e2; exact ⟨xs, h⟩, fun ⟨xs, h⟩ => ⟨a, p, xs, rfl, rfl, h⟩⟩
theorem rSlL_ref {K : PySem.W.Frag} {a : Addr} {lo hi : Option Int} {H : Hp} {Q : VK} : rSlL K (.ref a) lo hi H Q = ∃ xs, SqL K H a xs ∧ ∀ p, H p = none → Q (.ref p) (upd H p (.lst (cutV xs lo hi))) := propext ⟨fun ⟨_, xs, e, h⟩ => by cases e; exact ⟨xs, h⟩, fun ⟨xs, h⟩ => ⟨a, xs, rfl, h⟩⟩
theorem rSlS_ref {z : Str} {lo hi : Option Int} {H : Hp} {Q : VK} : rSlS (.str z) lo hi H Q = (z.length ≤ sizeLine ∧ Q (.str (cutS z lo hi)) H) := propext ⟨fun ⟨_, e, h⟩ => by cases e; exact h, fun h => ⟨z, rfl, h⟩⟩
theorem rIxL_ref {K : PySem.W.Frag} {p : Addr} {i : Int} {H : Hp} {Q : VK} : rIxL K (.ref p) (.int i) H Q = ∃ xs v, SqL K H p xs ∧ atI xs i = some v ∧ Q v H := propext ⟨fun ⟨_, xs, _, v, e, e2, h⟩ => by cases e; cases e2; exact ⟨xs, v, h⟩, fun ⟨xs, v, h⟩ => ⟨p, xs, i, v, rfl, rfl, h⟩⟩
theorem rIxT_ref {K : PySem.W.Frag} {p : Addr} {i : Int} {H : Hp} {Q : VK} : rIxT K (.ref p) (.int i) H Q = ∃ xs v, SqT K H p xs ∧ atI xs i = some v ∧ Q v H := propext ⟨fun ⟨_, xs, _, v, e, e2, h⟩ => by cases e; cases e2; exact ⟨xs, v, h⟩, fun ⟨xs, v, h⟩ => ⟨p, xs, i, v, rfl, rfl, h⟩⟩
theorem rLenK_ref {K : PySem.W.Frag} {p : Addr} {H : Hp} {Q : VK} : rLenK K [.ref p] H Q = ∃ ys, (SqL K H p ys ∨ SqT K H p ys) ∧ Q (.int ys.length) H := propext ⟨fun ⟨_, ys, e, h⟩ => by cases e; exact ⟨ys, h⟩, fun ⟨ys, h⟩ => ⟨p, ys, rfl, h⟩⟩
theorem rAll_ref {K : PySem.W.Frag} {p : Addr} {H : Hp} {Q : VK} : rAll K [.ref p] H Q = ∃ bs : List Bool, SqL K H p (bs.map V.bl) ∧ Q (.bl (bs.all id)) H := propext ⟨fun ⟨_, ys, e, h⟩ => by cases e; exact ⟨ys, h⟩, fun ⟨ys, h⟩ => ⟨p, ys, rfl, h⟩⟩
theorem rIn_ref {K : PySem.W.Frag} {b : Bool} {p : Addr} {x : V} {H : Hp} {Q : VK} : rIn K b x (.ref p) H Q = ∃ xs, (SqL K H p xs ∨ SqT K H p xs) ∧ flatV x = true ∧ xs.all flatV = true ∧ Q (.bl (if b then !inV x xs else inV x xs)) H := propext ⟨fun ⟨_, ys, e, h⟩ => by cases e; exact ⟨ys, h⟩, fun ⟨ys, h⟩ => ⟨p, ys, rfl, h⟩⟩
/-! ### a text once or not at all -/
def rMulS : R2 := fun x y H Q => ∃ z n, x = .str z ∧ y = .int n ∧ (n = 0 ∨ n = 1) ∧ Q (.str (if n = 1 then z else Str.empty)) H
theorem op_mulS {X : Cx} : OpR X (binaryOp .Mult) rMulS := by
  intro pins s σ H x y v u Q I rx ry h
  obtain ⟨z, n, rfl, rfl, hn, q⟩ := h
  obtain ⟨t, rfl⟩ := rx
  obtain ⟨t', rfl⟩ := ry
  refine SB.mul ?_ fun t2 k => ⟨.str (Txt.mul z n), H, I.tok _, ⟨_, rfl⟩, ?_⟩
  · rcases hn with rfl | rfl
    · exact ⟨by decide, fun h => absurd (by decide) h, fun h => absurd (by decide) h⟩
    · exact ⟨by decide, fun _ h => by simp at h, fun _ h => by simp at h⟩
  · have e : Txt.mul z n = if n = 1 then z else Str.empty := by
      rcases hn with rfl | rfl
      · rfl
      · rfl
    rw [e]; exact q
theorem rMulS_ref {z : Str} {n : Int} {H : Hp} {Q : VK} : rMulS (.str z) (.int n) H Q = ((n = 0 ∨ n = 1) ∧ Q (.str (if n = 1 then z else Str.empty)) H) := propext ⟨fun ⟨_, _, e, e2, h⟩ => by cases e; cases e2; exact h, fun h => ⟨z, n, rfl, rfl, h⟩⟩
/-! ### isinstance -/
section
variable {X : Cx} {K : PySem.W.Frag} (hK : X.K = K)
include hK
theorem call_isiK1 : CallR X (.builtin "isinstance") (rIsi K) := by subst hK; exact call_isi
theorem call_isiTK : CallR X (.builtin "isinstance") (rIsiT K) := by subst hK; exact call_isiT
theorem ix_seqK : IxR X (rIx K) := by subst hK; exact ix_seq
end
def tyName : PyData → String
  | .none => "NoneType"
  | .bool _ => "bool"
  | .int _ => "int"
  | .str _ => "str"
  | .list _ => "list"
  | .tuple _ => "tuple"
  | .dict _ => "dict"
theorem tyx_dp {K : PySem.W.Frag} {H : Hp} {x : V} {d : PyData} (h : Dp K H x d) : TyX K H x (.type (tyName d)) := by
  cases h with
  | non => exact .base .non
  | bl b => exact .base (.bl b)
  | int i => exact .base (.int i)
  | str x => exact .base (.str x)
  | lst h _ =>
    rcases h with (h | ⟨o, h⟩) | ⟨o, its, n, h, c, _⟩
    · exact .base (.lst h)
    · exact .base (.frz h)
    · exact .kList h c
  | tup h _ =>
    rcases h with (h | ⟨o, h⟩) | ⟨o, its, n, h, c, _⟩
    · exact .base (.tup h)
    · exact .fTuple h
    · exact .kTuple h c
theorem isi_dp {K : PySem.W.Frag} {H : Hp} {x : V} {d : PyData} {n : String} {b : Bool} {Q : VK} (h : Dp K H x d) (e : kitB (tyName d) n = some b) (q : Q (.bl b) H) : rIsi K [x, .ty n] H Q :=
  ⟨x, .ty n, _, _, b, rfl, .ty n, tyx_dp h, kit_ty e, q⟩
theorem isiT_dp {K : PySem.W.Frag} {H : Hp} {x : V} {d : PyData} {tp : Addr} {n m : String} {b c : Bool} {Q : VK} (h : Dp K H x d) (ht : H tp = some (.tup [.ty n, .ty m])) (e : kitB (tyName d) n = some b) (e2 : kitB (tyName d) m = some c) (q : Q (.bl (b || c)) H) : rIsiT K [x, .ref tp] H Q := by
  refine ⟨x, tp, _, _, [.type n, .type m], b || c, rfl, ht, .cons (.ty n) (.cons (.ty m) .nil), tyx_dp h, kitAny_cons (kit_ty e) (fun hb => ?_) (fun hb => by rw [hb]; rfl), q⟩
  subst hb
  exact kitAny_cons (r := c) (kit_ty e2) (fun hc => by rw [hc]; exact kitAny_nil) (fun hc => hc)
theorem kb_NoneType_tuple : kitB "NoneType" "tuple" = some false := by decide +kernel
theorem kb_NoneType_list : kitB "NoneType" "list" = some false := by decide +kernel
theorem kb_NoneType_str : kitB "NoneType" "str" = some false := by decide +kernel
theorem kb_NoneType_int : kitB "NoneType" "int" = some false := by decide +kernel
theorem kb_NoneType_bool : kitB "NoneType" "bool" = some false := by decide +kernel
theorem kb_bool_tuple : kitB "bool" "tuple" = some false := by decide +kernel
theorem kb_bool_list : kitB "bool" "list" = some false := by decide +kernel
theorem kb_bool_str : kitB "bool" "str" = some false := by decide +kernel
theorem kb_bool_int : kitB "bool" "int" = some true := by decide +kernel
theorem kb_bool_bool : kitB "bool" "bool" = some true := by decide +kernel
theorem kb_int_tuple : kitB "int" "tuple" = some false := by decide +kernel
theorem kb_int_list : kitB "int" "list" = some false := by decide +kernel
theorem kb_int_str : kitB "int" "str" = some false := by decide +kernel
theorem kb_int_int : kitB "int" "int" = some true := by decide +kernel
theorem kb_int_bool : kitB "int" "bool" = some false := by decide +kernel
theorem kb_str_tuple : kitB "str" "tuple" = some false := by decide +kernel
theorem kb_str_list : kitB "str" "list" = some false := by decide +kernel
theorem kb_str_str : kitB "str" "str" = some true := by decide +kernel
theorem kb_str_int : kitB "str" "int" = some false := by decide +kernel
theorem kb_str_bool : kitB "str" "bool" = some false := by decide +kernel
theorem kb_list_tuple : kitB "list" "tuple" = some false := by decide +kernel
theorem kb_list_list : kitB "list" "list" = some true := by decide +kernel
theorem kb_list_str : kitB "list" "str" = some false := by decide +kernel
theorem kb_list_int : kitB "list" "int" = some false := by decide +kernel
theorem kb_list_bool : kitB "list" "bool" = some false := by decide +kernel
theorem kb_tuple_tuple : kitB "tuple" "tuple" = some true := by decide +kernel
theorem kb_tuple_list : kitB "tuple" "list" = some false := by decide +kernel
theorem kb_tuple_str : kitB "tuple" "str" = some false := by decide +kernel
theorem kb_tuple_int : kitB "tuple" "int" = some false := by decide +kernel
theorem kb_tuple_bool : kitB "tuple" "bool" = some false := by decide +kernel
mutual
/-- every list and tuple within is of bounded length -/
def smallD : PyData → Bool
  | .list xs => decide (xs.length ≤ 100000) && smallAll xs
  | .tuple xs => decide (xs.length ≤ 100000) && smallAll xs
  | .none => true
  | .bool _ => true
  | .int _ => true
  | .str _ => true
  | .dict _ => true
def smallAll : List PyData → Bool
  | [] => true
  | x :: r => smallD x && smallAll r
end
theorem small_in : ∀ {ds : List PyData}, smallAll ds = true → ∀ d ∈ ds, smallD d = true
  | [], _, _, h => nomatch h
  | x :: r, h, d, hd => by
    simp only [smallAll, Bool.and_eq_true] at h
    rcases List.mem_cons.mp hd with e | e
    · rw [e]; exact h.1
    · exact small_in h.2 d e
theorem smallAll_of : ∀ {ds : List PyData}, (∀ d ∈ ds, smallD d = true) → smallAll ds = true
  | [], _ => by simp only [smallAll]
  | x :: r, h => by
    simp only [smallAll]
    rw [h x (List.mem_cons_self ..), smallAll_of fun d hd => h d (List.mem_cons_of_mem _ hd)]; rfl
theorem smallL_of {ds : List PyData} (hl : ds.length ≤ 100000) (h : ∀ d ∈ ds, smallD d = true) : smallD (.list ds) = true := by
  simp only [smallD]
  rw [decide_eq_true hl, smallAll_of h]; rfl
theorem smallT_of {ds : List PyData} (hl : ds.length ≤ 100000) (h : ∀ d ∈ ds, smallD d = true) : smallD (.tuple ds) = true := by
  simp only [smallD]
  rw [decide_eq_true hl, smallAll_of h]; rfl
/-! ### == of data -/
theorem dpAll_map {K : PySem.W.Frag} {H : Hp} {α : Type} {f : α → V} {g : α → PyData} : ∀ {xs : List α}, (∀ a ∈ xs, Dp K H (f a) (g a)) → DpAll K H (xs.map f) (xs.map g)
  | [], _ => .nil
  | a :: r, h => .cons (h a (List.mem_cons_self ..)) (dpAll_map fun b hb => h b (List.mem_cons_of_mem _ hb))
mutual
theorem dp_same {K : PySem.W.Frag} {H H' : Hp} (s : Same H H') : ∀ {v : V} {d : PyData}, Dp K H v d → Dp K H' v d
  | _, _, .non => .non
  | _, _, .bl b => .bl b
  | _, _, .int i => .int i
  | _, _, .str x => .str x
  | _, _, .lst h a => .lst (s.seq h) (dpAll_same s a)
  | _, _, .tup h a => .tup (same_tup s h) (dpAll_same s a)
theorem dpAll_same {K : PySem.W.Frag} {H H' : Hp} (s : Same H H') : ∀ {vs : List V} {ds : List PyData}, DpAll K H vs ds → DpAll K H' vs ds
  | _, _, .nil => .nil
  | _, _, .cons h a => .cons (dp_same s h) (dpAll_same s a)
end
theorem dpAll_len {K : PySem.W.Frag} {H : Hp} : ∀ {vs : List V} {ds : List PyData}, DpAll K H vs ds → vs.length = ds.length
  | _, _, .nil => rfl
  | _, _, .cons _ a => by rw [List.length_cons, List.length_cons, dpAll_len a]
theorem dpAll_get {K : PySem.W.Frag} {H : Hp} : ∀ {vs : List V} {ds : List PyData} {i : Nat} {d : PyData}, DpAll K H vs ds → ds[i]? = some d → ∃ v, vs[i]? = some v ∧ Dp K H v d
  | _, _, _, _, .nil, e => by simp at e
  | _, _, 0, _, .cons h _, e => by simp at e; subst e; exact ⟨_, rfl, h⟩
  | _, _, i + 1, _, .cons _ a, e => by
    obtain ⟨v, e1, e2⟩ := dpAll_get (i := i) a (by simpa using e)
    exact ⟨v, by simpa using e1, e2⟩
theorem depth_in : ∀ {ds : List PyData} {d : PyData}, d ∈ ds → d.depth ≤ PyData.depthAll ds
  | [], _, h => nomatch h
  | x :: r, d, h => by
    simp only [PyData.depthAll]
    rcases List.mem_cons.mp h with e | e
    · rw [e]; exact Nat.le_max_left _ _
    · exact Nat.le_trans (depth_in e) (Nat.le_max_right _ _)
theorem canAll_of : ∀ {ds : List PyData}, (∀ d ∈ ds, d.canLay0 = true) → PyData.canLayAll0 ds = true
  | [], _ => by simp only [PyData.canLayAll0]
  | d :: r, h => by
    simp only [PyData.canLayAll0]
    rw [h d (List.mem_cons_self ..), canAll_of fun b hb => h b (List.mem_cons_of_mem _ hb)]; rfl
theorem depthAll_of {k : Nat} : ∀ {ds : List PyData}, (∀ d ∈ ds, d.depth ≤ k) → PyData.depthAll ds ≤ k
  | [], _ => by simp only [PyData.depthAll]; omega
  | d :: r, h => by
    simp only [PyData.depthAll]
    exact Nat.max_le.mpr ⟨h d (List.mem_cons_self ..), depthAll_of fun b hb => h b (List.mem_cons_of_mem _ hb)⟩
theorem shaped_list {ds : List PyData} (k : Nat) (hk : k ≤ 63) (h : ∀ d ∈ ds, d.canLay0 = true ∧ d.depth ≤ k) : SeqAt.shaped (.list ds) = true := by
  unfold SeqAt.shaped
  refine Bool.and_eq_true_iff.mpr ⟨?_, decide_eq_true ?_⟩
  · simp only [PyData.canLay0]
    exact canAll_of fun d hd => (h d hd).1
  · have := depthAll_of fun d hd => (h d hd).2
    simp only [PyData.depth]
    omega
theorem shaped_tuple {ds : List PyData} (k : Nat) (hk : k ≤ 63) (h : ∀ d ∈ ds, d.canLay0 = true ∧ d.depth ≤ k) : SeqAt.shaped (.tuple ds) = true := by
  unfold SeqAt.shaped
  refine Bool.and_eq_true_iff.mpr ⟨?_, decide_eq_true ?_⟩
  · simp only [PyData.canLay0]
    exact canAll_of fun d hd => (h d hd).1
  · have := depthAll_of fun d hd => (h d hd).2
    simp only [PyData.depth]
    omega
theorem shaped_ints (ns : List Int) : SeqAt.shaped (.list (ns.map PyData.int)) = true := shaped_list 0 (by decide) fun d hd => by
  obtain ⟨n, _, rfl⟩ := List.mem_map.mp hd
  exact ⟨by simp only [PyData.canLay0], by simp only [PyData.depth]; omega⟩
theorem eqv_nil (ds : List PyData) : PyData.eqv (.list ds) (.list []) = ds.isEmpty := by
  cases ds with
  | nil => simp only [PyData.eqv, PyData.eqvAll]; rfl
  | cons d r => simp only [PyData.eqv, PyData.eqvAll]; rfl
theorem cut_last {xs : List V} : cutV xs none (some (-1)) = xs.dropLast := by
  unfold cutV
  rw [HT.sIx_none]
  have e : HT.sIx xs.length xs.length (some (-1)) = xs.length - 1 := by
    unfold HT.sIx
    simp only
    rw [if_pos (show (-1 : Int) < 0 by decide)]
    omega
  rw [e, List.drop_zero, Nat.sub_zero, List.dropLast_eq_take]
/-! ### texts of signs -/
theorem joinL_nil : ∀ ps : List (List Nat), TL.joinL [] ps = ps.flatten
  | [] => rfl
  | [p] => by simp [TL.joinL]
  | p :: q :: r => by
    show p ++ ([] ++ TL.joinL [] (q :: r)) = _
    rw [joinL_nil (q :: r)]; simp
theorem tl_signs (cs : List Nat) : TL.tl (Txt.join (Str.ofString "") (cs.map fun c => (⟨#[c]⟩ : Str))) = cs := by
  rw [TL.join_eq, TL.tl_join, show TL.tl (Str.ofString "") = [] by decide +kernel, joinL_nil, List.map_map]
  induction cs with
  | nil => rfl
  | cons c r ih =>
    show [c] ++ _ = _
    rw [ih]; rfl
/-! ### a block cut in two: R is what is known between -/
def tCutE (t u : TS) : TS := fun D σ H => ∃ R : L2.St → Hp → Prop, t { D with nx := R } σ H ∧ ∀ σ' H', R σ' H' → u D σ' H'
theorem pss_cutE {X : Cx} {st : Stmt} {rest : List Stmt} {t u : TS} (h1 : PS X st t) (h2 : PSs X rest u) : PSs X (st :: rest) (tCutE t u) := by
  refine ⟨fun pins s σ H D I ⟨R, h, hr⟩ => ?_⟩
  refine wpAny_execs_cons (thn (h1.run pins s σ H { D with nx := R } I h) fun f s1 q => ?_)
  cases f with
  | next =>
    obtain ⟨σ', H', I', q⟩ := q
    exact h2.run pins s1 σ' H' D I' (hr σ' H' q)
  | ret v => exact q
  | brk => exact q
  | cont => exact q
theorem newF {H H3 : Hp} {p : Addr} {o : HO} (hH : upd H p o = H3) (hp : H p = none) : Same H H3 ∧ H3 p = some o := by
  subst hH
  exact ⟨same_put (Same.refl _) hp, upd_same⟩
/-! ### a heap without one object -/
def offA (p : Addr) (H : Hp) : Hp := fun b => if b = p then none else H b
theorem offA_ne {p b : Addr} {H : Hp} (h : b ≠ p) : offA p H b = H b := if_neg h
theorem offA_upd {p : Addr} {H : Hp} {o : HO} : offA p (upd H p o) = offA p H := by
  funext b; unfold offA upd
  split <;> rfl
theorem offA_same {p : Addr} {H : Hp} : Same (offA p H) H := fun b o h => by
  unfold offA at h
  split at h
  · cases h
  · exact h
theorem offA_mono {p : Addr} {H H' : Hp} (s : Same H H') : Same (offA p H) (offA p H') := fun b o h => by
  unfold offA at h ⊢
  split at h
  · cases h
  · rename_i n; rw [if_neg n]; exact s b o h
theorem dpAll_snoc {K : PySem.W.Frag} {H : Hp} {v : V} {d : PyData} (h1 : Dp K H v d) : ∀ {vs : List V} {ds : List PyData}, DpAll K H vs ds → DpAll K H (vs ++ [v]) (ds ++ [d])
  | _, _, .nil => .cons h1 .nil
  | _, _, .cons a b => .cons a (dpAll_snoc h1 b)
theorem ext_off {S : Addr → Prop} {p : Addr} {H H' : Hp} (s : Ext S H H') : Ext S (offA p H) (offA p H') := fun b o n h => by
  unfold offA at h ⊢
  split at h
  · cases h
  · rename_i z; rw [if_neg z]; exact s b o n h
/-- a comprehension: what is known of the heap without the new list goes with what is gathered -/
theorem lc_accH {J : It} {n : Nat} {G : Hp → Prop} {Y : Nat → Hp → V → Hp → Prop} (w : Walk J n G Y) {g : TG} {tt : TT} {te : TE} {vs : List Nat} {σ : L2.St} {H1 : Hp} {Q : VK} (S : Addr → Prop) (Jv : Nat → List V → Hp → Prop)
    (hn : n < sizeLine) (nD : ∀ D, H1 D = none → ¬ S D) (h0 : Jv 0 [] H1) (hG : ∀ H D i acc, H1 D = none → Ext S H1 H → Jv i acc (offA D H) → G H)
    (hs : ∀ D i x H H' acc (R : Option V → Hp → Prop), H1 D = none → H D = some (.lst acc) → i < n → Ext S H1 H → Jv i acc (offA D H) → Y i H x H' →
      (∀ H2, Ext S H H2 → Jv (i + 1) acc (offA D H2) → R none H2) → (∀ y H2, Ext S H H2 → Jv (i + 1) (acc ++ [y]) (offA D H2) → R (some y) H2) →
      g x (wipe σ vs) H' fun σ2 H2 => wipe σ2 vs = wipe σ vs ∧ tt σ2 H2 fun b H3 => if b = true then te σ2 H3 (fun y H4 => R (some y) H4) else R none H3)
    (hd : ∀ D acc H, H1 D = none → acc.length ≤ n → Ext S H1 H → Jv n acc (offA D H) → H D = some (.lst acc) → Q (.ref D) H) : LcG J g tt te vs σ H1 Q := by
  intro D fD
  have nD := nD D fD
  have e0 : offA D (upd H1 D (.lst [])) = H1 := by
    rw [offA_upd]; funext b; unfold offA
    split
    · rename_i e; rw [e, fD]
    · rfl
  refine lc_it w (fun i H => ∃ acc, Jv i acc (offA D H) ∧ acc.length ≤ i ∧ Ext S H1 H ∧ H D = some (.lst acc)) ⟨[], by rw [e0]; exact h0, Nat.le_refl _, (Ext.refl S H1).put (.inl fD), upd_same⟩ (fun i H _ ⟨acc, j, _, e, _⟩ => hG H D i acc fD e j) (fun i x H H' hi hP hy => ?_)
    (fun H ⟨acc, p, l, e, hD⟩ => hd D acc H fD l e p hD)
  obtain ⟨acc, p, l, e, hD⟩ := hP
  refine hs D i x H H' acc (fun o H4 => match o with
    | some y => ∃ acc, H4 D = some (.lst acc) ∧ acc.length < sizeLine ∧ ∃ acc', Jv (i + 1) acc' (offA D (upd H4 D (.lst (acc ++ [y])))) ∧ acc'.length ≤ i + 1 ∧ Ext S H1 (upd H4 D (.lst (acc ++ [y]))) ∧ (upd H4 D (.lst (acc ++ [y]))) D = some (.lst acc')
    | none => ∃ acc', Jv (i + 1) acc' (offA D H4) ∧ acc'.length ≤ i + 1 ∧ Ext S H1 H4 ∧ H4 D = some (.lst acc')) fD hD hi e p hy (fun H2 e2 p2 => ?_) (fun y H2 e2 p2 => ?_)
  · exact ⟨acc, p2, Nat.le_succ_of_le l, e.trans e2, e2 D _ nD hD⟩
  · exact ⟨acc, e2 D _ nD hD, Nat.lt_of_le_of_lt (Nat.le_trans l (Nat.le_of_lt hi)) hn, acc ++ [y], by rw [offA_upd]; exact p2, by rw [List.length_append]; exact Nat.succ_le_succ l, (e.trans e2).put (.inl fD), upd_same⟩
/-! ### tuples at addresses -/
def TupsAt (H : Hp) : List Addr → List (List V) → Prop
  | [], [] => True
  | t :: ts, x :: xs => H t = some (.tup x) ∧ TupsAt H ts xs
  | _, _ => False
theorem TupsAt.mono {H H' : Hp} (e : ∀ t x, H t = some (.tup x) → H' t = some (.tup x)) : ∀ {ts : List Addr} {xs : List (List V)}, TupsAt H ts xs → TupsAt H' ts xs
  | [], [], _ => trivial
  | _ :: _, _ :: _, h => ⟨e _ _ h.1, TupsAt.mono e h.2⟩
  | [], _ :: _, h => h.elim
  | _ :: _, [], h => h.elim
theorem TupsAt.snoc {H : Hp} {t : Addr} {x : List V} (h1 : H t = some (.tup x)) : ∀ {ts : List Addr} {xs : List (List V)}, TupsAt H ts xs → TupsAt H (ts ++ [t]) (xs ++ [x])
  | [], [], _ => ⟨h1, trivial⟩
  | _ :: _, _ :: _, h => ⟨h.1, TupsAt.snoc h1 h.2⟩
  | [], _ :: _, h => h.elim
  | _ :: _, [], h => h.elim
theorem TupsAt.len {H : Hp} : ∀ {ts : List Addr} {xs : List (List V)}, TupsAt H ts xs → ts.length = xs.length
  | [], [], _ => rfl
  | _ :: _, _ :: _, h => by rw [List.length_cons, List.length_cons, TupsAt.len h.2]
  | [], _ :: _, h => h.elim
  | _ :: _, [], h => h.elim
theorem TupsAt.get {H : Hp} : ∀ {ts : List Addr} {xs : List (List V)} {i : Nat} {t : Addr}, TupsAt H ts xs → ts[i]? = some t → ∃ x, xs[i]? = some x ∧ H t = some (.tup x)
  | [], [], _, _, _, e => by simp at e
  | _ :: _, x :: _, 0, _, h, e => by simp at e; subst e; exact ⟨x, rfl, h.1⟩
  | _ :: _, _ :: _, i + 1, _, h, e => by
    obtain ⟨x, e1, e2⟩ := TupsAt.get (i := i) h.2 (by simpa using e)
    exact ⟨x, by simpa using e1, e2⟩
  | [], _ :: _, _, _, h, _ => h.elim
  | _ :: _, [], _, _, h, _ => h.elim
theorem TupsAt.dp {K : PySem.W.Frag} {H : Hp} {α : Type} {f : α → List V} {d : α → PyData} (hf : ∀ t a, H t = some (.tup (f a)) → Dp K H (.ref t) (d a)) : ∀ {ts : List Addr} {as : List α}, TupsAt H ts (as.map f) → DpAll K H (ts.map V.ref) (as.map d)
  | [], [], _ => .nil
  | _ :: _, _ :: _, h => .cons (hf _ _ h.1) (TupsAt.dp hf h.2)
  | [], _ :: _, h => h.elim
  | _ :: _, [], h => h.elim
theorem walk_tups {K : PySem.W.Frag} {D : Addr} {α : Type} {us : List Addr} {as : List α} (hl : us.length = as.length) : Walk (Itl K D) (us.zip as).length (fun H => SqL K H D (us.map V.ref)) (fun j H x H' => H' = H ∧ ∃ y, (us.zip as)[j]? = some y ∧ x = .ref y.1) := by
  have w := walk_listm (K := K) (a := D) us V.ref
  have el : (us.zip as).length = us.length := by rw [List.length_zip]; omega
  rw [el]
  refine w.mono (fun H h => h) (fun i H x H' hi _ y => ⟨y.1, ?_⟩)
  obtain ⟨t, e1, e2⟩ := y.2
  have hi2 : i < as.length := by omega
  refine ⟨(t, as[i]), List.getElem?_zip_eq_some.mpr ⟨e1, List.getElem?_eq_getElem hi2⟩, e2⟩
theorem TupsAt.zat {H : Hp} {α : Type} {f : α → List V} {us : List Addr} {as : List α} {j : Nat} {y : Addr × α} (h : TupsAt H us (as.map f)) (hy : (us.zip as)[j]? = some y) : H y.1 = some (.tup (f y.2)) ∧ y.2 ∈ as := by
  obtain ⟨h1, h2⟩ := List.getElem?_zip_eq_some.mp hy
  obtain ⟨x, e1, e2⟩ := h.get h1
  rw [List.getElem?_map, h2] at e1
  cases e1
  exact ⟨e2, List.mem_of_getElem? h2⟩
theorem zip_snd_map {α β : Type} {us : List Addr} {as : List α} (hl : us.length = as.length) (f : α → β) : (us.zip as).map (fun q => f q.2) = as.map f := by
  have : as = (us.zip as).map Prod.snd := by rw [List.map_snd_zip (by omega)]
  conv => rhs; rw [this, List.map_map]
  rfl
end Hk

set_option Elab.async false
set_option linter.all false
set_option maxRecDepth 100000
set_option maxHeartbeats 4000000
/-! Lines and patterns, in plain Lean. -/
namespace Hk
open PySem PySem.Spec PyProof.Rows L2 TL
abbrev letters : Str := "abcdefghijklmnopqrstuvwxyz"
def isWord (z : Str) : Bool := decide (1 ≤ z.length) && (decide (z.length ≤ 4) && (tl z).all fun c => decide (c ∈ tl letters))
def isLine (z : Str) : Bool := decide ((wds z).length ≤ 6) && (wds z).all isWord
/-- without the last one, if that is # -/
def cut (ws : List Str) : List Str := if ws.getLast? = some ("#" : Str) then ws.dropLast else ws
def starOr (z : Str) : Bool := decide (z = ("*" : Str)) || isWord z
def isPat (z : Str) : Bool := decide ((cut (wds z)).length ≤ 6) && (cut (wds z)).all starOr
/-- a pattern's words for lines of n -/
def ofLen (p : Str) (n : Int) : Option (List Str) :=
  let ws := wds p
  let us := if ws.getLast? = some ("#" : Str) then ws.dropLast ++ List.replicate (n - ws.dropLast.length).toNat ("*" : Str) else ws
  if (us.length : Int) = n then some us else none
def fit1 (q : Str × Str) : Bool := decide (q.1 = ("*" : Str)) || decide (q.1 = q.2)
def doesFit (p l : Str) : Bool := match ofLen p (wds l).length with
  | none => false
  | some ws => (ws.zip (wds l)).all fit1
theorem wds_ne (z : Str) : wds z ≠ [] := by
  intro h
  have e := split_spl z "." (by decide +kernel) (kind_ok (by decide +kernel))
  have h2 : (Txt.split z (".": Str)).map tl = [] := by
    show (wds z).map tl = []
    rw [h]; rfl
  rw [h2] at e
  have : ∀ (acc l : List Nat), spl (tl (".": Str)) 0 acc l ≠ [] := by
    intro acc l
    induction l generalizing acc with
    | nil => rw [spl_nil]; simp
    | cons c r ih =>
      cases q : pre (tl (".": Str)) (c :: r) with
      | true => rw [spl_hit q]; simp
      | false => rw [spl_miss q]; exact ih _
  exact this _ _ e.symm
theorem split_len_le (z y : Str) (hy : tl y ≠ []) (hk : ¬ Builtin.Str.strKind z < Builtin.Str.strKind y) : (Txt.split z y).length ≤ z.length + 1 := by
  have e := congrArg List.length (split_spl z y hy hk)
  rw [List.length_map] at e
  rw [e]
  have main : ∀ (k : Nat) (l acc : List Nat), l.length ≤ k → (spl (tl y) 0 acc l).length ≤ l.length + 1 := by
    intro k
    induction k with
    | zero =>
      intro l acc h
      have : l = [] := List.eq_nil_of_length_eq_zero (by omega)
      subst this
      rw [spl_nil]; simp
    | succ k ih =>
      intro l acc h
      cases l with
      | nil => rw [spl_nil]; simp
      | cons c r =>
        cases q : pre (tl y) (c :: r) with
        | true =>
          rw [spl_hit q, spl_pass]
          have := ih (r.drop ((tl y).length - 1)) [] (by simp at h; rw [List.length_drop]; omega)
          rw [List.length_drop] at this
          simp only [List.length_cons]
          omega
        | false =>
          rw [spl_miss q]
          have := ih r (acc ++ [c]) (by simpa using h)
          simp only [List.length_cons]
          omega
  have := main _ (tl z) [] (Nat.le_refl _)
  rw [len_tl]; exact this
theorem wds_len (z : Str) : (wds z).length ≤ z.length + 1 := split_len_le z "." (by decide +kernel) (kind_ok (by decide +kernel))
theorem wds_join {ws : List Str} (hne : ws ≠ []) (h : ∀ p ∈ ws, 46 ∉ tl p) : wds (Txt.join "." ws) = ws :=
  split_join (y := ".") (s := 46) (S := []) (by decide +kernel) (by decide +kernel) hne h
/-- every word that a text is cut into is as long as the text at most -/
theorem split_each_le (z y : Str) (hy : tl y ≠ []) (hk : ¬ Builtin.Str.strKind z < Builtin.Str.strKind y) : ∀ w ∈ Txt.split z y, w.length ≤ z.length := by
  intro w hw
  have e := split_spl z y hy hk
  have hm : tl w ∈ spl (tl y) 0 [] (tl z) := by
    rw [← e]; exact List.mem_map.mpr ⟨w, hw, rfl⟩
  have main : ∀ (k : Nat) (l acc : List Nat), l.length ≤ k → ∀ x ∈ spl (tl y) 0 acc l, x.length ≤ acc.length + l.length := by
    intro k
    induction k with
    | zero =>
      intro l acc h x hx
      have : l = [] := List.eq_nil_of_length_eq_zero (by omega)
      subst this
      rw [spl_nil] at hx
      simp at hx; subst hx; simp
    | succ k ih =>
      intro l acc h x hx
      cases l with
      | nil => rw [spl_nil] at hx; simp at hx; subst hx; simp
      | cons c r =>
        cases q : pre (tl y) (c :: r) with
        | true =>
          rw [spl_hit q, spl_pass] at hx
          rcases List.mem_cons.mp hx with rfl | hx
          · simp
          · have := ih (r.drop ((tl y).length - 1)) [] (by simp at h; rw [List.length_drop]; omega) x hx
            rw [List.length_drop] at this
            simp only [List.length_cons, List.length_nil] at this ⊢
            omega
        | false =>
          rw [spl_miss q] at hx
          have := ih r (acc ++ [c]) (by simpa using h) x hx
          simp only [List.length_cons, List.length_append, List.length_nil] at this ⊢
          omega
  have := main _ (tl z) [] (Nat.le_refl _) _ hm
  rw [len_tl w, len_tl z]
  simpa using this
theorem wds_each (z : Str) : ∀ w ∈ wds z, w.length ≤ z.length := split_each_le z "." (by decide +kernel) (kind_ok (by decide +kernel))
/-- .. and of its signs -/
theorem split_mem (z y : Str) (hy : tl y ≠ []) (hk : ¬ Builtin.Str.strKind z < Builtin.Str.strKind y) : ∀ w ∈ Txt.split z y, ∀ c ∈ tl w, c ∈ tl z := by
  intro w hw
  have e := split_spl z y hy hk
  have hm : tl w ∈ spl (tl y) 0 [] (tl z) := by
    rw [← e]; exact List.mem_map.mpr ⟨w, hw, rfl⟩
  have main : ∀ (k : Nat) (l acc : List Nat), l.length ≤ k → ∀ x ∈ spl (tl y) 0 acc l, ∀ c ∈ x, c ∈ acc ∨ c ∈ l := by
    intro k
    induction k with
    | zero =>
      intro l acc h x hx
      have : l = [] := List.eq_nil_of_length_eq_zero (by omega)
      subst this
      rw [spl_nil] at hx
      simp at hx; subst hx; exact fun c hc => .inl hc
    | succ k ih =>
      intro l acc h x hx
      cases l with
      | nil => rw [spl_nil] at hx; simp at hx; subst hx; exact fun c hc => .inl hc
      | cons c r =>
        cases q : pre (tl y) (c :: r) with
        | true =>
          rw [spl_hit q, spl_pass] at hx
          rcases List.mem_cons.mp hx with rfl | hx
          · exact fun c hc => .inl hc
          · have := ih (r.drop ((tl y).length - 1)) [] (by simp at h; rw [List.length_drop]; omega) x hx
            intro d hd
            rcases this d hd with z | z
            · cases z
            · exact .inr (List.mem_cons_of_mem _ (List.mem_of_mem_drop z))
        | false =>
          rw [spl_miss q] at hx
          have := ih r (acc ++ [c]) (by simpa using h) x hx
          intro d hd
          rcases this d hd with z | z
          · rcases List.mem_append.mp z with z | z
            · exact .inl z
            · rw [List.mem_singleton.mp z]; exact .inr (List.mem_cons_self ..)
          · exact .inr (List.mem_cons_of_mem _ z)
  intro c hc
  rcases main _ (tl z) [] (Nat.le_refl _) _ hm c hc with z | z
  · cases z
  · exact z
theorem strOk_iff {z : Str} : PyData.strOk z = true ↔ ∀ c ∈ tl z, c < 1114112 := by
  unfold PyData.strOk
  rw [Array.all_eq_true_iff_forall_mem]
  constructor
  · intro h c hc
    have := h c (Array.mem_toList_iff.mp hc)
    simpa using this
  · intro h c hc
    have := h c (Array.mem_toList_iff.mpr hc)
    simpa using this
theorem split_ok {z y : Str} (hy : tl y ≠ []) (hk : ¬ Builtin.Str.strKind z < Builtin.Str.strKind y) (h : PyData.strOk z = true) : ∀ w ∈ Txt.split z y, PyData.strOk w = true := fun w hw =>
  strOk_iff.mpr fun c hc => strOk_iff.mp h c (split_mem z y hy hk w hw c hc)
theorem shaped_strs {us : List Str} (h : ∀ z ∈ us, PyData.strOk z = true) : SeqAt.shaped (.list (us.map PyData.str)) = true := by
  unfold SeqAt.shaped
  refine Bool.and_eq_true_iff.mpr ⟨?_, decide_eq_true ?_⟩
  · simp only [PyData.canLay0]
    rw [canLayAll_strs', List.all_eq_true]; exact h
  · have : ∀ us : List Str, PyData.depthAll (us.map PyData.str) ≤ 0 := fun us => by
      induction us with
      | nil => simp only [List.map_nil, PyData.depthAll]; omega
      | cons a r ih =>
        simp only [List.map_cons, PyData.depthAll, PyData.depth]
        exact Nat.max_le.mpr ⟨Nat.le_refl _, ih⟩
    have := this us
    simp only [PyData.depth]
    omega
theorem sum_le {ws : List Str} {k : Nat} (h : ∀ w ∈ ws, w.length ≤ k) : (ws.map (·.length)).sum ≤ ws.length * k := by
  induction ws with
  | nil => simp
  | cons a r ih =>
    have h1 := h a (List.mem_cons_self ..)
    have h2 := ih fun w hw => h w (List.mem_cons_of_mem _ hw)
    simp only [List.map_cons, List.sum_cons, List.length_cons]
    rw [Nat.add_mul]; omega
theorem sum_one (cs : List Nat) : ((cs.map fun c => (⟨#[c]⟩ : Str)).map (·.length)).sum = cs.length := by
  induction cs with
  | nil => rfl
  | cons a r ih =>
    simp only [List.map_cons, List.sum_cons, List.length_cons]
    rw [ih]
    show 1 + r.length = _
    omega
theorem joinL_len (S : List Nat) : ∀ ps : List (List Nat), (joinL S ps).length ≤ (ps.map List.length).sum + ps.length * S.length
  | [] => by simp [joinL]
  | [p] => by simp [joinL]
  | p :: q :: r => by
    have := joinL_len S (q :: r)
    show (p ++ (S ++ joinL S (q :: r))).length ≤ _
    simp only [List.length_append, List.map_cons, List.sum_cons, List.length_cons] at this ⊢
    rw [Nat.add_mul _ 1, Nat.one_mul]
    omega
theorem join_len (s : Str) (ws : List Str) : (Txt.join s ws).length ≤ (ws.map (·.length)).sum + ws.length * s.length := by
  have := joinL_len (tl s) (ws.map tl)
  rw [len_tl (Txt.join s ws), join_eq, tl_join, len_tl s]
  rw [List.map_map, List.length_map] at this
  have e : (ws.map (List.length ∘ tl)) = ws.map (·.length) := List.map_congr_left fun w _ => (len_tl w).symm
  rw [e] at this
  exact this
theorem joinD_len {ws : List Str} {k : Nat} (h : ∀ w ∈ ws, w.length ≤ k) : (Txt.join "." ws).length ≤ ws.length * (k + 1) := by
  have h1 := join_len "." ws
  have h2 := sum_le h
  have e : ("." : Str).length = 1 := by decide +kernel
  rw [e] at h1
  rw [Nat.mul_add]
  omega
theorem letters_in : ∀ c ∈ tl letters, 97 ≤ c ∧ c ≤ 122 := by decide +kernel
theorem word_signs {z : Str} (h : isWord z = true) : 1 ≤ z.length ∧ z.length ≤ 4 ∧ ∀ c ∈ tl z, 97 ≤ c ∧ c ≤ 122 := by
  unfold isWord at h
  simp only [Bool.and_eq_true, decide_eq_true_eq, List.all_eq_true] at h
  exact ⟨h.1, h.2.1, fun c hc => letters_in c (h.2.2 c hc)⟩
theorem star_signs {z : Str} (h : starOr z = true) : z.length ≤ 4 ∧ (∀ c ∈ tl z, c = 42 ∨ (97 ≤ c ∧ c ≤ 122)) ∧ z ≠ ("#" : Str) := by
  unfold starOr at h
  rcases Bool.or_eq_true_iff.mp h with h | h
  · have e := of_decide_eq_true h
    subst e
    refine ⟨by decide +kernel, ?_, by decide +kernel⟩
    have : tl ("*" : Str) = [42] := by decide +kernel
    rw [this]
    intro c hc; left; simpa using hc
  · obtain ⟨h1, h2, h3⟩ := word_signs h
    refine ⟨h2, fun c hc => .inr (h3 c hc), fun e => ?_⟩
    subst e
    have := h3 35 (by decide +kernel)
    omega
theorem word_star {z : Str} (h : isWord z = true) : starOr z = true := by unfold starOr; rw [h]; simp
theorem star_nodot {z : Str} (h : starOr z = true) : 46 ∉ tl z := fun hc => by
  rcases (star_signs h).2.1 46 hc with e | e
  · cases e
  · omega
/-- a pattern of such words; with # behind -/
theorem isPat_join {us : List Str} (hne : us ≠ []) (hl : us.length ≤ 6) (h : ∀ u ∈ us, starOr u = true) : isPat (Txt.join "." us) = true := by
  have e : wds (Txt.join "." us) = us := wds_join hne fun p hp => star_nodot (h p hp)
  unfold isPat
  rw [e]
  have ec : cut us = us := by
    unfold cut
    refine if_neg fun z => ?_
    have := List.mem_of_getLast? z
    exact (star_signs (h _ this)).2.2 rfl
  rw [ec, decide_eq_true hl, List.all_eq_true.mpr h]; rfl
theorem isPat_hash {us : List Str} (hl : us.length ≤ 6) (h : ∀ u ∈ us, starOr u = true) : isPat (Txt.join "." (us ++ [("#" : Str)])) = true := by
  have e : wds (Txt.join "." (us ++ [("#" : Str)])) = us ++ [("#" : Str)] := wds_join (by simp) fun p hp => by
    rcases List.mem_append.mp hp with hp | hp
    · exact star_nodot (h p hp)
    · rw [List.mem_singleton.mp hp]; decide +kernel
  unfold isPat
  rw [e]
  have ec : cut (us ++ [("#" : Str)]) = us := by
    unfold cut
    rw [if_pos (by simp)]
    simp
  rw [ec, decide_eq_true hl, List.all_eq_true.mpr h]; rfl
theorem isLine_join {us : List Str} (hne : us ≠ []) (hl : us.length ≤ 6) (h : ∀ u ∈ us, isWord u = true) : isLine (Txt.join "." us) = true := by
  have e : wds (Txt.join "." us) = us := wds_join hne fun p hp => star_nodot (word_star (h p hp))
  unfold isLine
  rw [e, decide_eq_true hl, List.all_eq_true.mpr h]; rfl
/-- words of few letters, one to four of them each -/
def fewWord (z : Str) : Prop := 1 ≤ z.length ∧ z.length ≤ 4 ∧ ∀ c ∈ tl z, c = 97 ∨ c = 98 ∨ c = 122
theorem few_word {z : Str} (h : fewWord z) : isWord z = true := by
  unfold isWord
  rw [decide_eq_true h.1, decide_eq_true h.2.1, Bool.true_and, Bool.true_and, List.all_eq_true]
  intro c hc
  refine decide_eq_true ?_
  rcases h.2.2 c hc with e | e | e
  · rw [e]; decide +kernel
  · rw [e]; decide +kernel
  · rw [e]; decide +kernel
end Hk

set_option Elab.async false
set_option linter.all false
namespace Hk
open PySem PySem.Spec PyProof.Rows L2
theorem eqv_strs : ∀ xs ys : List Str, PyData.eqvAll (xs.map PyData.str) (ys.map PyData.str) = decide (xs = ys)
  | [], [] => by simp [PyData.eqvAll]
  | [], _ :: _ => by simp [PyData.eqvAll]
  | _ :: _, [] => by simp [PyData.eqvAll]
  | x :: r, y :: q => by
    simp only [List.map_cons, PyData.eqvAll, PyData.eqv, eqv_strs r q]
    rw [Bool.eq_iff_iff]
    simp
end Hk

set_option Elab.async false
set_option linter.all false
set_option maxRecDepth 100000
set_option maxHeartbeats 4000000
/-! Patterns beside patterns, in plain Lean. -/
namespace Hk
open PySem PySem.Spec PyProof.Rows L2 TL
def nar1 (p q : Str) (k : Nat) : Bool := match ofLen p ((k : Int) + 1) with
  | none => true
  | some ms => match ofLen q ((k : Int) + 1) with
    | none => false
    | some ts => (ms.zip ts).all fun x => decide (x.2 = ("*" : Str)) || decide (x.2 = x.1)
def narrowerM (p q : Str) : Bool := (List.range 6).all (nar1 p q)
def met1 (x : Str × Str) : Str := if x.1 = ("*" : Str) ∧ x.2 = ("*" : Str) then ("a" : Str) else if x.1 = ("*" : Str) then x.2 else x.1
def can1 (x : Str × Str) : Bool := decide (x.1 = ("*" : Str)) || (decide (x.2 = ("*" : Str)) || decide (x.1 = x.2))
def mee1 (p q : Str) (k : Nat) : Option Str := match ofLen p ((k : Int) + 1) with
  | none => none
  | some ms => match ofLen q ((k : Int) + 1) with
    | none => none
    | some ts => if (ms.zip ts).all can1 = true then some (Txt.join "." ((ms.zip ts).map met1)) else none
def meetsM (p q : Str) : Option Str := (List.range 6).findSome? (mee1 p q)
theorem range_all {f : Nat → Bool} {i n : Nat} (h : (List.range i).all f = true) (hf : f i = true) : (List.range (i + 1)).all f = true := by
  rw [List.range_succ, List.all_append, h]; simp [hf]
theorem range_not {f : Nat → Bool} {i n : Nat} (hi : i < n) (hf : f i = false) : (List.range n).all f = false := by
  rw [Bool.eq_false_iff]
  intro h
  have := List.all_eq_true.mp h i (List.mem_range.mpr hi)
  rw [hf] at this; cases this
theorem range_none {α : Type} {f : Nat → Option α} {i : Nat} (h : (List.range i).findSome? f = none) (hf : f i = none) : (List.range (i + 1)).findSome? f = none := by
  rw [List.range_succ, List.findSome?_append, h]; simp [hf]
theorem range_some {α : Type} {f : Nat → Option α} {i n : Nat} {a : α} (hi : i < n) (h : (List.range i).findSome? f = none) (hf : f i = some a) : (List.range n).findSome? f = some a := by
  have e : List.range n = List.range i ++ (i :: (List.range (n - i - 1)).map (fun k => i + 1 + k)) := by
    apply List.ext_getElem
    · simp; omega
    · intro j h1 h2
      simp only [List.getElem_range]
      rw [List.getElem_append]
      split
      · simp
      · rename_i hj
        simp at hj h1
        rw [List.getElem_cons]
        split
        · rename_i e; simp at e; omega
        · rename_i e; simp at e ⊢; omega
  rw [e, List.findSome?_append, h]
  simp [hf]
end Hk

set_option Elab.async false
set_option linter.all false
set_option maxRecDepth 100000
set_option maxHeartbeats 4000000
/-! Functions as values: closures that outlive the frame that made them. -/
namespace Hk
open PySem PySem.Spec PyProof.Rows L2 LamX NdefX
/-! ### cells that are tracked -/
/-- the cell at c holds v; its object is ob -/
def CellO (c : Addr) (v : V) (ob : Obj) : HO := .frz ob (.ext fun h => ∃ u, L2.RelV v u ∧ h.IsCell c (some u))
def IsC (H : Hp) (c : Addr) (v : V) : Prop := ∃ ob, H c = some (CellO c v ob)
theorem IsC.ext {H H' : Hp} {c : Addr} {v : V} (h : IsC H c v) (e : ∀ ob, H c = some (CellO c v ob) → H' c = some (CellO c v ob)) : IsC H' c v := h.elim fun ob q => ⟨ob, e ob q⟩
theorem cellO_ok {P : Program} {w : World} {H : Hp} {h : Heap} {c : Addr} {v : V} {u : Value} {ob : Obj} (r : L2.RelV v u) (e : h.get? c = some ob) (d : ob.data = .cell (some u)) : ObjOk P w H h c (CellO c v ob) :=
  ⟨e, ⟨u, r, ob, e, d⟩, ⟨ob, e⟩, fun h1 h2 ⟨u, r, o, e, d⟩ st => ⟨u, r, o, st _ e, d⟩⟩
theorem cellO_at {P : Program} {w : World} {H : Hp} {h : Heap} {c : Addr} {v : V} {ob : Obj} (x : ObjOk P w H h c (CellO c v ob)) : h.get? c = some ob ∧ ∃ u, L2.RelV v u ∧ ob.data = .cell (some u) := by
  obtain ⟨e, ⟨u, r, o, e2, d⟩, _⟩ := x
  rw [e] at e2
  cases e2
  exact ⟨e, u, r, d⟩
/-- is one of the cells of cl -/
def InC (cl : List (Str × Addr)) (a : Addr) : Prop := ∃ y, cl.lookup y = some a
open Classical in
/-- H without these cells -/
noncomputable def delC (cl : List (Str × Addr)) (H : Hp) : Hp := fun a => if InC cl a then none else H a
open Classical in
/-- H with these cells as they are in G -/
noncomputable def putC (cl : List (Str × Addr)) (G H : Hp) : Hp := fun a => if InC cl a then G a else H a
theorem delC_in {cl : List (Str × Addr)} {H : Hp} {a : Addr} (h : InC cl a) : delC cl H a = none := by unfold delC; exact if_pos h
theorem delC_out {cl : List (Str × Addr)} {H : Hp} {a : Addr} (h : ¬ InC cl a) : delC cl H a = H a := by unfold delC; exact if_neg h
theorem putC_in {cl : List (Str × Addr)} {G H : Hp} {a : Addr} (h : InC cl a) : putC cl G H a = G a := by unfold putC; exact if_pos h
theorem putC_out {cl : List (Str × Addr)} {G H : Hp} {a : Addr} (h : ¬ InC cl a) : putC cl G H a = H a := by unfold putC; exact if_neg h
/-- the captured names fr, each in a cell of its own that holds what ws says -/
structure CapsAt (cl : List (Str × Addr)) (fr : List Str) (ws : List V) (H : Hp) : Prop where
  len : ws.length = fr.length
  inj : ∀ x y c, cl.lookup x = some c → cl.lookup y = some c → x = y
  only : ∀ y c, cl.lookup y = some c → y ∈ fr
  has : ∀ (i : Nat) (y : Str), fr[i]? = some y → ∃ c v, cl.lookup y = some c ∧ ws[i]? = some v ∧ IsC H c v
theorem CapsAt.tr {cl : List (Str × Addr)} {fr : List Str} {ws : List V} {H : Hp} (C : CapsAt cl fr ws H) {a : Addr} (h : InC cl a) : ∃ v, IsC H a v := by
  obtain ⟨y, e⟩ := h
  obtain ⟨i, hi⟩ := List.mem_iff_getElem?.mp (C.only y a e)
  obtain ⟨c, v, e1, _, e3⟩ := C.has i y hi
  rw [e] at e1
  cases e1
  exact ⟨v, e3⟩
theorem CapsAt.mono {cl : List (Str × Addr)} {fr : List Str} {ws : List V} {H H' : Hp} (C : CapsAt cl fr ws H) (e : ∀ a, InC cl a → ∀ v, IsC H a v → IsC H' a v) : CapsAt cl fr ws H' :=
  ⟨C.len, C.inj, C.only, fun i y h => by
    obtain ⟨c, v, e1, e2, e3⟩ := C.has i y h
    exact ⟨c, v, e1, e2, e c ⟨y, e1⟩ v e3⟩⟩
/-- what is no locked thing is none of the cells -/
theorem CapsAt.out {cl : List (Str × Addr)} {fr : List Str} {ws : List V} {H : Hp} (C : CapsAt cl fr ws H) {a : Addr} {o : HO} (h : H a = some o) (n : ∀ ob u, o ≠ .frz ob u) : ¬ InC cl a := fun z => by
  obtain ⟨v, ob, e⟩ := C.tr z
  rw [h] at e
  exact n _ _ (Option.some.inj e)
theorem CapsAt.outN {cl : List (Str × Addr)} {fr : List Str} {ws : List V} {H : Hp} (C : CapsAt cl fr ws H) {a : Addr} (h : H a = none) : ¬ InC cl a := fun z => by
  obtain ⟨v, ob, e⟩ := C.tr z
  rw [h] at e
  cases e
theorem CapsAt.del {cl : List (Str × Addr)} {fr : List Str} {ws : List V} {H : Hp} (C : CapsAt cl fr ws H) {a : Addr} {o : HO} (h : H a = some o) (n : ∀ ob u, o ≠ .frz ob u) : delC cl H a = some o := by rw [delC_out (C.out h n)]; exact h
section
variable {P : Program} {w : World} {cl : List (Str × Addr)} {fr : List Str} {ws : List V} {H H' : Hp} {h h' B : Heap} {fs : List Addr}
theorem CapsAt.hokDel (C : CapsAt cl fr ws H) (hok : HOk P w H h) : HOk P w (delC cl H) h := fun a o e => by
  have na : ¬ InC cl a := fun z => by rw [delC_in z] at e; cases e
  rw [delC_out na] at e
  exact (hok a o e).stay (fun _ _ _ q => q) (fun b q => C.del q (fun _ _ z => by cases z)) fun b xs q => C.del q (fun _ _ z => by cases z)
/-- behind the body: the cells are as they were -/
theorem CapsAt.hokPut (C : CapsAt cl fr ws H) (hok0 : HOk P w H h) (hok : HOk P w H' h') (kp : ∀ a, InC cl a → ∀ o, h.get? a = some o → h'.get? a = some o) (fr0 : ∀ a, InC cl a → H' a = none) : HOk P w (putC cl H H') h' := fun a o e => by
  by_cases z : InC cl a
  · rw [putC_in z] at e
    obtain ⟨v, ob, e2⟩ := C.tr z
    rw [e] at e2
    cases e2
    obtain ⟨e3, u, r, d⟩ := cellO_at (hok0 a _ e)
    exact cellO_ok r (kp a z _ e3) d
  · rw [putC_out z] at e
    have st : ∀ b o, H' b = some o → putC cl H H' b = some o := fun b o q => by
      rw [putC_out (fun z => by rw [fr0 b z] at q; cases q)]; exact q
    exact (hok a o e).stay (fun _ _ _ q => q) (fun b q => st b _ q) fun b xs q => st b _ q
theorem CapsAt.un (C : CapsAt cl fr ws H) (u : Un fs [] (delC cl H) H' h h') (ex : ∀ a, InC cl a → ∃ o, h.get? a = some o) : Un fs [] H (putC cl H H') h h' where
  keep := fun b o e n => u.keep b o e (by rw [delC_out (C.outN n)]; exact n)
  slot := fun b o e n => u.slot b o e (by rw [delC_out (C.outN n)]; exact n)
  free := fun b o e n z => by rw [putC_out (C.outN n)]; exact u.free b o e (by rw [delC_out (C.outN n)]; exact n) z
  there := u.there
  tups := fun b xs e => by
    have q := C.out e (fun _ _ z => by cases z)
    rw [putC_out q]; exact u.tups b xs (by rw [delC_out q]; exact e)
  frzs := fun b o x e => by
    by_cases z : InC cl b
    · rw [putC_in z]; exact e
    · rw [putC_out z]; exact u.frzs b o x (by rw [delC_out z]; exact e)
  tbls := fun b ps e => by
    have q := C.out e (fun _ _ z => by cases z)
    rw [putC_out q]; exact u.tbls b ps (by rw [delC_out q]; exact e)
theorem CapsAt.ub (C : CapsAt cl fr ws H) (u : UB fs (delC cl H) H' h B h') : UB fs H (putC cl H H') h B h' where
  keep := fun b o e n => u.keep b o e (by rw [delC_out (C.outN n)]; exact n)
  slot := u.slot
  free := fun b o e n => by rw [putC_out (C.outN n)]; exact u.free b o e (by rw [delC_out (C.outN n)]; exact n)
  there := u.there
  tups := fun b xs e => by
    have q := C.out e (fun _ _ z => by cases z)
    rw [putC_out q]; exact u.tups b xs (by rw [delC_out q]; exact e)
  frzs := fun b o x e => by
    by_cases z : InC cl b
    · rw [putC_in z]; exact e
    · rw [putC_out z]; exact u.frzs b o x (by rw [delC_out z]; exact e)
  tbls := fun b ps e => by
    have q := C.out e (fun _ _ z => by cases z)
    rw [putC_out q]; exact u.tbls b ps (by rw [delC_out q]; exact e)
end
/-! ### a function value's promise -/
/-- called at level k, the function at f keeps the promise sp -/
def Act (P : Program) (w : World) (K : PySem.W.Frag) (mg : Str → Option Value) (base : Heap) (k : Nat) (f : Addr) (sp : Sp) : Prop :=
  ∀ (A : Around) (outer : List Env) (s : Shared) (H : Hp) (us : List Value) (vs : List V) (Q : VK) (E : XK), Room k A → Env0 P w K mg base A outer s H → Vals vs us → sp vs H Q E →
    PySem.W.FnAt f s.heap ∧ codeAny (model P w) A (.call (.ref f) ⟨us, []⟩) (CR (L2.CX P w) outer P w H s Q E) s
section
variable {P : Program} {w : World} {K : PySem.W.Frag} {mg : Str → Option Value} {base : Heap} {j k : Nat} {f : Addr} {sp sp' : Sp}
theorem Act.mono (a : Act P w K mg base j f sp) (h : j ≤ k) : Act P w K mg base k f sp := fun A outer s H us vs Q E hr => a A outer s H us vs Q E (hr.mono h)
theorem Act.imp (a : Act P w K mg base k f sp) (h : ∀ vs H Q E, sp' vs H Q E → sp vs H Q E) : Act P w K mg base k f sp' := fun A outer s H us vs Q E hr e0 r q => a A outer s H us vs Q E hr e0 r (h _ _ _ _ q)
theorem CR.weak {outer : List Env} {H : Hp} {s s' : Shared} {Q : VK} {E : XK} {r : Result} (h : CR CX0 outer P w H s Q E r s') : CR (L2.CX P w) outer P w H s Q E r s' := by
  cases r with
  | ok fl =>
    cases fl with
    | ret u => exact h
    | next => exact False.elim h
    | brk => exact False.elim h
    | cont => exact False.elim h
  | error e => exact False.elim h
/-- the promise of a closure, over the heap with its cells: spN is told of the heap without them -/
def spClo (f : Addr) (F : NF) (fr : List Str) (spN : List (Option V) → Sp) : Sp := fun vs H Q E => ∃ ws, H f = some (FnO f F) ∧ H F.c = some (CodeO F.c F.qual) ∧ CapsAt F.cl fr ws H ∧
  spN (ws.map some) vs (delC F.cl H) (fun v H' => (∀ a, InC F.cl a → H' a = none) → Q v (putC F.cl H H')) (fun cls d H' => (∀ a, InC F.cl a → H' a = none) → E cls d (putC F.cl H H'))
theorem fnO_nf {f : Addr} {F : NF} (ob : Obj) (u : HO) : FnO f F ≠ .frz ob u := fun z => by unfold FnO at z; cases z
theorem codeO_nf {f : Addr} {q : Str} (ob : Obj) (u : HO) : CodeO f q ≠ .frz ob u := fun z => by unfold CodeO at z; cases z
/-- what a run over the heap without the cells gives over the heap with them -/
theorem capsRun {cl : List (Str × Addr)} {fr : List Str} {ws : List V} {A : Around} {outer : List Env} {s : Shared} {H : Hp} {Q : VK} {E : XK} {c : Code} (C : CapsAt cl fr ws H) (e0 : Env0 P w K mg base A outer s H)
    (h : Env0 P w K mg base A outer s (delC cl H) → CellsAt cl fr (ws.map some) s.heap (delC cl H) → codeAny (model P w) A c (CR (L2.CX P w) outer P w (delC cl H) s (fun v H' => (∀ a, InC cl a → H' a = none) → Q v (putC cl H H')) (fun cls d H' => (∀ a, InC cl a → H' a = none) → E cls d (putC cl H H'))) s) :
    codeAny (model P w) A c (CR (L2.CX P w) outer P w H s Q E) s := by
  have at_ : ∀ a, InC cl a → ∃ v ob, H a = some (CellO a v ob) ∧ s.heap.get? a = some ob := fun a z => by
    obtain ⟨v, ob, e⟩ := C.tr z
    exact ⟨v, ob, e, (cellO_at (e0.hok a _ e)).1⟩
  have nfs : ∀ a, InC cl a → a ∉ frs outer := fun a z hb => by
    obtain ⟨v, ob, e, _⟩ := at_ a z
    rw [e0.frf a hb] at e
    cases e
  have e1 : Env0 P w K mg base A outer s (delC cl H) := ⟨e0.frames, e0.mod, fun b o e => ⟨(e0.bs b o e).1, by rw [delC_out (C.outN (e0.bs b o e).2)]; exact (e0.bs b o e).2⟩, e0.bsz, e0.funs, fun b hb => by rw [delC_out (C.outN (e0.frf b hb))]; exact e0.frf b hb, C.hokDel e0.hok, e0.bare⟩
  have C1 : CellsAt cl fr (ws.map some) s.heap (delC cl H) := by
    refine ⟨by rw [List.length_map]; exact C.len, fun y c e => ⟨delC_in ⟨y, e⟩, ?_⟩, C.inj, fun i y e => ?_⟩
    · obtain ⟨v, ob, q1, q2⟩ := at_ c ⟨y, e⟩
      obtain ⟨_, u, _, d⟩ := cellO_at (e0.hok c _ q1)
      exact ⟨some u, ob, q2, d⟩
    · obtain ⟨c, v, q1, q2, ob, q3⟩ := C.has i y e
      refine ⟨c, q1, fun v' hv => ?_⟩
      rw [List.getElem?_map, q2] at hv
      cases hv
      obtain ⟨q4, u, r, d⟩ := cellO_at (e0.hok c _ q3)
      exact ⟨u, r, ob, q4, d⟩
  refine codeAny_mono (h e1 C1) fun r s' hq => ?_
  cases r with
  | ok fl =>
    cases fl with
    | ret u =>
      obtain ⟨v, H', os, bare, un, hok, rv, q⟩ := (show CE outer P w (delC cl H) s _ u s' from hq)
      have f0 : ∀ a, InC cl a → H' a = none := fun a z => by
        obtain ⟨v, ob, _, q2⟩ := at_ a z
        exact un.free a ob q2 (delC_in z) (by simp)
      exact ⟨v, putC cl H H', os, bare, C.un un (fun a z => (at_ a z).elim fun v ⟨ob, _, q⟩ => ⟨ob, q⟩), C.hokPut e0.hok hok (fun a z o e => un.keep a o e (delC_in z) (nfs a z) (by simp)) f0, rv, q f0⟩
    | next => exact False.elim hq
    | brk => exact False.elim hq
    | cont => exact False.elim hq
  | error e =>
    obtain ⟨a, B, H', cls, d, e1, fl, hok, ub, na, os, bare, q⟩ := (show L2.CX P w outer (delC cl H) s _ e s' from hq)
    have f0 : ∀ a, InC cl a → H' a = none := fun a z => by
      obtain ⟨v, ob, _, q2⟩ := at_ a z
      exact ub.free a ob q2 (delC_in z)
    have kp : ∀ a, InC cl a → ∀ o, s.heap.get? a = some o → B.get? a = some o := fun a z o e => ub.keep a o e (delC_in z) (nfs a z)
    refine ⟨a, B, putC cl H H', cls, d, e1, fl, C.hokPut e0.hok hok kp f0, C.ub ub, ?_, os, bare, q f0⟩
    have nz : ¬ InC cl a := fun z => by
      obtain ⟨v, ob, _, q2⟩ := at_ a z
      have := kp a z ob q2
      rw [fl.2.1] at this
      cases this
    rw [putC_out nz]
    exact na
theorem act_clo {F : NF} {ps fr : List Str} {spN : List (Option V) → Sp} (N : NOk P w K mg base (L2.CX P w) k f F ps fr spN) : Act P w K mg base k f (spClo f F fr spN) := fun A outer s H us vs Q E hr e0 r h => by
  obtain ⟨ws, hf, hc, C, q⟩ := h
  obtain ⟨od, sl, doc, pm, ctv, ho⟩ := fnO_at e0.hok hf
  refine ⟨⟨_, od, _, sl, ho⟩, capsRun C e0 fun e1 C1 => ?_⟩
  exact N.run A outer s (delC F.cl H) us vs (ws.map some) _ _ hr e1 (C.del hf fnO_nf) (C.del hc codeO_nf) C1 r q
/-- a def of the top is a function value, too -/
theorem act_fn {fd : FuncData} {ps : List Str} (F : FnOk P w K mg base (L2.CX P w) k f fd ps sp) (hb : Binds K fd ps []) (hk : ∃ oc od fd' sl, K.lookup f = some ⟨oc, od, .func fd', sl⟩) : Act P w K mg base k f sp := fun A outer s H us vs Q E hr e0 r h => by
  have KX : K.In s.heap := e0.mod.kin.keeps fun b o e => (e0.bs b o e).1
  obtain ⟨oc, od, fd', sl, lk⟩ := hk
  refine ⟨⟨oc, od, fd', sl, KX _ _ lk⟩, ?_⟩
  have hl : (us ++ ([] : List Value)).length = ps.length := by rw [List.append_nil, ← r.length]; exact F.len _ _ _ _ h
  have := hb s us KX hl
  rw [List.append_nil] at this
  exact F.run A outer s H ⟨us, []⟩ us vs Q E hr e0 this r h
end
/-! ### calls of a function value that a name holds -/
def tCallV (P : Program) (w : World) (K : PySem.W.Frag) (mg : Str → Option Value) (base : Heap) (k i : Nat) (E : XK) (t : TA) : TE := fun σ H Q => ∃ f sp, σ[i]? = some (some (.ref f)) ∧ Act P w K mg base k f sp ∧ t σ H fun vs H1 => sp vs H1 Q E
section
variable {X : Cx} {k i : Nat} {x : Str} {E : XK} {t : TA} {e : Expr} {es : List Expr} {p pos : Pos}
theorem run_act {pins : List (Addr × Obj)} {σ : L2.St} {H : Hp} {s : Shared} {Q : VK} {f : Addr} {sp : Sp} {us : List Value} {vs : List V} (a : Act X.prog X.w X.K X.mg X.base k f sp) (hr : Room k X.A) (hx : Passes (L2.CX X.prog X.w) X E) (I : Inv X pins σ H s) (r : Vals vs us) (q : sp vs H Q E) :
    PySem.W.FnAt f s.heap ∧ wpAny (model X.prog X.w) X.A (call (.ref f) us) (EP X pins σ Q) X.xe s := by
  obtain ⟨z, c⟩ := a X.A X.stack s H us vs Q E hr I.env0 r q
  refine ⟨z, wpAny_call (codeAny_mono c fun r s' hq => ?_)⟩
  cases r with
  | error e => exact hx pins σ H s e s' I hq
  | ok fl =>
    cases fl with
    | ret u => exact I.after hq
    | next => exact False.elim hq
    | brk => exact False.elim hq
    | cont => exact False.elim hq
theorem pe_callV (hr : Room k X.A) (hx : Passes (L2.CX X.prog X.w) X E) (hN : X.N[i]? = some x) (hv : Vis X.env.scope x) (ha : PA X (e :: es) t)
    (hd : (x == ("__debug__" : Str)) = false := by decide) (hcd : (x == ("__classdict__" : Str)) = false := by decide)
    (he : starEach (e :: es) X.env = (false, eval e X.env) :: starEach es X.env := by rfl) (hpl : (backTo pos (starEach es X.env)).any (·.1) = false := by rfl) :
    PE X (.Call (.Name x p) (e :: es) [] pos) (tCallV X.prog X.w X.K X.mg X.base k i E t) := by
  refine ⟨fun pins s σ H Q I h => ?_⟩
  obtain ⟨f, sp, hs, ac, ht⟩ := h
  refine wpAny_Call_Name_kw (thn ((pe_var (pos := p) hN hv hd hcd).run pins s σ H (fun v H1 => v = .ref f ∧ H1 = H) I ⟨.ref f, hs, rfl, rfl⟩) fun u s1 ⟨v, H1, I1, r1, q1⟩ => ?_)
  obtain ⟨ev, eH⟩ := q1
  subst ev
  rw [eH] at I1
  obtain rfl : u = Value.ref f := r1
  have h := thn (ha.run pos pins s1 σ H _ I1 ht) fun us s2 ⟨vs, H2, I2, r, q⟩ => run_act ac hr hx I2 r q
  show wpAny _ _ (callWith pos (.ref f) [] (backTo pos (starEach (e :: es) X.env)) []) _ _ _
  rw [he] at h ⊢
  exact PySem.W.callWith_of (by show ((false || (backTo pos (starEach es X.env)).any (·.1)) || false) = false; rw [hpl]; rfl) PySem.W.keeps_F (PySem.Calls.evalArgs_plain h)
theorem pe_callV0 (hr : Room k X.A) (hx : Passes (L2.CX X.prog X.w) X E) (hN : X.N[i]? = some x) (hv : Vis X.env.scope x)
    (hd : (x == ("__debug__" : Str)) = false := by decide) (hcd : (x == ("__classdict__" : Str)) = false := by decide) :
    PE X (.Call (.Name x p) [] [] pos) (tCallV X.prog X.w X.K X.mg X.base k i E tNil) := by
  refine ⟨fun pins s σ H Q I h => ?_⟩
  obtain ⟨f, sp, hs, ac, q⟩ := h
  refine wpAny_Call_Name_kw (thn ((pe_var (pos := p) hN hv hd hcd).run pins s σ H (fun v H1 => v = .ref f ∧ H1 = H) I ⟨.ref f, hs, rfl, rfl⟩) fun u s1 ⟨v, H1, I1, r1, q1⟩ => ?_)
  obtain ⟨ev, eH⟩ := q1
  subst ev
  rw [eH] at I1
  obtain rfl : u = Value.ref f := r1
  obtain ⟨z, c⟩ := run_act ac hr hx I1 .nil q
  exact PySem.W.callWith_F0 (first := []) z c
end
end Hk

set_option Elab.async false
set_option linter.all false
set_option maxRecDepth 100000
set_option maxHeartbeats 4000000
/-! Lambdas, with or without a default; what a live frame's cells hold, told to a callee. -/
namespace Hk
open PySem PySem.Spec PySem.W PySem.Calls PyProof.Rows L2 LamX NdefX
/-- a lambda's words; dT: the tuple of its defaults -/
structure LF where
  qual : Str
  params : Arguments
  body : Expr
  scope : Scope
  cl : List (Str × Addr)
  c : Addr
  dT : Option Addr
def dVof : Option Addr → Value
  | none => .none
  | some T => .ref T
abbrev lamFd (qual : Str) (params : Arguments) (body : Expr) (scope : Scope) (cl : List (Str × Addr)) (dV pm cdv ctv : Value) : FuncData :=
  { name := "<lambda>", qualname := qual, params := params, body := .expr body, scope := scope, globals := mainGlobals, closure := cl, defaults := dV, kwdefaults := .none, doc := .none, pyModule := pm, annotations := none, code := cdv, closureTuple := ctv, builtins := builtinsNs }
abbrev LF.fd (L : LF) (pm ctv : Value) : FuncData := lamFd L.qual L.params L.body L.scope L.cl (dVof L.dT) pm (.ref L.c) ctv
def LamO (f : Addr) (L : LF) : HO := .ext fun h => ∃ (od : Option Addr) (sl : Array (Option Value)) (pm ctv : Value), h.get? f = some (⟨.type "function", od, .func (L.fd pm ctv), sl⟩ : Obj)
theorem lamO_ne {f : Addr} {L : LF} (ps : Array Value) : LamO f L ≠ .tbl ps := fun z => by unfold LamO at z; cases z
theorem lamO_nf {f : Addr} {L : LF} (ob : Obj) (u : HO) : LamO f L ≠ .frz ob u := fun z => by unfold LamO at z; cases z
theorem lamO_at {P : Program} {w : World} {H : Hp} {h : Heap} {f : Addr} {L : LF} (hok : HOk P w H h) (e : H f = some (LamO f L)) : ∃ (od : Option Addr) (sl : Array (Option Value)) (pm ctv : Value), h.get? f = some (⟨.type "function", od, .func (L.fd pm ctv), sl⟩ : Obj) := by
  obtain ⟨z, _, _⟩ := hok f _ e
  exact z
section
variable {M : Model} {A : Around} {E : Value → Shared → Prop} {s : Shared} {name qual : Str} {params : Arguments} {body : Expr} {scope : Scope} {env : Env} {c P : Addr} {ps : Array Value} {pos : Pos} {firstLine : Nat} {mg : Str → Option Value}
  {clos : List (Str × Addr)} {Q : Value → Shared → Prop} {dV : Value}
theorem lam_tail (hcl : closureFor scope env = pure clos) (hge0 : env.globals = mainGlobals) (hg : s.heap.Ns mainGlobals mg) (hcode : env.code = .ref c) (C : CodeHd s.heap c P) (hP : s.heap.get? P = some (tabObj ps)) (ht : TriplesOk ps.toList)
    (hnf : codeAmong pos ps.toList = none) (hgP : mainGlobals ≠ P) (hb : s.heap.BuiltinsAt mg P)
    (h : ∀ c' ctv h' tk, Heap.ExtBut P s.heap h' → s.heap.objs.size ≤ c' → c' < h'.objs.size → h'.CodeRec (.ref c') qual → h'.get? P = some (tabObj (ps ++ #[rawInt pos.line, rawInt pos.col, .ref c'])) →
      Q (.ref h'.objs.size) { s with heap := h'.push { cls := .type "function", data := .func (lamFd qual params body scope clos dV ((mg "__name__").getD .none) (.ref c') ctv) }, toks := tk }) :
    wpAny M A (makeTail "<lambda>" qual params (.expr body) scope env dV .none none pos firstLine) Q E s := by
  obtain ⟨bm, ob, hbm, hne0, _, hneP, hbo, hcls, hdict, hdata⟩ := hb
  unfold makeTail
  rw [hcl, hge0]
  refine wpAny_bind (wpAny_pure ?_)
  cases clos with
  | nil =>
    simp only [List.isEmpty_nil, if_true]
    refine wpAny_bind (wpAny_pure ?_)
    refine wpAny_bind (wpAny_functionCodeX hcode (C.code hP ht) (C.tab hP) hnf fun c' h' tk hx hge hlt _ hrec htb _ => ?_)
    have hg' := hg.extBut hx hgP
    refine wpAny_bind (wpAny_builtinsFor hg' hbm hne0 (hx _ _ hneP hbo) hcls hdict hdata ?_)
    refine wpAny_bind (wpAny_nsGet hg' ?_)
    exact wpAny_bind (wpAny_pure (wpAny_newObj_type (h c' .none h' tk hx hge hlt hrec htb.2) (by size_fits)))
  | cons q r =>
    simp only [List.isEmpty_cons, Bool.false_eq_true, if_false]
    refine wpAny_bind (wpAny_newTextTuple ?_)
    refine wpAny_bind (wpAny_functionCodeX hcode ((C.keeps fun b o e => Heap.get?_push_of_some _ e).code (Heap.get?_push_of_some _ hP) ht) ((C.keeps fun b o e => Heap.get?_push_of_some _ e).tab (Heap.get?_push_of_some _ hP)) hnf fun c' h' tk hx hge hlt _ hrec htb _ => ?_)
    have hg' := (hg.push _).extBut hx hgP
    have hx' : Heap.ExtBut P s.heap h' := fun b o hb' e => hx b o hb' (Heap.get?_push_of_some _ e)
    have hge' : s.heap.objs.size ≤ c' := Nat.le_trans (by rw [Heap.size_push]; omega) hge
    refine wpAny_bind (wpAny_builtinsFor hg' hbm hne0 (hx' _ _ hneP hbo) hcls hdict hdata ?_)
    refine wpAny_bind (wpAny_nsGet hg' ?_)
    exact wpAny_bind (wpAny_pure (wpAny_newObj_type (h c' _ h' tk hx' hge' hlt hrec htb.2) (by size_fits)))
theorem lam_tailHit {cv : Value} (hcl : closureFor scope env = pure clos) (hge0 : env.globals = mainGlobals) (hg : s.heap.Ns mainGlobals mg) (hcode : env.code = .ref c) (C : CodeHd s.heap c P) (hP : s.heap.get? P = some (tabObj ps)) (ht : TriplesOk ps.toList)
    (hf : codeAmong pos ps.toList = some cv) (hb : s.heap.BuiltinsAt mg P)
    (h : ∀ (ctv : Value) (h' : Heap) (tk : Tok), (∀ b o, s.heap.get? b = some o → h'.get? b = some o) → s.heap.objs.size ≤ h'.objs.size →
      Q (.ref h'.objs.size) { s with heap := h'.push { cls := .type "function", data := .func (lamFd qual params body scope clos dV ((mg "__name__").getD .none) cv ctv) }, toks := tk }) :
    wpAny M A (makeTail "<lambda>" qual params (.expr body) scope env dV .none none pos firstLine) Q E s := by
  obtain ⟨bm, ob, hbm, hne0, _, hneP, hbo, hcls, hdict, hdata⟩ := hb
  unfold makeTail
  rw [hcl, hge0]
  refine wpAny_bind (wpAny_pure ?_)
  cases clos with
  | nil =>
    simp only [List.isEmpty_nil, if_true]
    refine wpAny_bind (wpAny_pure ?_)
    refine wpAny_bind (wpAny_functionCode_hit hcode (C.code hP ht) hf ?_)
    refine wpAny_bind (wpAny_builtinsFor hg hbm hne0 hbo hcls hdict hdata ?_)
    refine wpAny_bind (wpAny_nsGet hg ?_)
    exact wpAny_bind (wpAny_pure (wpAny_newObj_type (h .none s.heap s.toks (fun _ _ e => e) (Nat.le_refl _)) (by size_fits)))
  | cons q r =>
    simp only [List.isEmpty_cons, Bool.false_eq_true, if_false]
    refine wpAny_bind (wpAny_newTextTuple ?_)
    refine wpAny_bind (wpAny_functionCode_hit hcode ((C.keeps fun b o e => Heap.get?_push_of_some _ e).code (Heap.get?_push_of_some _ hP) ht) hf ?_)
    refine wpAny_bind (wpAny_builtinsFor (hg.push _) hbm hne0 (Heap.get?_push_of_some _ hbo) hcls hdict hdata ?_)
    refine wpAny_bind (wpAny_nsGet (hg.push _) ?_)
    have hsz : ∀ oT : Obj, s.heap.objs.size ≤ (s.heap.push oT).objs.size := fun oT => by rw [Heap.size_push]; omega
    exact wpAny_bind (wpAny_pure (wpAny_newObj_type (h _ _ s.toks (fun b o e => Heap.get?_push_of_some _ e) (hsz _)) (by size_fits)))
end
/-! ### tables: one function tells the names of all code objects by their places -/
def Tabs1 (Ts : List Addr) (nm : Nat → Nat → Str) (H : Hp) : Prop := ∀ P ∈ Ts, TabN H P nm
theorem Tabs1.ext {Ts : List Addr} {nm : Nat → Nat → Str} {H H' : Hp} (t : Tabs1 Ts nm H) (e : ∀ b o, H b = some o → H' b = some o) : Tabs1 Ts nm H' := fun p hp => (t p hp).ext e
section
variable {X : Cx} {pins : List (Addr × Obj)} {σ : L2.St} {H : Hp} {s : Shared}
theorem inv_lam {L : LF} {o : Obj} {t' : Nat} {pm ctv : Value} (I : Inv X pins σ H s) (ho : o = { cls := .type "function", data := .func (L.fd pm ctv) }) :
    Inv X pins σ (upd H s.heap.objs.size (LamO s.heap.objs.size L)) { s with heap := s.heap.push o, toks := t' } := by
  subst ho
  refine I.laid (a := s.heap.objs.size) (fun b u e => Heap.get?_push_of_some _ e) (Nat.le_refl _) ?_
  have e : (s.heap.push ({ cls := .type "function", data := .func (L.fd pm ctv) } : Obj)).get? s.heap.objs.size = some ({ cls := .type "function", data := .func (L.fd pm ctv) } : Obj) := Heap.get?_push_size _ rfl
  exact ⟨⟨_, _, pm, ctv, e⟩, ⟨_, e⟩, fun h1 h2 ⟨od, sl, p, t, z⟩ st => ⟨od, sl, p, t, st _ z⟩⟩
/-- the lambda's object is made: its code object is new, or found in the table -/
theorem lam_new {Ts : List Addr} {nm : Nat → Nat → Str} {c P : Addr} {params : Arguments} {body : Expr} {scope : Scope} {pos : Pos} {dT : Option Addr} {firstLine : Nat} {E : Value → Shared → Prop} {Q : Value → Shared → Prop} (I : Inv X pins σ H s) (TB : TabB X.base X.mg c P) (hcode : X.env.code = .ref c)
    (hm : P ∈ Ts) (hn : nm pos.line pos.col = X.env.qual ++ "<lambda>") (hT : Tabs1 Ts nm H) (hfree : ∀ y ∈ scope.names, y.2 = .free → ∃ c, X.env.cells.lookup y.1 = some c)
    (h : ∀ (f c' : Addr) (H1 : Hp) (s' : Shared), Inv X pins σ H1 s' → (∀ b o, H b = some o → b ∉ Ts → H1 b = some o) → (∀ b, H1 b = Option.none → H b = Option.none) → Tabs1 Ts nm H1 → H f = none → H1 f = some (LamO f ⟨X.env.qual ++ "<lambda>", params, body, scope, cloFrom X.env.cells scope.names [], c', dT⟩) → H1 c' = some (CodeO c' (X.env.qual ++ "<lambda>")) → Q (.ref f) s') :
    wpAny (model X.prog X.w) X.A (makeTail "<lambda>" (X.env.qual ++ "<lambda>") params (.expr body) scope X.env (dVof dT) .none none pos firstLine) Q E s := by
  obtain ⟨ps, hP, ht, ha⟩ := hT P hm
  have bP : s.heap.BuiltinsAt X.mg P := TB.bm.keeps I.bk
  have hP' : s.heap.get? P = some { cls := .none, data := .fields ps } := I.hok P _ hP
  cases hc : codeAmong pos ps.toList with
  | none =>
    refine lam_tail (mg := X.mg) (c := c) (P := P) (ps := ps) (closure_ok hfree) I.ok.glob (I.mod.glob.keeps I.bk) hcode (TB.code.keeps I.bk) hP' ht hc TB.gP bP fun c' ctv h' tk hx hge hlt hrec htb => ?_
    obtain ⟨c2, oc, vs, t, e2, hoc, hd, hv⟩ := hrec
    cases e2
    have nC : H c' = none := I.hok.fresh hge
    have I1 := inv_table (t' := tk) (more := #[rawInt pos.line, rawInt pos.col, .ref c']) (h' := h') I hP (fun b o hb e => hx b o hb e) htb hge ⟨oc, vs, t, hoc, hd, hv⟩
    have hE : ∀ b o, H b = some o → b ≠ P → upd (upd H P (.tbl (ps ++ #[rawInt pos.line, rawInt pos.col, .ref c']))) c' (CodeO c' (X.env.qual ++ "<lambda>")) b = some o := fun b o e n => by
      rw [upd_ne (ne_of_none e nC), upd_ne n]
      exact e
    have neP : ∀ b q, H b = some (CodeO b q) → b ≠ P := fun b q e z => by
      rw [z, hP] at e
      exact codeO_ne ps (Option.some.inj e).symm
    have eL : (ps ++ #[rawInt pos.line, rawInt pos.col, .ref c']).toList = ps.toList ++ [rawInt pos.line, rawInt pos.col, .ref c'] := by simp
    have T1 : Tabs1 Ts nm (upd (upd H P (.tbl (ps ++ #[rawInt pos.line, rawInt pos.col, .ref c']))) c' (CodeO c' (X.env.qual ++ "<lambda>"))) := fun p hp => by
      by_cases hb : p = P
      · rw [hb]
        refine ⟨_, by rw [upd_ne (ne_of_none hP nC), upd_same], by rw [eL]; exact PySem.TriplesOk_snoc _ _ _ _ ht, fun p' cv hcv => ?_⟩
        rw [eL] at hcv
        rcases among_app2 _ ht hcv with z | ⟨z, z1, z2⟩
        · obtain ⟨c0, e1, e2⟩ := ha p' cv z
          exact ⟨c0, e1, hE _ _ e2 (neP _ _ e2)⟩
        · refine ⟨c', z, ?_⟩
          rw [← z1, ← z2, hn]
          exact upd_same
      · obtain ⟨ps', a1, a2, a3⟩ := hT p hp
        refine ⟨ps', by rw [upd_ne (ne_of_none a1 nC), upd_ne hb]; exact a1, a2, fun p' cv hcv => ?_⟩
        obtain ⟨c0, e1, e2⟩ := a3 p' cv hcv
        exact ⟨c0, e1, hE _ _ e2 (neP _ _ e2)⟩
    have nF := I1.hok.fresh (Nat.le_refl _)
    have I2 := inv_lam (L := ⟨X.env.qual ++ "<lambda>", params, body, scope, cloFrom X.env.cells scope.names [], c', dT⟩) (t' := tk) (pm := (X.mg "__name__").getD .none) (ctv := ctv) I1 rfl
    refine h h'.objs.size c' _ _ I2 (fun b o e n => ?_) (fun b e => upd_none (upd_none (upd_none e))) (T1.ext fun b o e => ?_) (I.hok.fresh (Nat.le_trans hge (Nat.le_of_lt hlt))) upd_same ?_
    · have e1 := hE b o e (fun z => n (by rw [z]; exact hm))
      exact (upd_ne (ne_of_none e1 nF)).trans e1
    · exact (upd_ne (ne_of_none e nF)).trans e
    · exact (upd_ne (Nat.ne_of_lt hlt)).trans upd_same
  | some cv =>
    obtain ⟨c', e, hco⟩ := ha pos cv hc
    subst e
    rw [hn] at hco
    refine lam_tailHit (mg := X.mg) (c := c) (P := P) (ps := ps) (closure_ok hfree) I.ok.glob (I.mod.glob.keeps I.bk) hcode (TB.code.keeps I.bk) hP' ht hc bP fun ctv h' tk hx hsz => ?_
    have I1 : Inv X pins σ H { s with heap := h', toks := tk } := I.kept hx
    have nF : H h'.objs.size = none := I1.hok.fresh (Nat.le_refl _)
    have I2 := inv_lam (L := ⟨X.env.qual ++ "<lambda>", params, body, scope, cloFrom X.env.cells scope.names [], c', dT⟩) (t' := tk) (pm := (X.mg "__name__").getD .none) (ctv := ctv) I1 rfl
    refine h h'.objs.size c' _ _ I2 (fun b o e n => ?_) (fun b e => upd_none e) (hT.ext fun b o e => ?_) nF upd_same ?_
    · exact (upd_ne (ne_of_none e nF)).trans e
    · exact (upd_ne (ne_of_none e nF)).trans e
    · exact (upd_ne (ne_of_none hco nF)).trans hco
end
/-- the reading of a lambda: a new function; mk: its words, by its code object -/
def tLam1 (Ts : List Addr) (nm : Nat → Nat → Str) (mk : Addr → LF) : TE := fun σ H Q => Tabs1 Ts nm H ∧ ∀ (f c' : Addr) (H1 : Hp), (∀ b o, H b = some o → b ∉ Ts → H1 b = some o) → (∀ b, H1 b = Option.none → H b = Option.none) → Tabs1 Ts nm H1 → H f = none → H1 f = some (LamO f (mk c')) → H1 c' = some (CodeO c' (mk c').qual) → Q (.ref f) H1
section
variable {X : Cx} {Ts : List Addr} {nm : Nat → Nat → Str} {c P : Addr} {params : Arguments} {body d : Expr} {scope : Scope} {pos : Pos} {td : TE}
theorem pe_lam (TB : TabB X.base X.mg c P) (hcode : X.env.code = .ref c) (hm : P ∈ Ts) (hn : nm pos.line pos.col = X.env.qual ++ "<lambda>") (hfree : ∀ y ∈ scope.names, y.2 = .free → X.env.scope.names.lookup y.1 = some .cell ∨ X.env.scope.names.lookup y.1 = some .free)
    (hdef : defaultsOf params X.env = ([], [])) : PE X (.Lambda params body scope pos) (tLam1 Ts nm fun c' => ⟨X.env.qual ++ "<lambda>", params, body, scope, cloFrom X.env.cells scope.names [], c', none⟩) := by
  refine ⟨fun pins s σ H Q I h => ?_⟩
  obtain ⟨hT, h⟩ := h
  refine kla_eval hdef ?_
  rw [makeFunction_eq]
  simp only [List.zip_nil_right, List.filterMap_nil, List.isEmpty_nil, if_true, pure_bind]
  have hfr : ∀ y ∈ scope.names, y.2 = .free → ∃ c, X.env.cells.lookup y.1 = some c := fun y hy e => (hfree y hy e).elim (fun z => I.ok.has _ (.inl z)) fun z => I.ok.has _ (.inr z)
  exact lam_new (dT := none) I TB hcode hm hn hT hfr fun f c' H1 s' I1 e1 e2 T1 f0 f1 c1 => ⟨.ref f, H1, I1, rfl, h f c' H1 e1 e2 T1 f0 f1 c1⟩
end
end Hk

set_option Elab.async false
set_option linter.all false
set_option maxRecDepth 100000
set_option maxHeartbeats 4000000
namespace Hk
open PySem PySem.Spec PySem.W PySem.Calls PyProof.Rows L2 LamX NdefX
/-! ### a lambda with a default -/
section
variable {X : Cx} {Ts : List Addr} {nm : Nat → Nat → Str} {c P : Addr} {params : Arguments} {body d : Expr} {scope : Scope} {pos : Pos} {td : TE}
/-- .. the tuple of its one default at T -/
def tLamD (Ts : List Addr) (nm : Nat → Nat → Str) (mk : Addr → Addr → LF) (td : TE) : TE := fun σ H Q => td σ H fun v H0 => ∀ T, H0 T = none → tLam1 Ts nm (mk T) σ (upd H0 T (.tup [v])) Q
theorem pe_lamD (TB : TabB X.base X.mg c P) (hcode : X.env.code = .ref c) (hm : P ∈ Ts) (hn : nm pos.line pos.col = X.env.qual ++ "<lambda>") (hfree : ∀ y ∈ scope.names, y.2 = .free → X.env.scope.names.lookup y.1 = some .cell ∨ X.env.scope.names.lookup y.1 = some .free)
    (hd : PE X d td) (hdef : defaultsOf params X.env = ([eval d X.env], [])) : PE X (.Lambda params body scope pos) (tLamD Ts nm (fun T c' => ⟨X.env.qual ++ "<lambda>", params, body, scope, cloFrom X.env.cells scope.names [], c', some T⟩) td) := by
  refine ⟨fun pins s σ H Q I h => ?_⟩
  rw [arm_eval_Lambda, hdef]
  refine wpAny_bind ?_
  show wpAny _ _ (evalAll [eval d X.env]) _ _ _
  unfold evalAll
  refine wpAny_bind (thn (hd.run pins s σ H _ I h) fun u s1 ⟨v, H1, I1, r1, q1⟩ => ?_)
  refine wpAny_bind (wpAny_holding (wpAny_pure (wpAny_pure ?_)))
  refine wpAny_bind (wpAny_holding (wpAny_pure ?_))
  rw [makeFunction_eq]
  simp only [List.zip_nil_right, List.filterMap_nil, List.isEmpty_nil, List.isEmpty_cons, Bool.false_eq_true, if_false, if_true, pure_bind]
  refine wpAny_bind (wpAny_newTextTuple ?_)
  have I2 : Inv X pins σ (upd H1 s1.heap.objs.size (.tup [v])) { s1 with heap := s1.heap.push { cls := .type "tuple", data := .seq [u].toArray } } := by
    refine I1.laid (a := s1.heap.objs.size) (t' := s1.toks) (fun b u e => Heap.get?_push_of_some _ e) (Nat.le_refl _) ?_
    exact ⟨by show 1 ≤ sizeLine; decide, [u], .cons r1 .nil, IsTup.new s1.heap _⟩
  obtain ⟨hT, h⟩ := q1 s1.heap.objs.size (I1.hok.fresh (Nat.le_refl _))
  have hfr : ∀ y ∈ scope.names, y.2 = .free → ∃ c, X.env.cells.lookup y.1 = some c := fun y hy e => (hfree y hy e).elim (fun z => I.ok.has _ (.inl z)) fun z => I.ok.has _ (.inr z)
  exact lam_new (dT := some s1.heap.objs.size) I2 TB hcode hm hn hT hfr fun f c' H1 s' I1 e1 e2 T1 f0 f1 c1 => ⟨.ref f, H1, I1, rfl, h f c' H1 e1 e2 T1 f0 f1 c1⟩
end
/-! ### a lambda's promise by its body -/
abbrev LF.nf (L : LF) : NF := ⟨"<lambda>", L.qual, L.params, [], L.scope, L.cl, L.c⟩
def DtOk (H : Hp) (dT : Option Addr) (dvs : List V) : Prop := match dT with
  | none => dvs = []
  | some T => H T = some (.tup dvs)
def spLam (f : Addr) (L : LF) (fr : List Str) (dvs : List V) (spN : List (Option V) → Sp) : Sp := fun vs H Q E => ∃ ws, H f = some (LamO f L) ∧ H L.c = some (CodeO L.c L.qual) ∧ CapsAt L.cl fr ws H ∧ DtOk H L.dT dvs ∧
  spN (ws.map some) (vs ++ dvs) (delC L.cl H) (fun v H' => (∀ a, InC L.cl a → H' a = none) → Q v (putC L.cl H H')) (fun cls d H' => (∀ a, InC L.cl a → H' a = none) → E cls d (putC L.cl H H'))
section
variable {P : Program} {w : World} {K : PySem.W.Frag} {mg : Str → Option Value} {base : Heap} {N ps fr : List Str} {L : LF} {f : Addr} {k : Nat} {spN : List (Option V) → Sp}
theorem act_lamB {dvs : List V} (S : NScope N ps fr L.scope) (len : ∀ ws vs H Q E, spN ws vs H Q E → vs.length = ps.length)
    (hb : ∀ (s : Shared) (H : Hp) (pm ctv : Value) (us : List Value), HOk P w H s.heap → DtOk H L.dT dvs → us.length + dvs.length = ps.length → ∃ ds, Vals dvs ds ∧ BindsTo s (L.fd pm ctv) ⟨us, []⟩ (ps.zip (us ++ ds)))
    (hbody : ∀ (A : Around) (outer : List Env) (s : Shared) (H : Hp) (vs : List V) (ws : List (Option V)) (Q : VK) (E : XK), Room k (A.deeper (envF L.nf f s.heap.objs.size)) → ws.length = fr.length → spN ws vs H Q E →
      ∃ te, PE (ncx (L2.CX P w) P w K mg base N L.nf f A outer s H E) L.body te ∧ te (startF N vs ws) H Q) :
    Act P w K mg base (k + 1) f (spLam f L fr dvs spN) := fun A outer s H us vs Q E hr e0 r h => by
  obtain ⟨ws, hf, hc, C, hd, q⟩ := h
  have lim : s.heap.NoLimit := e0.mod.nolimit.keeps fun b o e => (e0.bs b o e).1
  obtain ⟨od, sl, pm, ctv, ho⟩ := lamO_at e0.hok hf
  refine ⟨⟨_, od, _, sl, ho⟩, capsRun C e0 fun e1 C1 => ?_⟩
  have hl := len _ _ _ _ _ q
  obtain ⟨ds, rd, bd⟩ := hb s H pm ctv us e0.hok hd (by rw [← hl, List.length_append, ← r.length])
  have r2 : Vals (vs ++ dvs) (us ++ ds) := r.append rd
  refine kla_callFunE hr.depth ho rfl S.co S.gen rfl (codeO_at e0.hok hc) (bd _ _ _ _ ?_)
  refine wpAny_newFunctionEnv S.nocell (fun ⟨n, _⟩ hy => S.par n (List.of_mem_zip hy).1) (fun h₁ hns hsb => ⟨lim.fresh _ hsb, ?_⟩) S.kind
  show codeAny _ _ (.expr L.body (envF L.nf f s.heap.objs.size)) _ _
  have kp : ∀ b o, s.heap.get? b = some o → h₁.get? b = some o := fun b o e => hsb.extBut b o (Nat.ne_of_lt (Heap.lt_size e)) (Heap.get?_push_of_some _ e)
  obtain ⟨te, ht, hq⟩ := hbody A outer s (delC L.cl H) (vs ++ dvs) (ws.map some) _ _ (hr.deeper _) C1.len q
  have I := inv_startN (CX := L2.CX P w) (F := L.nf) (f := f) (A := A) (E := fun cls d H' => (∀ a, InC L.cl a → H' a = none) → E cls d (putC L.cl H H')) (tk := s.toks + (ps.zip (us ++ ds)).length) S hr.hd e1 hl r2 C1 hns kp
  refine kla_codeExpr (wpAny_mono (ht.run [] _ _ _ _ I hq) (fun v s' hs => ?_) fun e s' hs => hs)
  obtain ⟨v, H', J, rv, q⟩ := hs
  exact ⟨v, H', J.os, J.bare, J.base, J.hok, rv, q⟩
/-- .. without a default -/
theorem act_lam (S : NScope N ps fr L.scope) (hdT : L.dT = none) (len : ∀ ws vs H Q E, spN ws vs H Q E → vs.length = ps.length)
    (hb : ∀ (pm ctv : Value) (us : List Value), us.length = ps.length → bindArgs (L.fd pm ctv) ⟨us, []⟩ = pure (ps.zip us))
    (hbody : ∀ (A : Around) (outer : List Env) (s : Shared) (H : Hp) (vs : List V) (ws : List (Option V)) (Q : VK) (E : XK), Room k (A.deeper (envF L.nf f s.heap.objs.size)) → ws.length = fr.length → spN ws vs H Q E →
      ∃ te, PE (ncx (L2.CX P w) P w K mg base N L.nf f A outer s H E) L.body te ∧ te (startF N vs ws) H Q) :
    Act P w K mg base (k + 1) f (spLam f L fr [] spN) := act_lamB S len (fun s H pm ctv us _ _ hl => ⟨[], .nil, by
      rw [List.append_nil]; exact .of_eq (hb pm ctv us (by simpa using hl))⟩) hbody
/-- .. with one, that is not given -/
theorem act_lamD {T : Addr} {dv : V} {x : Str} (S : NScope N [x] fr L.scope) (hdT : L.dT = some T) (len : ∀ ws vs H Q E, spN ws vs H Q E → vs.length = 1)
    (hb : ∀ (pm ctv u : Value), ∃ k, bindArgs (L.fd pm ctv) ⟨[], []⟩ = seqItems? (.ref T) >>= k ∧ k (some #[u]) = pure [(x, u)])
    (hbody : ∀ (A : Around) (outer : List Env) (s : Shared) (H : Hp) (vs : List V) (ws : List (Option V)) (Q : VK) (E : XK), Room k (A.deeper (envF L.nf f s.heap.objs.size)) → ws.length = fr.length → spN ws vs H Q E →
      ∃ te, PE (ncx (L2.CX P w) P w K mg base N L.nf f A outer s H E) L.body te ∧ te (startF N vs ws) H Q) :
    Act P w K mg base (k + 1) f (spLam f L fr [dv] spN) := act_lamB S len (fun s H pm ctv us hok hd hl => by
      have e0 : us = [] := List.eq_nil_of_length_eq_zero (by simpa using hl)
      subst e0
      rw [hdT] at hd
      obtain ⟨_, its, rv, o, ho, hcls⟩ := (show ObjOk P w H s.heap T (.tup [dv]) from hok T _ hd)
      obtain ⟨u, rfl⟩ : ∃ u, its = [u] := by
        have := rv.length
        match its, this with
        | [u], _ => exact ⟨u, rfl⟩
      obtain ⟨kk, e1, e2⟩ := hb pm ctv u
      refine ⟨[u], rv, ?_⟩
      obtain ⟨n, hdat⟩ := hcls.2
      refine .of_defaults (T := T) (k := kk) (by show dVof L.dT = _; rw [hdT]; rfl) ho hdat ?_ e2
      rw [e1]
      show _ = seqItems? (dVof L.dT) >>= kk
      rw [hdT]; rfl) hbody
end
end Hk

set_option Elab.async false
set_option linter.all false
set_option maxRecDepth 100000
set_option maxHeartbeats 4000000
namespace Hk
open PySem PySem.Spec PySem.W PySem.Calls PyProof.Rows L2 LamX NdefX
/-! ### what a live frame's cells hold, told to a callee -/
def Kc (sc : Scope) (y : Str) : Prop := sc.names.lookup y = some .cell ∨ sc.names.lookup y = some .free
def CellAt (cm : List (Str × Addr)) (sc : Scope) (N : List Str) (σ : L2.St) (a : Addr) (v : V) : Prop := ∃ (i : Nat) (y : Str), N[i]? = some y ∧ cm.lookup y = some a ∧ σ[i]? = some (some v) ∧ Kc sc y
open Classical in
noncomputable def cellV (cm : List (Str × Addr)) (sc : Scope) (N : List Str) (σ : L2.St) (a : Addr) : Option V := if h : ∃ v, CellAt cm sc N σ a v then some h.choose else none
noncomputable def exC (cm : List (Str × Addr)) (sc : Scope) (N : List Str) (σ : L2.St) (obs : Addr → Obj) (H : Hp) : Hp := fun a => match cellV cm sc N σ a with
  | some v => some (CellO a v (obs a))
  | none => H a
theorem cellV_some {cm : List (Str × Addr)} {sc : Scope} {N : List Str} {σ : L2.St} {a : Addr} {v : V} (h : cellV cm sc N σ a = some v) : CellAt cm sc N σ a v := by
  unfold cellV at h
  split at h
  · rename_i q; cases h; exact q.choose_spec
  · cases h
theorem cell_uniq {cm : List (Str × Addr)} {sc : Scope} {N : List Str} {σ : L2.St} {a : Addr} {v v' : V} (nd : N.Nodup) (inj : ∀ x y c, cm.lookup x = some c → cm.lookup y = some c → x = y) (h : CellAt cm sc N σ a v) (h' : CellAt cm sc N σ a v') : v = v' := by
  obtain ⟨i, y, e1, e2, e3, _⟩ := h
  obtain ⟨j, z, d1, d2, d3, _⟩ := h'
  have e := inj _ _ _ e2 d2
  subst e
  have hi := (List.getElem?_eq_some_iff.mp e1)
  have hj := (List.getElem?_eq_some_iff.mp d1)
  have : i = j := (List.getElem_inj nd).mp (hi.2.trans hj.2.symm)
  subst this
  rw [e3] at d3
  exact Option.some.inj (Option.some.inj d3)
theorem cellV_at {cm : List (Str × Addr)} {sc : Scope} {N : List Str} {σ : L2.St} {a : Addr} {v : V} (nd : N.Nodup) (inj : ∀ x y c, cm.lookup x = some c → cm.lookup y = some c → x = y) (h : CellAt cm sc N σ a v) : cellV cm sc N σ a = some v := by
  unfold cellV
  have q : ∃ v, CellAt cm sc N σ a v := ⟨v, h⟩
  rw [dif_pos q, cell_uniq nd inj q.choose_spec h]
theorem cellV_out {cm : List (Str × Addr)} {sc : Scope} {N : List Str} {σ : L2.St} {a : Addr} (h : ¬ InC cm a) : cellV cm sc N σ a = none := by
  cases e : cellV cm sc N σ a with
  | none => rfl
  | some v =>
    obtain ⟨i, y, _, e2, _⟩ := cellV_some e
    exact absurd ⟨y, e2⟩ h
theorem exC_out {cm : List (Str × Addr)} {sc : Scope} {N : List Str} {σ : L2.St} {obs : Addr → Obj} {H : Hp} {a : Addr} (h : ¬ InC cm a) : exC cm sc N σ obs H a = H a := by unfold exC; rw [cellV_out h]
theorem exC_some {cm : List (Str × Addr)} {sc : Scope} {N : List Str} {σ : L2.St} {obs : Addr → Obj} {H : Hp} {a : Addr} {v : V} (h : cellV cm sc N σ a = some v) : exC cm sc N σ obs H a = some (CellO a v (obs a)) := by unfold exC; rw [h]
theorem exC_none {cm : List (Str × Addr)} {sc : Scope} {N : List Str} {σ : L2.St} {obs : Addr → Obj} {H : Hp} {a : Addr} (h : cellV cm sc N σ a = none) : exC cm sc N σ obs H a = H a := by unfold exC; rw [h]
/-- what is known of a frame's cells -/
structure CEnv (cm : List (Str × Addr)) (sc : Scope) (N : List Str) (H : Hp) : Prop where
  nd : N.Nodup
  inj : ∀ x y c, cm.lookup x = some c → cm.lookup y = some c → x = y
  free : ∀ a, InC cm a → H a = none
  has : ∀ y, (sc.names.lookup y = some .cell ∨ sc.names.lookup y = some .free) → ∃ c, cm.lookup y = some c
theorem CEnv.out {cm : List (Str × Addr)} {sc : Scope} {N : List Str} {H : Hp} (C : CEnv cm sc N H) {a : Addr} {o : HO} (h : H a = some o) : ¬ InC cm a := fun z => by rw [C.free a z] at h; cases h
theorem CEnv.same {cm : List (Str × Addr)} {sc : Scope} {N : List Str} {σ : L2.St} {obs : Addr → Obj} {H : Hp} (C : CEnv cm sc N H) : Same H (exC cm sc N σ obs H) := fun a o h => by rw [exC_out (C.out h)]; exact h
/-- a function that this frame made finds its cells -/
theorem CEnv.caps {cm : List (Str × Addr)} {sc : Scope} {N : List Str} {σ : L2.St} {obs : Addr → Obj} {H H' : Hp} {scope : Scope} {fr : List Str} {ws : List V} {js : List Nat} (C : CEnv cm sc N H) (hb : ndefB sc scope fr = true)
    (honly : ∀ y ∈ scope.names, y.2 = .free → y.1 ∈ fr) (hjs : js.map (fun j => N[j]?) = fr.map some) (hws : js.map (fun j => σ[j]?) = ws.map (fun v => some (some v)))
    (hs : ∀ a o, exC cm sc N σ obs H a = some o → InC cm a → H' a = some o) : CapsAt (cloFrom cm scope.names []) fr ws H' := by
  have hf : ∀ y ∈ scope.names, y.2 = .free → ∃ c, cm.lookup y.1 = some c := fun y hy e => C.has y.1 (ndef_free hb y hy e)
  refine ⟨?_, fun x y c e1 e2 => C.inj x y c (clo_cm hf e1) (clo_cm hf e2), fun y c e => ?_, fun i y hi => ?_⟩
  · have h1 := congrArg List.length hjs
    have h2 := congrArg List.length hws
    simp only [List.length_map] at h1 h2
    omega
  · rcases cloFrom_mem (PySem.mem_of_lookup e) with hm | ⟨h1, h2⟩
    · cases hm
    · exact honly (y, .free) h1 rfl
  · have hy := List.mem_of_getElem? hi
    have hfree := ndef_fr hb y hy
    obtain ⟨c, hc⟩ := hf (y, .free) hfree rfl
    have h1 := congrArg (fun l => l[i]?) hjs
    simp only [List.getElem?_map, hi, Option.map_some] at h1
    have h2 := congrArg (fun l => l[i]?) hws
    simp only [List.getElem?_map] at h2
    cases ej : js[i]? with
    | none => rw [ej] at h1; cases h1
    | some j =>
      rw [ej] at h1 h2
      simp only [Option.map_some, Option.some.injEq] at h1 h2
      cases ew : ws[i]? with
      | none => rw [ew] at h2; cases h2
      | some v =>
        rw [ew] at h2
        simp only [Option.map_some, Option.some.injEq] at h2
        have hv := cellV_at C.nd C.inj (σ := σ) (v := v) ⟨j, y, h1, hc, h2, ndef_free hb (y, .free) hfree rfl⟩
        exact ⟨c, v, clo_has hf hfree hc, rfl, _, hs _ _ (exC_some hv) ⟨y, hc⟩⟩
section
variable {X : Cx} {pins : List (Addr × Obj)} {σ : L2.St} {H : Hp} {s : Shared}
theorem cenv_of (I : Inv X pins σ H s) (nd : X.N.Nodup) : CEnv X.env.cells X.env.scope X.N H := ⟨nd, I.ok.inj, fun a ⟨y, e⟩ => I.freeC y a e, fun y h => I.ok.has y h⟩
/-- the callee runs, told of the cells -/
theorem run_exp {Q : VK} {E : XK} {c : Code} (I : Inv X pins σ H s) (nd : X.N.Nodup) (hfn : ∀ y c, X.env.cells.lookup y = some c → X.fn y = true) (hx : Passes (L2.CX X.prog X.w) X E)
    (h : ∀ obs, Env0 X.prog X.w X.K X.mg X.base X.A X.stack s (exC X.env.cells X.env.scope X.N σ obs H) → codeAny (model X.prog X.w) X.A c (CR (L2.CX X.prog X.w) X.stack X.prog X.w (exC X.env.cells X.env.scope X.N σ obs H) s (fun v H' => Q v (delC X.env.cells H')) (fun cls d H' => E cls d (delC X.env.cells H'))) s) :
    codeAny (model X.prog X.w) X.A c (fun r s' => match r with
      | .ok (.ret u) => EP X pins σ Q u s'
      | .ok _ => False
      | .error e => X.xe e s') s := by
  have C := cenv_of I nd
  obtain ⟨obs, hobs⟩ : ∃ obs : Addr → Obj, ∀ a, InC X.env.cells a → s.heap.get? a = some (obs a) := by
    refine ⟨fun a => (s.heap.get? a).getD default, fun a ⟨y, e⟩ => ?_⟩
    obtain ⟨v, o, ho, _⟩ := I.cell y a e
    show s.heap.get? a = some ((s.heap.get? a).getD default)
    rw [ho]; rfl
  have inC : ∀ {a v}, cellV X.env.cells X.env.scope X.N σ a = some v → InC X.env.cells a := fun {a v} e => by
    obtain ⟨i, y, _, e2, _⟩ := cellV_some e
    exact ⟨y, e2⟩
  have okc : ∀ {a v}, cellV X.env.cells X.env.scope X.N σ a = some v → ∃ u, L2.RelV v u ∧ (obs a).data = .cell (some u) := fun {a v} e => by
    obtain ⟨i, y, e1, e2, e3, kc⟩ := cellV_some e
    have ho := hobs a ⟨y, e2⟩
    obtain ⟨m, hn, hl⟩ := I.loc
    obtain ⟨u, r, l⟩ := hl i y v e1 e3 (kc.elim (fun z => .inr (.inl z)) fun z => .inr (.inr z))
    rcases l with ⟨k, _⟩ | ⟨_, c, hc, o, ho', hd'⟩
    · have k' : X.env.scope.names.lookup y = some .local := k
      rcases kc with z | z <;> rw [z] at k' <;> cases k'
    · rw [e2] at hc; cases hc
      rw [ho] at ho'; cases ho'
      exact ⟨u, r, hd'⟩
  have cge : ∀ a, InC X.env.cells a → X.s_0.heap.objs.size ≤ a := fun a ⟨y, e⟩ => I.ok.cab y a (hfn y a e) e
  have nfr : ∀ a, InC X.env.cells a → a ∉ frs X.stack := fun a z hb => by
    rcases List.mem_cons.mp (I.stkSub a hb) with e | e
    · obtain ⟨y, hy⟩ := z
      exact I.cne y a hy e
    · obtain ⟨_, o, ho, _⟩ := I.ok.funs.mem e
      exact absurd (Nat.lt_of_lt_of_le (Heap.lt_size ho) (cge a z)) (Nat.lt_irrefl _)
  have hokX : HOk X.prog X.w (exC X.env.cells X.env.scope X.N σ obs H) s.heap := fun a o e => by
    cases q : cellV X.env.cells X.env.scope X.N σ a with
    | some v =>
      rw [exC_some q] at e
      cases e
      obtain ⟨u, r, d⟩ := okc q
      exact cellO_ok r (hobs a (inC q)) d
    | none =>
      rw [exC_none q] at e
      exact (I.hok a o e).stay (fun _ _ _ q => q) (fun b q => C.same _ _ q) fun b xs q => C.same _ _ q
  have e1 : Env0 X.prog X.w X.K X.mg X.base X.A X.stack s (exC X.env.cells X.env.scope X.N σ obs H) := by
    have e0 := I.env0
    refine ⟨e0.frames, e0.mod, fun b o e => ⟨(e0.bs b o e).1, ?_⟩, e0.bsz, e0.funs, fun b hb => ?_, hokX, e0.bare⟩
    · rw [exC_out (fun z => ?_)]
      · exact (e0.bs b o e).2
      · have h1 := Heap.lt_size (I.ok.bs b o e).1
        exact absurd (Nat.lt_of_lt_of_le h1 (cge b z)) (Nat.lt_irrefl _)
    · rw [exC_out (fun z => nfr b z hb)]
      exact e0.frf b hb
  refine codeAny_mono (h obs e1) fun r s' hq => ?_
  /- behind it -/
  have cellK : ∀ {H' : Hp} {h' : Heap}, HOk X.prog X.w H' h' → (∀ b o u, exC X.env.cells X.env.scope X.N σ obs H b = some (.frz o u) → H' b = some (.frz o u)) → ∀ a v, cellV X.env.cells X.env.scope X.N σ a = some v → h'.get? a = some (obs a) := fun {H' h'} hok fz a v q => by
    have := fz a _ _ (exC_some q)
    exact (cellO_at (hok a _ (show H' a = some (CellO a v (obs a)) from this))).1
  have hokD : ∀ {H' : Hp} {h' : Heap}, HOk X.prog X.w H' h' → (∀ b o u, exC X.env.cells X.env.scope X.N σ obs H b = some (.frz o u) → H' b = some (.frz o u)) → (∀ b o, s.heap.get? b = some o → exC X.env.cells X.env.scope X.N σ obs H b = none → H' b = none) → HOk X.prog X.w (delC X.env.cells H') h' := fun {H' h'} hok fz fr0 a o e => by
    have na : ¬ InC X.env.cells a := fun z => by rw [delC_in z] at e; cases e
    rw [delC_out na] at e
    have st : ∀ b o, H' b = some o → (∀ ob u, o ≠ .frz ob u) → delC X.env.cells H' b = some o := fun b o q nf => by
      rw [delC_out (fun z => ?_)]
      · exact q
      · cases qq : cellV X.env.cells X.env.scope X.N σ b with
        | some v =>
          have := fz b _ _ (exC_some qq)
          rw [q] at this
          exact nf _ _ (Option.some.inj this)
        | none =>
          have := fr0 b _ (hobs b z) (by rw [exC_none qq]; exact C.free b z)
          rw [q] at this; cases this
    exact (hok a o e).stay (fun _ _ _ q => q) (fun b q => st b _ q (fun _ _ z => by cases z)) fun b xs q => st b _ q (fun _ _ z => by cases z)
  cases r with
  | ok fl =>
    cases fl with
    | ret u =>
      obtain ⟨v, H', os, bare, un, hok, rv, q⟩ := (show CE X.stack X.prog X.w (exC X.env.cells X.env.scope X.N σ obs H) s _ u s' from hq)
      have un2 : Un (frs X.stack) [] H (delC X.env.cells H') s.heap s'.heap := by
        refine ⟨fun b o e n hb hx => ?_, fun b o e n hb hx => ?_, fun b o e n hx => ?_, un.there, fun b xs e => ?_, fun b o x e => ?_, fun b ps e => ?_⟩
        · cases qq : cellV X.env.cells X.env.scope X.N σ b with
          | some w =>
            have h1 := cellK hok un.frzs b w qq
            rw [hobs b (inC qq)] at e
            cases e; exact h1
          | none => exact un.keep b o e (by rw [exC_none qq]; exact n) hb hx
        · exact un.slot b o e (by rw [exC_out (fun z => nfr b z hb)]; exact n) hb hx
        · by_cases z : InC X.env.cells b
          · exact delC_in z
          · rw [delC_out z]; exact un.free b o e (by rw [exC_out z]; exact n) hx
        · rw [delC_out (C.out e)]; exact un.tups b xs (C.same _ _ e)
        · rw [delC_out (C.out e)]; exact un.frzs b o x (C.same _ _ e)
        · rw [delC_out (C.out e)]; exact un.tbls b ps (C.same _ _ e)
      exact I.after ⟨v, delC X.env.cells H', os, bare, un2, hokD hok un.frzs (fun b o e n => un.free b o e n (by simp)), rv, q⟩
    | next => exact False.elim hq
    | brk => exact False.elim hq
    | cont => exact False.elim hq
  | error e =>
    obtain ⟨a, B, H', cls, d, ea, fl, hok, ub, na, os, bare, q⟩ := (show L2.CX X.prog X.w X.stack (exC X.env.cells X.env.scope X.N σ obs H) s _ e s' from hq)
    have ub2 : UB (frs X.stack) H (delC X.env.cells H') s.heap B s'.heap := by
      refine ⟨fun b o e n hb => ?_, ub.slot, fun b o e n => ?_, ub.there, fun b xs e => ?_, fun b o x e => ?_, fun b ps e => ?_⟩
      · cases qq : cellV X.env.cells X.env.scope X.N σ b with
        | some w =>
          have h1 := cellK hok ub.frzs b w qq
          rw [hobs b (inC qq)] at e
          cases e; exact h1
        | none => exact ub.keep b o e (by rw [exC_none qq]; exact n) hb
      · by_cases z : InC X.env.cells b
        · exact delC_in z
        · rw [delC_out z]; exact ub.free b o e (by rw [exC_out z]; exact n)
      · rw [delC_out (C.out e)]; exact ub.tups b xs (C.same _ _ e)
      · rw [delC_out (C.out e)]; exact ub.frzs b o x (C.same _ _ e)
      · rw [delC_out (C.out e)]; exact ub.tbls b ps (C.same _ _ e)
    refine hx pins σ H s e s' I ⟨a, B, delC X.env.cells H', cls, d, ea, fl, hokD hok ub.frzs (fun b o e n => ub.free b o e n), ub2, ?_, os, bare, q⟩
    by_cases z : InC X.env.cells a
    · exact delC_in z
    · rw [delC_out z]; exact na
end
/-! ### calls with the cells told -/
/-- f(..) of a def of the top -/
def tCallX (cm : List (Str × Addr)) (sc : Scope) (N : List Str) (sp : Sp) (dvs : List V) (E : XK) (t : TA) : TE := fun σ H Q => t σ H fun vs H1 => CEnv cm sc N H1 → ∀ obs, sp (vs ++ dvs) (exC cm sc N σ obs H1) (fun v H' => Q v (delC cm H')) (fun cls d H' => E cls d (delC cm H'))
section
variable {X : Cx} {k : Nat} {x : Str} {ps : List Str} {dvs : List V} {sp : Sp} {E : XK} {p pos : Pos} {e : Expr} {es : List Expr} {t : TA}
theorem pe_callX (G : Glob X.prog X.w X.K X.mg X.base (L2.CX X.prog X.w) k x ps dvs sp) (hr : Room k X.A) (hg : Gl X x) (hx : Passes (L2.CX X.prog X.w) X E) (nd : X.N.Nodup) (hfn : ∀ y c, X.env.cells.lookup y = some c → X.fn y = true) (ha : PA X (e :: es) t)
    (hdb : (x == ("__debug__" : Str)) = false := by decide) (he : starEach (e :: es) X.env = (false, eval e X.env) :: starEach es X.env := by rfl) (hpl : (backTo pos (starEach es X.env)).any (·.1) = false := by rfl) :
    PE X (.Call (.Name x p) (e :: es) [] pos) (tCallX X.env.cells X.env.scope X.N sp dvs E t) := by
  refine ⟨fun pins s σ H Q I h => ?_⟩
  obtain ⟨f, fd, ds, F, hm, kp, vd, hb⟩ := G.ex
  refine wpAny_Call_Name_kw (ld_glob I hg hm ?_ hdb)
  refine PySem.W.callWith_K (h₀ := X.base) I.ok.mod.kin kp (thn (ha.run pos pins s σ H _ I h) fun us s1 ⟨vs, H1, I1, r, q⟩ => ⟨I1.kIn, ?_⟩) he hpl
  refine wpAny_call (codeAny_mono (run_exp (Q := Q) (E := E) I1 nd hfn hx fun obs e0 => ?_) fun r s' hq => ?_)
  · have r2 : Vals (vs ++ dvs) (us ++ ds) := r.append vd
    have q2 := q (cenv_of I1 nd) obs
    have hl : (us ++ ds).length = ps.length := by rw [← r2.length]; exact F.len _ _ _ _ q2
    exact F.run X.A X.stack s1 _ ⟨us, []⟩ (us ++ ds) (vs ++ dvs) _ _ hr e0 (hb s1 us I1.kIn hl) r2 q2
  · cases r with
    | error e => exact hq
    | ok fl =>
      cases fl with
      | ret u => exact hq
      | next => exact False.elim hq
      | brk => exact False.elim hq
      | cont => exact False.elim hq
end
end Hk

set_option Elab.async false
set_option linter.all false
set_option maxRecDepth 100000
set_option maxHeartbeats 4000000
namespace Hk
open PySem PySem.Spec PyProof.Rows L2 LamX NdefX
section
variable {P : Program} {w : World} {K : PySem.W.Frag} {mg : Str → Option Value} {base : Heap} {k : Nat} {f : Addr} {fd : FuncData} {ps : List Str} {sp : Sp} {x : Str} {dvs : List V}
theorem fn_weak (F : FnOk P w K mg base CX0 k f fd ps sp) : FnOk P w K mg base (L2.CX P w) k f fd ps sp := ⟨F.len, fun A outer s H args us vs Q E hr e0 hb r q => codeAny_mono (F.run A outer s H args us vs Q E hr e0 hb r q) fun r s' h => CR.weak h⟩
theorem Glob.weak (G : Glob P w K mg base CX0 k x ps dvs sp) : Glob P w K mg base (L2.CX P w) k x ps dvs sp := by
  obtain ⟨f, fd, ds, F, r⟩ := G.ex
  exact ⟨f, fd, ds, fn_weak F, r⟩
/-- a def whose code object is told -/
theorem okT {CX : CXT} {qual : Str} {params : Arguments} {body : List Stmt} {scope : Scope} {kws : List (Str × V)} {N : List Str} {p : Str × Option Str} (F : FunD K x qual params body scope dvs kws (He.fAd K p) fd) (S : FnScope N ps scope) (len : ∀ vs H Q E, sp vs H Q E → vs.length = ps.length)
    (hbody : ∀ (A : Around) (outer : List Env) (s : Shared) (H : Hp) (vs : List V) (Q : VK) (E : XK), Room k (A.deeper (envOfC qual scope s.heap.objs.size (He.fAd K p) (.ref (He.codeOf K p)))) → sp vs H Q E →
      ∃ t, PSs (cxOf CX P w K mg base N qual scope (He.fAd K p) (.ref (He.codeOf K p)) A outer s H E) body t ∧ t { nx := fun _ H' => Q .non H', rt := Q } (start N vs) H) : FnOk P w K mg base CX (k + 1) (He.fAd K p) fd ps sp := by
  obtain ⟨oc, od, dV, kV, doc, pm, an, cdv, ct, osl, rfl, lk, hcd, _, _⟩ := F.ex
  obtain ⟨c, rfl⟩ := He.codeIn_ref hcd
  have ec := He.codeOf_eq lk rfl
  rw [ec] at hbody
  exact fn_of lk hcd S len fun A outer s H vs Q E hr hsp => hbody A outer s H vs Q E hr hsp
end
/-! ### a function value called where what is raised is wished for at the slots -/
def tCallVS (P : Program) (w : World) (K : PySem.W.Frag) (mg : Str → Option Value) (base : Heap) (k i : Nat) (E : L2.St → XK) (t : TA) : TE := fun σ H Q => ∃ f sp, σ[i]? = some (some (.ref f)) ∧ Act P w K mg base k f sp ∧ t σ H fun vs H1 => sp vs H1 Q (E σ)
section
variable {X : Cx} {k i : Nat} {x : Str} {E : L2.St → XK} {t : TA} {e : Expr} {es : List Expr} {p pos : Pos}
theorem run_actS {pins : List (Addr × Obj)} {σ : L2.St} {H : Hp} {s : Shared} {Q : VK} {f : Addr} {sp : Sp} {us : List Value} {vs : List V} (a : Act X.prog X.w X.K X.mg X.base k f sp) (hr : Room k X.A) (hx : PassesAt (L2.CX X.prog X.w) X σ (E σ)) (I : Inv X pins σ H s) (r : Vals vs us) (q : sp vs H Q (E σ)) :
    PySem.W.FnAt f s.heap ∧ wpAny (model X.prog X.w) X.A (call (.ref f) us) (EP X pins σ Q) X.xe s := by
  obtain ⟨z, c⟩ := a X.A X.stack s H us vs Q (E σ) hr I.env0 r q
  refine ⟨z, wpAny_call (codeAny_mono c fun r s' hq => ?_)⟩
  cases r with
  | error e => exact hx pins H s e s' I hq
  | ok fl =>
    cases fl with
    | ret u => exact I.after hq
    | next => exact False.elim hq
    | brk => exact False.elim hq
    | cont => exact False.elim hq
theorem pe_callVS0 (hr : Room k X.A) (hx : ∀ σ, PassesAt (L2.CX X.prog X.w) X σ (E σ)) (hN : X.N[i]? = some x) (hv : Vis X.env.scope x)
    (hd : (x == ("__debug__" : Str)) = false := by decide) (hcd : (x == ("__classdict__" : Str)) = false := by decide) :
    PE X (.Call (.Name x p) [] [] pos) (tCallVS X.prog X.w X.K X.mg X.base k i E tNil) := by
  refine ⟨fun pins s σ H Q I h => ?_⟩
  obtain ⟨f, sp, hs, ac, q⟩ := h
  refine wpAny_Call_Name_kw (thn ((pe_var (pos := p) hN hv hd hcd).run pins s σ H (fun v H1 => v = .ref f ∧ H1 = H) I ⟨.ref f, hs, rfl, rfl⟩) fun u s1 ⟨v, H1, I1, r1, q1⟩ => ?_)
  obtain ⟨ev, eH⟩ := q1
  subst ev
  rw [eH] at I1
  obtain rfl : u = Value.ref f := r1
  obtain ⟨z, c⟩ := run_actS ac hr (hx σ) I1 .nil q
  exact PySem.W.callWith_F0 (first := []) z c
theorem pe_callVS0K {P : Program} {w : World} {K : PySem.W.Frag} {mg : Str → Option Value} {base : Heap} (e1 : X.prog = P) (e2 : X.w = w) (e3 : X.K = K) (e4 : X.mg = mg) (e5 : X.base = base) (hr : Room k X.A) (hx : ∀ σ, PassesAt (L2.CX X.prog X.w) X σ (E σ)) (hN : X.N[i]? = some x) (hv : Vis X.env.scope x)
    (hd : (x == ("__debug__" : Str)) = false := by decide) (hcd : (x == ("__classdict__" : Str)) = false := by decide) :
    PE X (.Call (.Name x p) [] [] pos) (tCallVS P w K mg base k i E tNil) := by
  subst e1 e2 e3 e4 e5
  exact pe_callVS0 hr hx hN hv hd hcd
theorem pe_callVK {P : Program} {w : World} {K : PySem.W.Frag} {mg : Str → Option Value} {base : Heap} {E : XK} (e1 : X.prog = P) (e2 : X.w = w) (e3 : X.K = K) (e4 : X.mg = mg) (e5 : X.base = base) (hr : Room k X.A) (hx : Passes (L2.CX X.prog X.w) X E) (hN : X.N[i]? = some x) (hv : Vis X.env.scope x) (ha : PA X (e :: es) t)
    (hd : (x == ("__debug__" : Str)) = false := by decide) (hcd : (x == ("__classdict__" : Str)) = false := by decide)
    (he : starEach (e :: es) X.env = (false, eval e X.env) :: starEach es X.env := by rfl) (hpl : (backTo pos (starEach es X.env)).any (·.1) = false := by rfl) :
    PE X (.Call (.Name x p) (e :: es) [] pos) (tCallV P w K mg base k i E t) := by
  subst e1 e2 e3 e4 e5
  exact pe_callV hr hx hN hv ha hd hcd he hpl
theorem pe_callV0K {P : Program} {w : World} {K : PySem.W.Frag} {mg : Str → Option Value} {base : Heap} {E : XK} (e1 : X.prog = P) (e2 : X.w = w) (e3 : X.K = K) (e4 : X.mg = mg) (e5 : X.base = base) (hr : Room k X.A) (hx : Passes (L2.CX X.prog X.w) X E) (hN : X.N[i]? = some x) (hv : Vis X.env.scope x)
    (hd : (x == ("__debug__" : Str)) = false := by decide) (hcd : (x == ("__classdict__" : Str)) = false := by decide) :
    PE X (.Call (.Name x p) [] [] pos) (tCallV P w K mg base k i E tNil) := by
  subst e1 e2 e3 e4 e5
  exact pe_callV0 hr hx hN hv hd hcd
/-- the exception's class is told -/
def tCls (K : PySem.W.Frag) (cls : Value) (d : Option Addr) (t : Addr → TS) : TS := fun Dn σ H => ∃ D, cls = .ref D ∧ d = none ∧ ExcC K D ∧ t D Dn σ H
theorem pss_cls {cls : Value} {d : Option Addr} {ss : List Stmt} {t : Addr → TS} {K : PySem.W.Frag} (h : ∀ D, cls = .ref D → d = none → ExcC K D → PSs X ss (t D)) : PSs X ss (tCls K cls d t) :=
  ⟨fun pins s σ H Dn I ⟨D, e1, e2, C, q⟩ => (h D e1 e2 C).run pins s σ H Dn I q⟩
theorem call_isEK {K : PySem.W.Frag} {a D : Addr} {oe : Obj} {pn : List (Addr × Obj)} {cls : Value} {d : Option Addr} (hK : X.K = K) (C : ExcC K D) (e1 : cls = .ref D) (e2 : d = none) (hz : Zc cls d oe) (hf : ∃ vs, oe.data = .fields vs) : CallR (X.suite a ((a, oe) :: pn)) (.builtin "isinstance") (rIsE K D a) := by
  subst hK; subst e1; subst e2; exact call_isE C hz hf
end
/-! ### list.count of flat things -/
def rCntF (K : PySem.W.Frag) : V → List V → Hp → VK → Prop := fun x xs H Q => ∃ (p : Addr) (ys : List V) (y : V), x = .ref p ∧ xs = [y] ∧ SqL K H p ys ∧ flatV y = true ∧ ys.all flatV = true ∧ Q (.int (ys.countP (fun z => eqV z y) : Nat)) H
theorem count_eqU {x : V} : ∀ {xs : List V} {us : List Value}, Vals xs us → xs.all flatV = true → us.countP (eqU x) = xs.countP fun y => eqV y x
  | _, _, .nil, _ => rfl
  | y :: xs, u :: us, .cons r t, f => by
    rw [List.all_cons, Bool.and_eq_true] at f
    rw [List.countP_cons, List.countP_cons, eqU_of r f.1, count_eqU t f.2]
theorem mt_countF {X : Cx} {K : PySem.W.Frag} (hK : X.K = K) : MtR X "list.count" (rCntF K) := by
  subst hK
  intro pins s σ H x xs v us Q I rx rxs h
  obtain ⟨p, ys, y, rfl, rfl, hs, fy, fys, q⟩ := h
  cases rx
  cases rxs with
  | cons ry rt =>
    rename_i uy ut
    cases rt
    obtain ⟨its, rv, ⟨⟨cls, dd, data, sl⟩, n, ho, hc, hdn, hd⟩, hlen⟩ := I.list hs
    simp only at hc hd
    subst hc hd
    refine call_meets PySem.F.slot_list_count ⟨_, ho, rfl⟩ PySem.F.entry_list_count (PySem.F.args_list_count_2 _ _)
      (SeqAt.list_countAt p its.toArray n dd sl uy (eqU y)) ⟨ho, fun u' hu' => mem_eqAt ry fy rv fys u' (by simpa using hu'), ?_⟩
    have ec : its.toArray.toList.countP (eqU y) = ys.countP (fun z => eqV z y) := count_eqU rv fys
    refine ⟨.int (ys.countP (fun z => eqV z y) : Nat), H, I.tok _, ⟨s.toks, ?_⟩, q⟩
    show Value.int ((its.toArray.toList.countP (eqU y) : Nat) : Int) s.toks = Value.int ((ys.countP (fun z => eqV z y) : Nat) : Int) s.toks
    rw [ec]
/-! ### facts of exceptions' classes, by one Bool -/
def excB (K : PySem.W.Frag) (x : Str) : Bool :=
  He.eqO (PySem.W.findIn K (.ref (He.ga K x)) "__getattribute__") (some (some (.builtin "BaseException.__getattribute__"))) && (He.eqO (PySem.W.findIn K (.ref (He.ga K x)) "__getattr__") (some none) && (decide (PySem.W.subIn K (.ref (He.ga K x)) (.type "BaseException") = some true) && (PySem.W.hasDictIn K (He.ga K x) &&
  (He.eqO (PySem.W.findIn K (.ref (He.ga K x)) "__class__") (some (some (.builtin "object.__class__"))) && (He.eqO (PySem.W.specialIn K (.builtin "object.__class__") "__get__") (some (some (.builtin "getset_descriptor.__get__"))) && (decide (PySem.W.takesIn K (.builtin "object.__class__") = some true) && decide (PySem.W.mroIn K (He.ga K x) (.type "object") = some true)))))))
theorem excB_ok {K : PySem.W.Frag} {x : Str} (h : excB K x = true) : ExcC K (He.ga K x) := by
  unfold excB at h
  obtain ⟨h1, h⟩ := He.ba h
  obtain ⟨h2, h⟩ := He.ba h
  obtain ⟨h3, h⟩ := He.ba h
  obtain ⟨h4, h⟩ := He.ba h
  obtain ⟨h5, h⟩ := He.ba h
  obtain ⟨h6, h⟩ := He.ba h
  obtain ⟨h7, h8⟩ := He.ba h
  exact ⟨He.eqO_ok h1, He.eqO_ok h2, of_decide_eq_true h3, h4, He.eqO_ok h5, He.eqO_ok h6, of_decide_eq_true h7, of_decide_eq_true h8⟩
/-- isinstance of one of the class x: of the classes ys, in turn -/
def kitsB (K : PySem.W.Frag) (x : Str) (ys : List (Str × Bool)) : Bool := ys.all fun q => decide (PySem.W.kitOne K (.ref (He.ga K x)) (.ref (He.ga K q.1)) = some q.2)
theorem kitsB_ok {K : PySem.W.Frag} {x : Str} {ys : List (Str × Bool)} (h : kitsB K x ys = true) {y : Str} {b : Bool} (hm : (y, b) ∈ ys) : PySem.W.kitOne K (.ref (He.ga K x)) (.ref (He.ga K y)) = some b := of_decide_eq_true (List.all_eq_true.mp h (y, b) hm)
/-- an exception of the class x: caught by HearError, a ValueError, of itself alone among the eleven -/
def own11 : List Str := ["BadLine", "BadPattern", "BadWord", "BadCount", "NoListener", "Busy", "TooDeep", "NotHeld", "NoWork", "BadText", "Halt"]
def refB (K : PySem.W.Frag) (x : Str) : Bool := excB K x && (kitsB K x (own11.map fun y => (y, decide (y = x))) && (decide (PySem.W.kitOne K (.ref (He.ga K x)) (.type "ValueError") = some true) && decide (PySem.W.exmOne K (.ref (He.ga K x)) (.ref (He.ga K "HearError")) = some true)))
section
variable {CX : CXT} {P : Program} {w : World} {K : PySem.W.Frag} {mg : Str → Option Value} {base : Heap} {N : List Str} {qual : Str} {scope : Scope} {f : Addr} {cd : Value} {A : Around} {outer : List Env} {s : Shared} {H : Hp} {E : XK}
theorem cx_cells : (cxOf CX P w K mg base N qual scope f cd A outer s H E).env.cells = cellsFrom (s.heap.objs.size + 1) scope.names [] := rfl
theorem cx_scope : (cxOf CX P w K mg base N qual scope f cd A outer s H E).env.scope = scope := rfl
theorem cx_prog : (cxOf CX P w K mg base N qual scope f cd A outer s H E).prog = P := rfl
theorem cx_w : (cxOf CX P w K mg base N qual scope f cd A outer s H E).w = w := rfl
theorem cx_base : (cxOf CX P w K mg base N qual scope f cd A outer s H E).base = base := rfl
theorem cx_qual : (cxOf CX P w K mg base N qual scope f cd A outer s H E).env.qual = qual ++ (".<locals>." : Str) := rfl
theorem cx_N : (cxOf CX P w K mg base N qual scope f cd A outer s H E).N = N := rfl
end
end Hk

set_option Elab.async false
set_option linter.all false
set_option maxRecDepth 100000
set_option maxHeartbeats 4000000
namespace Hk
open PySem PySem.Spec PyProof.Rows L2 LamX NdefX
/-! ### a def within a def -/
section
variable {X : Cx} {pins : List (Addr × Obj)} {σ : L2.St} {H : Hp} {s : Shared}
theorem ndef_new {Ts : List Addr} {nm : Nat → Nat → Str} {c P : Addr} {name : Str} {params : Arguments} {body : List Stmt} {scope : Scope} {pos : Pos} {E : Value → Shared → Prop} {Q : Value → Shared → Prop} (I : Inv X pins σ H s) (TB : TabB X.base X.mg c P) (hcode : X.env.code = .ref c)
    (hm : P ∈ Ts) (hn : nm pos.line pos.col = X.env.qual ++ name) (hT : Tabs1 Ts nm H) (hfree : ∀ y ∈ scope.names, y.2 = .free → ∃ c, X.env.cells.lookup y.1 = some c)
    (h : ∀ (f c' : Addr) (H1 : Hp) (s' : Shared), Inv X pins σ H1 s' → (∀ b o, H b = some o → b ∉ Ts → H1 b = some o) → (∀ b, H1 b = Option.none → H b = Option.none) → Tabs1 Ts nm H1 → H f = none → H1 f = some (FnO f ⟨name, X.env.qual ++ name, params, body, scope, cloFrom X.env.cells scope.names [], c'⟩) → H1 c' = some (CodeO c' (X.env.qual ++ name)) → Q (.ref f) s') :
    wpAny (model X.prog X.w) X.A (makeFunction name (X.env.qual ++ name) params (.stmts body) scope X.env [] [] [] pos pos.line) Q E s := by
  obtain ⟨ps, hP, ht, ha⟩ := hT P hm
  have bP : s.heap.BuiltinsAt X.mg P := TB.bm.keeps I.bk
  have hP' : s.heap.get? P = some { cls := .none, data := .fields ps } := I.hok P _ hP
  cases hc : codeAmong pos ps.toList with
  | none =>
    refine PySem.W.makeFunction_K (mg := X.mg) (c := c) (P := P) (ps := ps) (closure_ok hfree) I.ok.glob (I.mod.glob.keeps I.bk) hcode (TB.code.keeps I.bk) hP' ht hc TB.gP bP fun c' ctv doc h' tk hx hge hlt hrec htb => ?_
    obtain ⟨c2, oc, vs, t, e2, hoc, hd, hv⟩ := hrec
    cases e2
    have nC : H c' = none := I.hok.fresh hge
    have I1 := inv_table (t' := tk) (more := #[rawInt pos.line, rawInt pos.col, .ref c']) (h' := h') I hP (fun b o hb e => hx b o hb e) htb hge ⟨oc, vs, t, hoc, hd, hv⟩
    have hE : ∀ b o, H b = some o → b ≠ P → upd (upd H P (.tbl (ps ++ #[rawInt pos.line, rawInt pos.col, .ref c']))) c' (CodeO c' (X.env.qual ++ name)) b = some o := fun b o e n => by
      rw [upd_ne (ne_of_none e nC), upd_ne n]
      exact e
    have neP : ∀ b q, H b = some (CodeO b q) → b ≠ P := fun b q e z => by
      rw [z, hP] at e
      exact codeO_ne ps (Option.some.inj e).symm
    have eL : (ps ++ #[rawInt pos.line, rawInt pos.col, .ref c']).toList = ps.toList ++ [rawInt pos.line, rawInt pos.col, .ref c'] := by simp
    have T1 : Tabs1 Ts nm (upd (upd H P (.tbl (ps ++ #[rawInt pos.line, rawInt pos.col, .ref c']))) c' (CodeO c' (X.env.qual ++ name))) := fun p hp => by
      by_cases hb : p = P
      · rw [hb]
        refine ⟨_, by rw [upd_ne (ne_of_none hP nC), upd_same], by rw [eL]; exact PySem.TriplesOk_snoc _ _ _ _ ht, fun p' cv hcv => ?_⟩
        rw [eL] at hcv
        rcases among_app2 _ ht hcv with z | ⟨z, z1, z2⟩
        · obtain ⟨c0, e1, e2⟩ := ha p' cv z
          exact ⟨c0, e1, hE _ _ e2 (neP _ _ e2)⟩
        · refine ⟨c', z, ?_⟩
          rw [← z1, ← z2, hn]
          exact upd_same
      · obtain ⟨ps', a1, a2, a3⟩ := hT p hp
        refine ⟨ps', by rw [upd_ne (ne_of_none a1 nC), upd_ne hb]; exact a1, a2, fun p' cv hcv => ?_⟩
        obtain ⟨c0, e1, e2⟩ := a3 p' cv hcv
        exact ⟨c0, e1, hE _ _ e2 (neP _ _ e2)⟩
    have nF := I1.hok.fresh (Nat.le_refl _)
    have I2 := inv_fn (F := ⟨name, X.env.qual ++ name, params, body, scope, cloFrom X.env.cells scope.names [], c'⟩) (t' := tk) (doc := doc) (pm := (X.mg "__name__").getD .none) (ctv := ctv) I1 rfl
    refine h h'.objs.size c' _ _ I2 (fun b o e n => ?_) (fun b e => upd_none (upd_none (upd_none e))) (T1.ext fun b o e => ?_) (I.hok.fresh (Nat.le_trans hge (Nat.le_of_lt hlt))) upd_same ?_
    · have e1 := hE b o e (fun z => n (by rw [z]; exact hm))
      exact (upd_ne (ne_of_none e1 nF)).trans e1
    · exact (upd_ne (ne_of_none e nF)).trans e
    · exact (upd_ne (Nat.ne_of_lt hlt)).trans upd_same
  | some cv =>
    obtain ⟨c', e, hco⟩ := ha pos cv hc
    subst e
    rw [hn] at hco
    refine PySem.W.makeFunction_hit (mg := X.mg) (c := c) (P := P) (ps := ps) (closure_ok hfree) I.ok.glob (I.mod.glob.keeps I.bk) hcode (TB.code.keeps I.bk) hP' ht hc bP fun ctv doc h' tk hx hsz => ?_
    have I1 : Inv X pins σ H { s with heap := h', toks := tk } := I.kept hx
    have nF : H h'.objs.size = none := I1.hok.fresh (Nat.le_refl _)
    have I2 := inv_fn (F := ⟨name, X.env.qual ++ name, params, body, scope, cloFrom X.env.cells scope.names [], c'⟩) (t' := tk) (doc := doc) (pm := (X.mg "__name__").getD .none) (ctv := ctv) I1 rfl
    refine h h'.objs.size c' _ _ I2 (fun b o e n => ?_) (fun b e => upd_none e) (hT.ext fun b o e => ?_) nF upd_same ?_
    · exact (upd_ne (ne_of_none e nF)).trans e
    · exact (upd_ne (ne_of_none e nF)).trans e
    · exact (upd_ne (ne_of_none hco nF)).trans hco
end
def tNdef1 (Ts : List Addr) (nm : Nat → Nat → Str) (i : Nat) (mk : Addr → NF) : TS := fun D σ H => Tabs1 Ts nm H ∧ ∀ (f c' : Addr) (H1 : Hp), (∀ b o, H b = some o → b ∉ Ts → H1 b = some o) → (∀ b, H1 b = Option.none → H b = Option.none) → Tabs1 Ts nm H1 → H f = none → H1 f = some (FnO f (mk c')) → H1 c' = some (CodeO c' (mk c').qual) → D.nx (σ.set i (some (.ref f))) H1
section
variable {X : Cx}
theorem ps_ndef1 {Ts : List Addr} {nm : Nat → Nat → Str} {c P : Addr} {name : Str} {params : Arguments} {body : List Stmt} {scope : Scope} {pos : Pos} {i : Nat} (TB : TabB X.base X.mg c P) (hcode : X.env.code = .ref c) (hm : P ∈ Ts) (hn : nm pos.line pos.col = X.env.qual ++ name)
    (hfree : ∀ y ∈ scope.names, y.2 = .free → X.env.scope.names.lookup y.1 = some .cell ∨ X.env.scope.names.lookup y.1 = some .free) (hd0 : params.defaults = []) (hk0 : params.kw_defaults = []) (ha : annTrees params none X.env = [])
    (hN : X.N.Nodup) (hi : X.N[i]? = some name) (hx : Loc X.env.scope name) (hf : X.fn name = true ∨ X.env.scope.names.lookup name = some .local) :
    PS X (.FunctionDef name params body [] none [] scope none name pos) (tNdef1 Ts nm i fun c' => ⟨name, X.env.qual ++ name, params, body, scope, cloFrom X.env.cells scope.names [], c'⟩) := by
  refine ⟨fun pins s σ H D I h => ?_⟩
  obtain ⟨hT, h⟩ := h
  have hq : qualnameIn X.env name name = X.env.qual ++ name := by
    have hk : X.env.kindOf name = some .local ∨ X.env.kindOf name = some .cell := hx
    unfold qualnameIn
    rcases hk with k | k <;> rw [k] <;> first | rfl | exact if_neg (by decide)
  refine PySem.W.nestDef_K hd0 hk0 ha ?_
  rw [hq]
  have hfr : ∀ y ∈ scope.names, y.2 = .free → ∃ c, X.env.cells.lookup y.1 = some c := fun y hy e => (hfree y hy e).elim (fun z => I.ok.has _ (.inl z)) fun z => I.ok.has _ (.inr z)
  refine ndef_new I TB hcode hm hn hT hfr fun f c' H1 s' I1 e1 e2 T1 f0 f1 c1 => ?_
  exact store_ok I1 hN hi hx (v := .ref f) rfl (fun s'' J => ⟨_, H1, J, h f c' H1 e1 e2 T1 f0 f1 c1⟩) hf
end
/-! ### defs whose functions outlive them: at the end their cells are told -/
theorem exp_facts {X : Cx} {pins : List (Addr × Obj)} {σ : L2.St} {H : Hp} {s : Shared} (I : Inv X pins σ H s) (nd : X.N.Nodup) : ∃ obs : Addr → Obj, HOk X.prog X.w (exC X.env.cells X.env.scope X.N σ obs H) s.heap := by
  have C := cenv_of I nd
  obtain ⟨obs, hobs⟩ : ∃ obs : Addr → Obj, ∀ a, InC X.env.cells a → s.heap.get? a = some (obs a) := by
    refine ⟨fun a => (s.heap.get? a).getD default, fun a ⟨y, e⟩ => ?_⟩
    obtain ⟨v, o, ho, _⟩ := I.cell y a e
    show s.heap.get? a = some ((s.heap.get? a).getD default)
    rw [ho]; rfl
  refine ⟨obs, fun a o e => ?_⟩
  cases q : cellV X.env.cells X.env.scope X.N σ a with
  | some v =>
    rw [exC_some q] at e
    cases e
    obtain ⟨i, y, e1, e2, e3, kc⟩ := cellV_some q
    have ho := hobs a ⟨y, e2⟩
    obtain ⟨m, hn, hl⟩ := I.loc
    obtain ⟨u, r, l⟩ := hl i y v e1 e3 (kc.elim (fun z => .inr (.inl z)) fun z => .inr (.inr z))
    rcases l with ⟨k, _⟩ | ⟨_, c, hc, o, ho', hd'⟩
    · have k' : X.env.scope.names.lookup y = some .local := k
      rcases kc with z | z <;> rw [z] at k' <;> cases k'
    · rw [e2] at hc; cases hc
      rw [ho] at ho'; cases ho'
      exact cellO_ok r ho hd'
  | none =>
    rw [exC_none q] at e
    exact (I.hok a o e).stay (fun _ _ _ q => q) (fun b q => C.same _ _ q) fun b xs q => C.same _ _ q
/-- a call's end, of the frame X -/
def EndM (X : Cx) (Q : VK) (fl : Flow) (s' : Shared) : Prop := ∃ u v H', fl = .ret u ∧ s'.os = X.s_0.os ∧ AllBare s'.gens ∧ Un X.fs X.ex X.H_0 H' X.s_0.heap s'.heap ∧ HOk X.prog X.w H' s'.heap ∧ L2.RelV v u ∧ Q v H'
abbrev TM := VK → L2.St → Hp → Prop
structure PM (X : Cx) (ss : List Stmt) (t : TM) : Prop where
  run : ∀ (pins : List (Addr × Obj)) (s : Shared) (σ : L2.St) (H : Hp) (Q : VK), Inv X pins σ H s → t Q σ H → wpAny (model X.prog X.w) X.A (execs ss X.env) (EndM X Q) X.xe s
def tMseq (t : TS) (u : TM) : TM := fun Q σ H => t { nx := fun σ' H' => u Q σ' H', rt := Q } σ H
def tMret (cm : List (Str × Addr)) (sc : Scope) (N : List Str) (te : TE) : TM := fun Q σ H => te σ H fun v H1 => CEnv cm sc N H1 → ∀ obs, Q v (exC cm sc N σ obs H1)
section
variable {X : Cx}
theorem pm_cons {st : Stmt} {ss : List Stmt} {t : TS} {u : TM} (h1 : PS X st t) (h2 : PM X ss u) : PM X (st :: ss) (tMseq t u) := by
  refine ⟨fun pins s σ H Q I h => ?_⟩
  refine wpAny_execs_cons (thn (h1.run pins s σ H _ I h) fun f s1 q => ?_)
  cases f with
  | next =>
    obtain ⟨σ', H', I', q⟩ := q
    exact h2.run pins s1 σ' H' Q I' q
  | ret u =>
    obtain ⟨v, σ', H', J, rv, q⟩ := q
    exact ⟨u, v, H', rfl, J.os, J.bare, J.base, J.hok, rv, q⟩
  | brk =>
    obtain ⟨_, _, _, q⟩ := q
    exact False.elim q
  | cont =>
    obtain ⟨_, _, _, q⟩ := q
    exact False.elim q
theorem un_ex {pins : List (Addr × Obj)} {σ : L2.St} {H : Hp} {s : Shared} {obs : Addr → Obj} (I : Inv X pins σ H s) (nd : X.N.Nodup) (hfn : ∀ y c, X.env.cells.lookup y = some c → X.fn y = true) : Un X.fs X.ex X.H_0 (exC X.env.cells X.env.scope X.N σ obs H) X.s_0.heap s.heap := by
  have C := cenv_of I nd
  have u := I.base
  refine ⟨u.keep, u.slot, fun b o e n z => ?_, u.there, fun b xs e => C.same _ _ (u.tups b xs e), fun b o x e => C.same _ _ (u.frzs b o x e), fun b ps e => ?_⟩
  · rw [exC_out (fun z => ?_)]
    · exact u.free b o e n z
    · obtain ⟨y, hy⟩ := z
      exact absurd (Nat.lt_of_lt_of_le (Heap.lt_size e) (I.ok.cab y b (hfn y b hy) hy)) (Nat.lt_irrefl _)
  · obtain ⟨more, q⟩ := u.tbls b ps e
    exact ⟨more, C.same _ _ q⟩
theorem pm_ret {e : Expr} {te : TE} {pos : Pos} (he : PE X e te) (nd : X.N.Nodup) (hfn : ∀ y c, X.env.cells.lookup y = some c → X.fn y = true) : PM X [.Return (some e) pos] (tMret X.env.cells X.env.scope X.N te) := by
  refine ⟨fun pins s σ H Q I h => ?_⟩
  refine wpAny_execs_cons (wpAny_Return_some (thn (he.run pins s σ H _ I h) fun u s1 ⟨v, H1, I1, r1, q1⟩ => ?_))
  obtain ⟨obs, hok⟩ := exp_facts I1 nd
  exact ⟨u, v, _, rfl, I1.os, I1.bare, un_ex I1 nd hfn, hok, r1, q1 (cenv_of I1 nd) obs⟩
end
section
variable {P : Program} {w : World} {K : PySem.W.Frag} {mg : Str → Option Value} {base : Heap} {k : Nat} {fd : FuncData} {ps : List Str} {sp : Sp} {x : Str} {dvs : List V}
/-- a def by such a body -/
theorem okM {CX : CXT} {qual : Str} {params : Arguments} {body : List Stmt} {scope : Scope} {kws : List (Str × V)} {N : List Str} {p : Str × Option Str} (F : FunD K x qual params body scope dvs kws (He.fAd K p) fd) (S : FnScope N ps scope) (len : ∀ vs H Q E, sp vs H Q E → vs.length = ps.length)
    (hbody : ∀ (A : Around) (outer : List Env) (s : Shared) (H : Hp) (vs : List V) (Q : VK) (E : XK), Room k (A.deeper (envOfC qual scope s.heap.objs.size (He.fAd K p) (.ref (He.codeOf K p)))) → sp vs H Q E →
      ∃ t, PM (cxOf CX P w K mg base N qual scope (He.fAd K p) (.ref (He.codeOf K p)) A outer s H E) body t ∧ t Q (start N vs) H) : FnOk P w K mg base CX (k + 1) (He.fAd K p) fd ps sp := by
  obtain ⟨oc, od, dV, kV, doc, pm, an, cdv, ct, osl, rfl, lk, hcd, _, _⟩ := F.ex
  obtain ⟨c, rfl⟩ := He.codeIn_ref hcd
  have ec := He.codeOf_eq lk rfl
  rw [ec] at hbody
  refine ⟨len, fun A outer s H args us vs Q E hr e0 hb r hsp => ?_⟩
  have hl := len _ _ _ _ hsp
  have KX : K.In s.heap := e0.mod.kin.keeps fun b o e => (e0.bs b o e).1
  have lim : s.heap.NoLimit := e0.mod.nolimit.keeps fun b o e => (e0.bs b o e).1
  have hkind : ∀ y ∈ ps.zip us, scope.names.lookup y.1 = some .local ∨ (scope.names.lookup y.1 = some .cell ∧ ((cellsFrom (s.heap.objs.size + 1) scope.names []).lookup y.1).isSome = true) := fun ⟨n, v⟩ hy => by
    rcases S.par n (List.of_mem_zip hy).1 with q | q
    · exact .inl q
    · exact .inr ⟨q, PySem.W.cellsFrom_some _ _ _ (.inl q)⟩
  refine codeAny_call_function hr.depth (KX _ _ lk) rfl S.co S.gen rfl (PySem.W.codeRec_of KX hcd) (hb _ _ _ _ ?_)
  refine wpAny_newFunctionEnv_cells S.kind hkind fun env he s1 x => ?_
  subst he
  refine ⟨lim.keeps x.toInCall.keep, codeAny_func ?_⟩
  obtain ⟨t, ht, hq⟩ := hbody A outer s H vs Q E (hr.deeper _) hsp
  have I : Inv (cxOf CX P w K mg base N qual scope (He.fAd K p) (.ref c) A outer s H E) [] (L2.start N vs) H s1 := inv_start S hr.hd e0 hl r x
  refine wpAny_mono (ht.run [] s1 (L2.start N vs) H Q I hq) (fun fl s' hs => ?_) fun e s' hs => hs
  obtain ⟨u, v, H', rfl, os, bare, un, hok, rv, q⟩ := hs
  exact ⟨v, H', os, bare, un, hok, rv, q⟩
end
/-! ### a lambda of a live frame, called by a callee -/
/-- what stands in the body's heap, what stood in the caller's -/
theorem body_in {cm cl : List (Str × Addr)} {sc : Scope} {N : List Str} {σ : L2.St} {obs : Addr → Obj} {H : Hp} (C : CEnv cm sc N H) (hcl : ∀ y c, cl.lookup y = some c → cm.lookup y = some c) : Same H (delC cl (exC cm sc N σ obs H)) := fun a o h => by
  rw [delC_out (fun z => by obtain ⟨y, e⟩ := z; exact C.out h ⟨y, hcl y a e⟩)]
  exact C.same _ _ h
/-- the heap behind the call, from the body's -/
theorem body_out {S : Addr → Prop} {cm cl : List (Str × Addr)} {sc : Scope} {N : List Str} {σ : L2.St} {obs : Addr → Obj} {H H' H2 : Hp} (C : CEnv cm sc N H) (hcl : ∀ y c, cl.lookup y = some c → cm.lookup y = some c)
    (e : Ext S (delC cl (exC cm sc N σ obs H)) H') (e2 : ∀ b o, ¬ S b → putC cl (exC cm sc N σ obs H) H' b = some o → H2 b = some o) : Ext S H (delC cm H2) := fun a o n h => by
  have na : ¬ InC cm a := C.out h
  have nl : ¬ InC cl a := fun ⟨y, q⟩ => na ⟨y, hcl y a q⟩
  rw [delC_out na]
  exact e2 a o n (by rw [putC_out nl]; exact e a o n (body_in C hcl a o h))
theorem act_use {P : Program} {w : World} {K : PySem.W.Frag} {mg : Str → Option Value} {base : Heap} {k : Nat} {f : Addr} {L : LF} {fr : List Str} {dvs : List V} {spN : List (Option V) → Sp} {H : Hp} {R : Sp → Prop} (hf : H f = some (LamO f L)) (a : Act P w K mg base k f (spLam f L fr dvs spN)) (h : R (spLam f L fr dvs spN)) : ∃ sp, Act P w K mg base k f sp ∧ R sp := ⟨_, a, h⟩
theorem fin_same {cm cl : List (Str × Addr)} {sc : Scope} {N : List Str} {σ : L2.St} {obs : Addr → Obj} {H H' H2 : Hp} (C : CEnv cm sc N H) (hcl : ∀ y c, cl.lookup y = some c → cm.lookup y = some c)
    (e : Same (delC cl (exC cm sc N σ obs H)) H') (e2 : Same (putC cl (exC cm sc N σ obs H) H') H2) : Same H (delC cm H2) :=
  (body_out (S := No) C hcl (.of_same e) fun b o _ h => e2 b o h).same
theorem Tabs1.nt {Ts : List Addr} {nm : Nat → Nat → Str} {H : Hp} (t : Tabs1 Ts nm H) {b : Addr} {o : HO} (h : H b = some o) (n : ∀ ps, o ≠ .tbl ps) : b ∉ Ts := fun hb => by
  obtain ⟨ps, e, _⟩ := t b hb
  rw [h] at e
  exact n ps (Option.some.inj e)
theorem Tabs1.ext2 {Ts : List Addr} {nm : Nat → Nat → Str} {H H' : Hp} (t : Tabs1 Ts nm H) (h1 : ∀ b ps, H b = some (.tbl ps) → H' b = some (.tbl ps)) (h2 : ∀ c q, H c = some (CodeO c q) → H' c = some (CodeO c q)) : Tabs1 Ts nm H' := fun p hp => by
  obtain ⟨ps, a1, a2, a3⟩ := t p hp
  refine ⟨ps, h1 _ _ a1, a2, fun pos cv hc => ?_⟩
  obtain ⟨c, e1, e2⟩ := a3 pos cv hc
  exact ⟨c, e1, h2 _ _ e2⟩
theorem clo_sub {cm : List (Str × Addr)} {sc : Scope} {N : List Str} {H : Hp} {scope : Scope} {fr : List Str} (C : CEnv cm sc N H) (hb : ndefB sc scope fr = true) : ∀ y c, (cloFrom cm scope.names []).lookup y = some c → cm.lookup y = some c :=
  fun y c e => clo_cm (fun y hy e => C.has y.1 (ndef_free hb y hy e)) e
end Hk

set_option Elab.async false
set_option linter.all false
set_option maxRecDepth 100000
set_option maxHeartbeats 4000000
/-! list(zip(xs, ys)) of two lists. -/
namespace PySem.F
theorem zip_no_len : typeLookup (.type "zip") "__len__" = pure none := by rw [typeLookup_type, builtinLookup_eq_fast]; kernel_rfl
theorem zip_no_hint : typeLookup (.type "zip") "__length_hint__" = pure none := by rw [typeLookup_type, builtinLookup_eq_fast]; kernel_rfl
end PySem.F
namespace Hk
open PySem PySem.Spec PyProof.Rows L2 PySem.W PySem.Calls
def pr2 (q : V × V) : List V := [q.1, q.2]
section
variable {X : Cx} {pins : List (Addr × Obj)} {σ : L2.St} {z TI TO i1 i2 a b q : Addr} {xs ys : List V} {H1 : Hp} {A1 : Around}
/-- what is known of the zip, between the draws -/
structure ZS (X : Cx) (pins : List (Addr × Obj)) (H : Hp) (h : Heap) (z TI TO i1 i2 a b : Addr) (i : Nat) : Prop where
  zz : (IsZip h z TI TO .none ∧ ∃ x y, IsPair h TO x y) ∨ ∃ T f u, IsZipHeld h z TI TO T f ∧ H T = some (.tup u)
  ti : IsPair h TI (.ref i1) (.ref i2)
  h1 : h.IsListIter i1 a i
  h2 : h.IsListIter i2 b i
  fp : ∀ c ∈ [z, TI, TO, i1, i2], FpOk X pins H c
  lt : ∀ c ∈ [z, TI, TO, i1, i2], c < h.objs.size
theorem fp_up {H : Hp} {c T : Addr} {o : HO} (f : FpOk X pins H c) (n : c ≠ T) : FpOk X pins (upd H T o) c := ⟨by rw [upd_ne n]; exact f.1, f.2⟩
theorem zl_loop {Rs : Result → Shared → Prop} (D : ZipApart z TI TO i1 i2 a b) (hd : A1.in1.handled = none) (hxs : SqL X.K H1 a xs) (hys : SqL X.K H1 b ys) (hle : (xs.zip ys).length < sizeLine)
    (hdone : ∀ ts H s, Inv X pins σ H s → Same H1 H → H q = some (.lst (ts.map V.ref)) → TupsAt H ts ((xs.zip ys).map pr2) → Rs (.ok (.ret .none)) s) :
    ∀ (m i : Nat) (ts : List Addr) (H : Hp) (s : Shared), i + m = (xs.zip ys).length → Inv X pins σ H s → ZS X pins H s.heap z TI TO i1 i2 a b i → Same H1 H → H1 q = none → H q = some (.lst (ts.map V.ref)) → TupsAt H ts (((xs.zip ys).take i).map pr2) →
      codeAny (model X.prog X.w) A1 (.builtin "list.extend.loop" ⟨[.ref q, .ref z, .none], []⟩) Rs s := by
  intro m
  induction m with
  | zero =>
    intro i ts H s hi I Z sH hq0 hq hts
    refine codeAny_builtin PySem.F.entry_extend_loop ?_
    rw [Around.under_plainId PySem.F.plain_extend_loop _]
    show wpAny _ A1.in1 (pyNext (.ref z) >>= _) _ _ s
    obtain ⟨its, rv, p, _⟩ := I.list (sH.seq hxs)
    obtain ⟨its2, rv2, p2, _⟩ := I.list (sH.seq hys)
    have l1 := rv.length
    have l2 := rv2.length
    have hz : (xs.zip ys).length = min xs.length ys.length := List.length_zip
    have he : its.toArray[i]? = none ∨ its2.toArray[i]? = none := by
      by_cases hc : xs.length ≤ ys.length
      · exact .inl (by simp; omega)
      · exact .inr (by simp; omega)
    have hts' : TupsAt H ts ((xs.zip ys).map pr2) := by
      rw [List.take_of_length_le (by omega)] at hts; exact hts
    refine wpAny_bind ?_
    rcases Z.zz with ⟨hz, x0, y0, hTO⟩ | ⟨T, f, u, hz, hT⟩
    · exact wpAny_pyNext_zip_end hd D hz Z.ti hTO Z.h1 Z.h2 p.isList p2.isList he fun h' hk => wpAny_pure (hdone ts H _ (I.turnedL (t' := s.toks) (ch := [z, TI, TO, i1, i2]) (fun c o hb e =>
        hk c o (fun q' => hb (by simp [q'])) (fun q' => hb (by simp [q'])) (fun q' => hb (by simp [q'])) (fun q' => hb (by simp [q'])) e) Z.fp) sH hq hts')
    · obtain ⟨_, _, _, oT, hoT, _⟩ := I.hok T _ hT
      exact wpAny_pyNext_zip_end_held hd D hz hoT Z.ti Z.h1 Z.h2 p.isList p2.isList he fun h' hk => wpAny_pure (hdone ts H _ (I.turnedL (t' := s.toks) (ch := [z, TI, TO, i1, i2]) (fun c o hb e =>
        hk c o (fun q' => hb (by simp [q'])) (fun q' => hb (by simp [q'])) (fun q' => hb (by simp [q'])) e) Z.fp) sH hq hts')
  | succ m ih =>
    intro i ts H s hi I Z sH hq0 hq hts
    refine codeAny_builtin PySem.F.entry_extend_loop ?_
    rw [Around.under_plainId PySem.F.plain_extend_loop _]
    show wpAny _ A1.in1 (pyNext (.ref z) >>= _) _ _ s
    have hsx := sH.seq hxs
    have hsy := sH.seq hys
    obtain ⟨its, rv, p, _⟩ := I.list hsx
    obtain ⟨its2, rv2, p2, _⟩ := I.list hsy
    have hlt : i < (xs.zip ys).length := by omega
    have hpq : (xs.zip ys)[i]? = some (xs.zip ys)[i] := List.getElem?_eq_getElem hlt
    obtain ⟨hx, hy⟩ := List.getElem?_zip_eq_some.mp hpq
    obtain ⟨u, hu, ru⟩ := rv.get hx
    obtain ⟨u2, hu2, ru2⟩ := rv2.get hy
    have nT : H s.heap.objs.size = none := I.hok.fresh (Nat.le_refl _)
    have nqT : q ≠ s.heap.objs.size := ne_of_none hq nT
    have tl : ts.length = i := by
      have := hts.len
      rw [List.length_map, List.length_take] at this
      omega
    /- behind the draw -/
    have fin : ∀ (h' : Heap), IsPair h' s.heap.objs.size u u2 → (∀ c o, c ∉ [z, TI, TO, i1, i2] → s.heap.get? c = some o → h'.get? c = some o) → (∃ T f w, IsZipHeld h' z TI TO T f ∧ (T = s.heap.objs.size ∨ H T = some (.tup w))) → IsPair h' TI (.ref i1) (.ref i2) → h'.IsListIter i1 a (i + 1) → h'.IsListIter i2 b (i + 1) → h'.objs.size = s.heap.objs.size + 1 →
        wpAny (model X.prog X.w) A1.in1 (updateSeq q (·.push (Value.ref s.heap.objs.size)) >>= fun _ => again (.builtin "list.extend.loop" ⟨[.ref q, .ref z, .none], []⟩))
          (fun fin s' => match fin with | .done f => Rs (.ok f) s' | .again c' => c'.quiet = true ∧ codeAny (model X.prog X.w) A1 c' Rs s') (fun e s' => Rs (.error e) s') { s with heap := h' } := by
      intro h' hp' hk hzz hti hh1 hh2 hsz
      have new : ObjOk X.prog X.w (upd H s.heap.objs.size (.tup (pr2 (xs.zip ys)[i]))) h' s.heap.objs.size (.tup (pr2 (xs.zip ys)[i])) :=
        ⟨by show 2 ≤ sizeLine; decide, [u, u2], .cons ru (.cons ru2 .nil), ⟨_, hp', rfl, _, rfl⟩⟩
      have I1 : Inv X pins σ (upd H s.heap.objs.size (.tup (pr2 (xs.zip ys)[i]))) { s with heap := h' } := I.turnedNew (t' := s.toks) (ch := [z, TI, TO, i1, i2]) hk Z.fp (Nat.le_refl _) new
      have hq1 : upd H s.heap.objs.size (.tup (pr2 (xs.zip ys)[i])) q = some (.lst (ts.map V.ref)) := by rw [upd_ne nqT]; exact hq
      obtain ⟨zz, its3, k3, r3, hl3, e3⟩ := I1.lstM hq1
      have hl4 : its3.length = i := by rw [← hl3, List.length_map, tl]
      refine wpAny_bind (wpAny_updateSeq e3 rfl (wpAny_pure ⟨plainId_quiet PySem.F.plain_extend_loop _, ?_⟩) (by rw [List.size_toArray]; omega) (by show (its3.toArray.push _).size ≤ sizeLine + 1; rw [Array.size_push, List.size_toArray]; omega))
      have I2 := I1.lset (f := (·.push (Value.ref s.heap.objs.size))) (its' := its3 ++ [Value.ref s.heap.objs.size]) (ys := ts.map V.ref ++ [V.ref s.heap.objs.size]) (t' := s.toks) hq1 e3 (by simp) (r3.append (.cons rfl .nil)) (by rw [List.length_append, List.length_map, List.length_singleton]; omega)
      have ztl : ∀ c ∈ [z, TI, TO, i1, i2], c ≠ s.heap.objs.size ∧ c ≠ q := fun c hc => ⟨Nat.ne_of_lt (Z.lt c hc), fun e => by rw [← e, (Z.fp c hc).1] at hq; cases hq⟩
      have kq : ∀ c o, c ≠ q → h'.get? c = some o → (h'.update q (Obj.mapSeq (·.push (Value.ref s.heap.objs.size)))).get? c = some o := fun c o hc e => (Heap.get?_update_other h' _ (Ne.symm hc)).trans e
      have eqT : ts.map V.ref ++ [V.ref s.heap.objs.size] = (ts ++ [s.heap.objs.size]).map V.ref := by rw [List.map_append]; rfl
      rw [eqT] at I2
      have sH2 : Same H1 (upd (upd H s.heap.objs.size (.tup (pr2 (xs.zip ys)[i]))) q (.lst ((ts ++ [s.heap.objs.size]).map V.ref))) := same_put (same_put sH (sH.free nT)) hq0
      refine ih (i + 1) (ts ++ [s.heap.objs.size]) _ _ (by omega) I2 ?_ sH2 hq0 upd_same ?_
      · refine ⟨.inr ?_, ?_, hh1.at fun o e => kq _ o (ztl _ (by simp)).2 e, hh2.at fun o e => kq _ o (ztl _ (by simp)).2 e, fun c hc => fp_up (fp_up (Z.fp c hc) (ztl c hc).1) (ztl c hc).2, fun c hc => ?_⟩
        · obtain ⟨T, f, w, e1, e2⟩ := hzz
          rcases e2 with e2 | e2
          · refine ⟨T, f, pr2 (xs.zip ys)[i], kq _ _ (ztl z (by simp)).2 e1, ?_⟩
            rw [e2, upd_ne nqT.symm]; exact upd_same
          · refine ⟨T, f, w, kq _ _ (ztl z (by simp)).2 e1, ?_⟩
            have n1 : T ≠ s.heap.objs.size := ne_of_none e2 nT
            have n2 : T ≠ q := ne_of e2 hq (fun z => by cases z)
            rw [upd_ne n2, upd_ne n1]; exact e2
        · exact kq _ _ (ztl TI (by simp)).2 hti
        · show c < (h'.update q _).objs.size
          rw [Heap.size_update, hsz]
          exact Nat.lt_succ_of_lt (Z.lt c hc)
      · have et : ((xs.zip ys).take (i + 1)).map pr2 = ((xs.zip ys).take i).map pr2 ++ [pr2 (xs.zip ys)[i]] := by rw [List.take_add_one, hpq, List.map_append]; rfl
        have hn : upd (upd H s.heap.objs.size (.tup (pr2 (xs.zip ys)[i]))) q (.lst ((ts ++ [s.heap.objs.size]).map V.ref)) s.heap.objs.size = some (.tup (pr2 (xs.zip ys)[i])) := by rw [upd_ne nqT.symm]; exact upd_same
        rw [et]
        refine TupsAt.snoc hn (hts.mono fun t x e => ?_)
        have n1 : t ≠ s.heap.objs.size := ne_of_none e nT
        have n2 : t ≠ q := ne_of e hq (fun z => by cases z)
        rw [upd_ne n2, upd_ne n1]; exact e
    refine wpAny_bind ?_
    rcases Z.zz with ⟨hz, x0, y0, hTO⟩ | ⟨T, f, w, hz, hT⟩
    · refine wpAny_pyNext_zip_item D hz Z.ti hTO Z.h1 Z.h2 p.isList p2.isList (x := u) (y := u2) (by simpa using hu) (by simpa using hu2) fun h' z' TO' h1' h2' hT' hsz hk => ?_
      exact fin h' hT' (fun c o hb e => hk c o (fun q' => hb (by simp [q'])) (fun q' => hb (by simp [q'])) (fun q' => hb (by simp [q'])) (fun q' => hb (by simp [q'])) e) ⟨s.heap.objs.size, false, [], z', .inl rfl⟩ (hk _ _ D.TIz D.TITO D.TIi1 D.TIi2 Z.ti) h1' h2' hsz
    · obtain ⟨_, _, _, oT, hoT, _⟩ := I.hok T _ hT
      refine wpAny_pyNext_zip_item_held D hz hoT Z.ti Z.h1 Z.h2 p.isList p2.isList (x := u) (y := u2) (by simpa using hu) (by simpa using hu2) fun h' z' h1' h2' hT' hsz hk => ?_
      exact fin h' hT' (fun c o hb e => hk c o (fun q' => hb (by simp [q'])) (fun q' => hb (by simp [q'])) (fun q' => hb (by simp [q'])) e) ⟨T, true, w, z', .inr hT⟩ (hk _ _ D.TIz D.TIi1 D.TIi2 Z.ti) h1' h2' hsz
/-- list(z), z a zip just made -/
theorem zl_list {Q : VK} {H : Hp} {s : Shared} (hc : X.calm = true) (D : ZipApart z TI TO i1 i2 a b) (I : Inv X pins σ H s) (Z : ZS X pins H s.heap z TI TO i1 i2 a b 0) (hz0 : IsZip s.heap z TI TO .none) (hxs : SqL X.K H a xs) (hys : SqL X.K H b ys) (hle : (xs.zip ys).length < sizeLine)
    (h : ∀ q ts H', H q = none → Same H H' → H' q = some (.lst (ts.map V.ref)) → TupsAt H' ts ((xs.zip ys).map pr2) → Q (.ref q) H') :
    wpAny (model X.prog X.w) X.A (call (.type "list") [.ref z]) (EP X pins σ Q) X.xe s := by
  have hd0 : X.A.handled = none := I.ok.hd hc
  refine callType_codes (Q₁ := fun obj s₁ => obj = .ref s.heap.objs.size ∧ s₁ = { s with heap := s.heap.push { cls := .type "list", data := .seq #[] } }) PySem.F.called_list (PySem.F.typeCall_list_1 _) PySem.F.entry_list_init
    (code_list_new _ ⟨rfl, rfl⟩) fun obj s₁ h₁ => ?_
  obtain ⟨rfl, rfl⟩ := h₁
  have hS : (s.heap.push { cls := .type "list", data := .seq #[] }).get? s.heap.objs.size = some { cls := .type "list", data := .seq #[] } := Heap.get?_push_size _ rfl
  refine ⟨⟨_, hS, rfl⟩, PySem.F.args_list_init_2 _ _, ?_⟩
  have fr : H s.heap.objs.size = none := I.hok.fresh (Nat.le_refl _)
  have I1 : Inv X pins σ (upd H s.heap.objs.size (.lst [])) { s with heap := s.heap.push { cls := .type "list", data := .seq #[] } } := I.lnew (its := []) (t' := s.toks) .nil (Nat.zero_le _)
  show wpAny _ _ (do let old ← Builtin.List.listItems (.ref s.heap.objs.size); Builtin.List.listUpdate (.ref s.heap.objs.size) (fun _ => #[]); letGo old.toList.reverse; Builtin.List.listExtendWith (.ref s.heap.objs.size) (.ref z) .none) _ _ _
  refine wpAny_bind ?_
  unfold Builtin.List.listItems
  refine wpAny_bind (wpAny_seqItems hS rfl (wpAny_pure ?_))
  show wpAny _ _ (updateSeq s.heap.objs.size (fun _ => #[]) >>= fun _ => letGo (#[] : Array Value).toList.reverse >>= fun _ => Builtin.List.listExtendWith (.ref s.heap.objs.size) (.ref z) .none) _ _ _
  refine wpAny_bind (wpAny_updateSeq hS rfl ?_)
  have I2 := I1.lset (f := fun _ => #[]) (its := []) (its' := []) (ys := []) (t' := s.toks) upd_same hS rfl .nil (Nat.zero_le _)
  rw [upd_upd] at I2
  refine wpAny_bind (wpAny_letGo ?_)
  have nzS : s.heap.objs.size ≠ z := Nat.ne_of_gt (Z.lt z (by simp))
  have nS : ∀ c ∈ [z, TI, TO, i1, i2], c ≠ s.heap.objs.size := fun c hc => Nat.ne_of_lt (Z.lt c hc)
  have sH : Same H (upd H s.heap.objs.size (.lst [])) := same_put (Same.refl _) fr
  generalize hs2 : ({ s with heap := (s.heap.push { cls := .type "list", data := .seq #[] }).update s.heap.objs.size (Obj.mapSeq fun _ => (#[] : Array Value)) } : Shared) = s2
  have kz : ∀ c o, c ≠ s.heap.objs.size → s.heap.get? c = some o → s2.heap.get? c = some o := fun c o hc e => by
    rw [← hs2]
    exact (Heap.get?_update_other _ _ (Ne.symm hc)).trans (Heap.get?_push_of_some _ e)
  have I2' : Inv X pins σ (upd H s.heap.objs.size (.lst [])) s2 := by rw [← hs2]; exact I2
  have sz2 : s2.heap.objs.size = s.heap.objs.size + 1 := by rw [← hs2]; show (Heap.update _ _ _).objs.size = _; rw [Heap.size_update, Heap.size_push]
  have hz2 : IsZip s2.heap z TI TO .none := kz _ _ (nS z (by simp)) hz0
  have hTy : s2.TypeIs (.ref z) "zip" := ⟨_, hz2, rfl⟩
  clear hs2 I2 I1
  unfold Builtin.List.listExtendWith
  refine wpAny_bind (wpAny_typeOf hTy ?_)
  have h1 : Builtin.List.listSameRef (.ref s.heap.objs.size) (.ref z) = false := by simp [Builtin.List.listSameRef, nzS]
  have h2 : (Value.type "zip" == Value.type "list") = false := by decide
  have h3 : (Value.type "zip" == Value.type "tuple") = false := by decide
  simp only [h1, h2, h3, Bool.or_false, Bool.false_eq_true, if_false]
  refine wpAny_bind (wpAny_pyIter_zip hz2 ?_)
  refine wpAny_bind (wpAny_holding ?_)
  unfold Builtin.List.listLengthHint
  refine wpAny_bind (wpAny_specialOf hTy PySem.F.zip_no_len ?_)
  show wpAny _ _ (specialOf (Value.ref z) (Str.ofString "__length_hint__") >>= _) _ _ _
  refine wpAny_bind (wpAny_specialOf hTy PySem.F.zip_no_hint ?_)
  refine wpAny_pure ?_
  show wpAny _ _ (rule "list.extend.makes-room" >>= fun _ => Builtin.List.listTouch (.ref s.heap.objs.size) >>= fun _ =>
    again (.builtin "list.extend.loop" ⟨[.ref s.heap.objs.size, .ref z, .none], []⟩)) _ _ _
  refine wpAny_bind (wpAny_rule ?_)
  refine wpAny_bind ?_
  show wpAny _ _ (updateSeq s.heap.objs.size (·.push .none) >>= fun _ => updateSeq s.heap.objs.size (·.pop)) _ _ _
  obtain ⟨z3, its3, k3, r3, hl3, e3⟩ := I2'.lstM upd_same
  cases r3
  refine wpAny_bind (wpAny_updateSeq e3 rfl ?_)
  have I3 := I2'.lset (f := (·.push Value.none)) (its' := [Value.none]) (ys := [.non]) (t' := s2.toks) upd_same e3 (by simp) (.cons rfl .nil) (by rw [List.length_singleton, sizeLine_eq]; decide)
  rw [upd_upd] at I3
  obtain ⟨z4, its4, k4, r4, hl4, e4⟩ := I3.lstM upd_same
  obtain ⟨u4, rfl, ru4⟩ := r4.one
  refine wpAny_updateSeq e4 rfl ?_ (by show 1 ≤ sizeLine; rw [sizeLine_eq]; decide) (by show 0 ≤ sizeLine + 1; exact Nat.zero_le _)
  have I4 := I3.lset (f := (·.pop)) (its := [u4]) (its' := []) (ys := []) (t' := s2.toks) upd_same e4 (by rfl) .nil (Nat.zero_le _)
  rw [upd_upd] at I4
  have kz2 : ∀ c o, c ≠ s.heap.objs.size → s.heap.get? c = some o → ((s2.heap.update s.heap.objs.size (Obj.mapSeq (·.push Value.none))).update s.heap.objs.size (Obj.mapSeq (·.pop))).get? c = some o := fun c o hc e =>
    (Heap.get?_update_other _ _ (Ne.symm hc)).trans ((Heap.get?_update_other _ _ (Ne.symm hc)).trans (kz c o hc e))
  have hTO : ∃ x y, IsPair s.heap TO x y := by
    rcases Z.zz with ⟨_, h⟩ | ⟨T, f, u, h1, _⟩
    · exact h
    · have e := (show s.heap.get? z = _ from hz0).symm.trans (show s.heap.get? z = _ from h1)
      simp [rawInt] at e
  obtain ⟨x0, y0, hTO⟩ := hTO
  refine wpAny_pure ⟨plainId_quiet PySem.F.plain_extend_loop _, ?_⟩
  refine zl_loop (A1 := X.A.in1) (q := s.heap.objs.size) (H1 := H) (xs := xs) (ys := ys) D hd0 hxs hys hle (fun ts H' s' I' sH' hq' ht' => ⟨rfl, .ref s.heap.objs.size, H', I', rfl, h _ ts H' fr sH' hq' ht'⟩) (xs.zip ys).length 0 [] _ _ (Nat.zero_add _) I4 ?_ sH fr upd_same trivial
  refine ⟨.inl ⟨kz2 _ _ (nS z (by simp)) hz0, x0, y0, kz2 _ _ (nS TO (by simp)) hTO⟩, kz2 _ _ (nS TI (by simp)) Z.ti, Z.h1.at fun o e => kz2 _ o (nS i1 (by simp)) e, Z.h2.at fun o e => kz2 _ o (nS i2 (by simp)) e, fun c hc => fp_up (Z.fp c hc) (nS c hc), fun c hc => ?_⟩
  show c < (Heap.update _ _ _).objs.size
  rw [Heap.size_update, Heap.size_update, sz2]
  exact Nat.lt_succ_of_lt (Z.lt c hc)
end
/-- list(zip(e, e2)) -/
def tListZip (K : PySem.W.Frag) (ta : TA) : TE := fun σ H Q => ta σ H fun vs H1 => ∃ a b xs ys, vs = [.ref a, .ref b] ∧ SqL K H1 a xs ∧ SqL K H1 b ys ∧ (xs.zip ys).length < sizeLine ∧
  ∀ q ts H', H1 q = none → Same H1 H' → H' q = some (.lst (ts.map V.ref)) → TupsAt H' ts ((xs.zip ys).map pr2) → Q (.ref q) H'
theorem pe_listZip {X : Cx} {K : PySem.W.Frag} {e e2 : Expr} {ta : TA} {p pos p' pos' : Pos} (hK : X.K = K) (hc : X.calm = true) (hgl : Gl X "list") (hml : X.mg "list" = none) (hg : Gl X "zip") (hm : X.mg "zip" = none) (ha : PA X [e, e2] ta)
    (hs : starEach [e, e2] X.env = (false, eval e X.env) :: starEach [e2] X.env := by rfl) (hpl : (backTo pos (starEach [e2] X.env)).any (·.1) = false := by rfl)
    (hs2 : starEach [.Call (.Name "zip" p) [e, e2] [] pos] X.env = [(false, eval (.Call (.Name "zip" p) [e, e2] [] pos) X.env)] := by rfl) :
    PE X (.Call (.Name "list" p') [.Call (.Name "zip" p) [e, e2] [] pos] [] pos') (tListZip K ta) := by
  subst hK
  refine ⟨fun pins s σ H Q I h => ?_⟩
  have hbl : bootBuiltins (Str.ofString "list") = some (.type "list") := by decide +kernel
  refine wpAny_Call_Name_kw (ld_blt I hgl hml hbl (PyProof.Rows.callWith_type1 (rest := []) ?_ hs2 rfl))
  rw [hs2]
  show wpAny _ _ (spliced [(false, eval (.Call (.Name "zip" p) [e, e2] [] pos) X.env)]) _ _ _
  refine spliced_cons ?_
  refine Call_ (ld_blt I hg hm PyProof.Rows.boot_zip (PyProof.Rows.callWith_type1 (thn (ha.run pos pins s σ H _ I h) fun us s1 ⟨vs, H1, I1, r1, q1⟩ => ?_) hs hpl))
  obtain ⟨a, b, xs, ys, ex, hqx, hqy, hle, q⟩ := q1
  subst ex
  cases r1 with
  | cons r rr =>
    cases rr with
    | cons r' rr =>
      cases rr
      cases r
      cases r'
      obtain ⟨its, rv, p1, _⟩ := I1.list hqx
      obtain ⟨its2, rv2, p2, _⟩ := I1.list hqy
      have la : a < s1.heap.objs.size := p1.lt
      have lb : b < s1.heap.objs.size := p2.lt
      refine call_zip_2 p1.isList p2.isList fun h' hz hTI hTO h1 h2 hsz hk => ?_
      have I2 : Inv X pins σ H1 { s1 with heap := h' } := I1.kept (t' := s1.toks) hk
      refine spliced_nil ?_
      refine zl_list (z := s1.heap.objs.size + 4) (TI := s1.heap.objs.size + 2) (TO := s1.heap.objs.size + 3) (i1 := s1.heap.objs.size) (i2 := s1.heap.objs.size + 1) hc (PySem.W.ktu_apart s1.heap.objs.size a b la lb) I2 ⟨.inl ⟨hz, _, _, hTO⟩, hTI, h1, h2, fun c hcm => ?_, fun c hcm => ?_⟩ hz hqx hqy hle q
      · have e' : c = s1.heap.objs.size + 4 ∨ c = s1.heap.objs.size + 2 ∨ c = s1.heap.objs.size + 3 ∨ c = s1.heap.objs.size ∨ c = s1.heap.objs.size + 1 := by simpa using hcm
        have hle : s1.heap.objs.size ≤ c := by
          rcases e' with z | z | z | z | z <;> rw [z] <;> first | exact Nat.le_add_right _ _ | exact Nat.le_refl _
        exact I1.fpOk hle (I1.hok.fresh hle)
      · have e' : c = s1.heap.objs.size + 4 ∨ c = s1.heap.objs.size + 2 ∨ c = s1.heap.objs.size + 3 ∨ c = s1.heap.objs.size ∨ c = s1.heap.objs.size + 1 := by simpa using hcm
        show c < h'.objs.size
        rw [hsz]
        rcases e' with z | z | z | z | z <;> rw [z] <;> exact Nat.lt_of_lt_of_le (Nat.lt_succ_self _) (by omega)
end Hk

set_option Elab.async false
set_option linter.all false
set_option maxRecDepth 100000
set_option maxHeartbeats 4000000
namespace Hk
open PySem PySem.Spec PyProof.Rows L2
def topS (i : Nat) : Stmt := PySem.Challenge.pw_hearken_k01_lines_and_patterns_refused.main.body.getD i (.Pass ⟨0, 0, 0, 0⟩)
abbrev s_is_word : Stmt := topS 19
abbrev N_is_word : List Str := ["part", "sign"]
abbrev p_is_word : List Str := ["part"]
theorem sc_is_word : FnScope N_is_word p_is_word (defScope s_is_word) := ⟨rfl, rfl, rfl, by decide +kernel, rfl, by decide +kernel, by decide +kernel⟩
def d_is_word : He.DefD := ⟨("is_word", none), "is_word", "is_word", defArgs s_is_word, defBody s_is_word, defScope s_is_word, [], []⟩
abbrev F_is_word (K : PySem.W.Frag) (f : Addr) (fd : FuncData) : Prop := FunD K "is_word" "is_word" (defArgs s_is_word) (defBody s_is_word) (defScope s_is_word) [] [] f fd
abbrev s_is_line : Stmt := topS 20
abbrev N_is_line : List Str := ["text", "words", "word"]
abbrev p_is_line : List Str := ["text"]
theorem sc_is_line : FnScope N_is_line p_is_line (defScope s_is_line) := ⟨rfl, rfl, rfl, by decide +kernel, rfl, by decide +kernel, by decide +kernel⟩
def d_is_line : He.DefD := ⟨("is_line", none), "is_line", "is_line", defArgs s_is_line, defBody s_is_line, defScope s_is_line, [], []⟩
abbrev F_is_line (K : PySem.W.Frag) (f : Addr) (fd : FuncData) : Prop := FunD K "is_line" "is_line" (defArgs s_is_line) (defBody s_is_line) (defScope s_is_line) [] [] f fd
abbrev s_is_pattern : Stmt := topS 21
abbrev N_is_pattern : List Str := ["text", "words", "word"]
abbrev p_is_pattern : List Str := ["text"]
theorem sc_is_pattern : FnScope N_is_pattern p_is_pattern (defScope s_is_pattern) := ⟨rfl, rfl, rfl, by decide +kernel, rfl, by decide +kernel, by decide +kernel⟩
def d_is_pattern : He.DefD := ⟨("is_pattern", none), "is_pattern", "is_pattern", defArgs s_is_pattern, defBody s_is_pattern, defScope s_is_pattern, [], []⟩
abbrev F_is_pattern (K : PySem.W.Frag) (f : Addr) (fd : FuncData) : Prop := FunD K "is_pattern" "is_pattern" (defArgs s_is_pattern) (defBody s_is_pattern) (defScope s_is_pattern) [] [] f fd
abbrev s_need_line : Stmt := topS 22
abbrev N_need_line : List Str := ["text"]
abbrev p_need_line : List Str := ["text"]
theorem sc_need_line : FnScope N_need_line p_need_line (defScope s_need_line) := ⟨rfl, rfl, rfl, by decide +kernel, rfl, by decide +kernel, by decide +kernel⟩
def d_need_line : He.DefD := ⟨("need_line", none), "need_line", "need_line", defArgs s_need_line, defBody s_need_line, defScope s_need_line, [], []⟩
abbrev F_need_line (K : PySem.W.Frag) (f : Addr) (fd : FuncData) : Prop := FunD K "need_line" "need_line" (defArgs s_need_line) (defBody s_need_line) (defScope s_need_line) [] [] f fd
abbrev s_need_pattern : Stmt := topS 23
abbrev N_need_pattern : List Str := ["text"]
abbrev p_need_pattern : List Str := ["text"]
theorem sc_need_pattern : FnScope N_need_pattern p_need_pattern (defScope s_need_pattern) := ⟨rfl, rfl, rfl, by decide +kernel, rfl, by decide +kernel, by decide +kernel⟩
def d_need_pattern : He.DefD := ⟨("need_pattern", none), "need_pattern", "need_pattern", defArgs s_need_pattern, defBody s_need_pattern, defScope s_need_pattern, [], []⟩
abbrev F_need_pattern (K : PySem.W.Frag) (f : Addr) (fd : FuncData) : Prop := FunD K "need_pattern" "need_pattern" (defArgs s_need_pattern) (defBody s_need_pattern) (defScope s_need_pattern) [] [] f fd
abbrev s_of_length : Stmt := topS 24
abbrev N_of_length : List Str := ["pattern", "many", "words"]
abbrev p_of_length : List Str := ["pattern", "many"]
theorem sc_of_length : FnScope N_of_length p_of_length (defScope s_of_length) := ⟨rfl, rfl, rfl, by decide +kernel, rfl, by decide +kernel, by decide +kernel⟩
def d_of_length : He.DefD := ⟨("of_length", none), "of_length", "of_length", defArgs s_of_length, defBody s_of_length, defScope s_of_length, [], []⟩
abbrev F_of_length (K : PySem.W.Frag) (f : Addr) (fd : FuncData) : Prop := FunD K "of_length" "of_length" (defArgs s_of_length) (defBody s_of_length) (defScope s_of_length) [] [] f fd
abbrev s_does_fit : Stmt := topS 25
abbrev N_does_fit : List Str := ["pattern", "line", "parts", "words", "word", "part"]
abbrev p_does_fit : List Str := ["pattern", "line"]
theorem sc_does_fit : FnScope N_does_fit p_does_fit (defScope s_does_fit) := ⟨rfl, rfl, rfl, by decide +kernel, rfl, by decide +kernel, by decide +kernel⟩
def d_does_fit : He.DefD := ⟨("does_fit", none), "does_fit", "does_fit", defArgs s_does_fit, defBody s_does_fit, defScope s_does_fit, [], []⟩
abbrev F_does_fit (K : PySem.W.Frag) (f : Addr) (fd : FuncData) : Prop := FunD K "does_fit" "does_fit" (defArgs s_does_fit) (defBody s_does_fit) (defScope s_does_fit) [] [] f fd
abbrev s_fits : Stmt := topS 26
abbrev N_fits : List Str := ["pattern", "line"]
abbrev p_fits : List Str := ["pattern", "line"]
theorem sc_fits : FnScope N_fits p_fits (defScope s_fits) := ⟨rfl, rfl, rfl, by decide +kernel, rfl, by decide +kernel, by decide +kernel⟩
def d_fits : He.DefD := ⟨("fits", none), "fits", "fits", defArgs s_fits, defBody s_fits, defScope s_fits, [], []⟩
abbrev F_fits (K : PySem.W.Frag) (f : Addr) (fd : FuncData) : Prop := FunD K "fits" "fits" (defArgs s_fits) (defBody s_fits) (defScope s_fits) [] [] f fd
abbrev s_law_mix : Stmt := topS 31
abbrev N_law_mix : List Str := ["_law_script", "_law_seed", "_law_mixed", "_law_cell"]
abbrev p_law_mix : List Str := ["_law_script", "_law_seed"]
theorem sc_law_mix : FnScope N_law_mix p_law_mix (defScope s_law_mix) := ⟨rfl, rfl, rfl, by decide +kernel, rfl, by decide +kernel, by decide +kernel⟩
def d_law_mix : He.DefD := ⟨("_law_mix", none), "_law_mix", "_law_mix", defArgs s_law_mix, defBody s_law_mix, defScope s_law_mix, [], []⟩
abbrev F_law_mix (K : PySem.W.Frag) (f : Addr) (fd : FuncData) : Prop := FunD K "_law_mix" "_law_mix" (defArgs s_law_mix) (defBody s_law_mix) (defScope s_law_mix) [] [] f fd
abbrev s_law_next : Stmt := topS 32
abbrev N_law_next : List Str := ["_law_h", "_law_many", "_law_cell"]
abbrev p_law_next : List Str := ["_law_h", "_law_many"]
theorem sc_law_next : FnScope N_law_next p_law_next (defScope s_law_next) := ⟨rfl, rfl, rfl, by decide +kernel, rfl, by decide +kernel, by decide +kernel⟩
def d_law_next : He.DefD := ⟨("_law_next", none), "_law_next", "_law_next", defArgs s_law_next, defBody s_law_next, defScope s_law_next, [], []⟩
abbrev F_law_next (K : PySem.W.Frag) (f : Addr) (fd : FuncData) : Prop := FunD K "_law_next" "_law_next" (defArgs s_law_next) (defBody s_law_next) (defScope s_law_next) [] [] f fd
abbrev s_narrower : Stmt := topS 27
abbrev N_narrower : List Str := ["one", "other", "many", "mine", "theirs", "part", "word"]
abbrev p_narrower : List Str := ["one", "other"]
theorem sc_narrower : FnScope N_narrower p_narrower (defScope s_narrower) := ⟨rfl, rfl, rfl, by decide +kernel, rfl, by decide +kernel, by decide +kernel⟩
def d_narrower : He.DefD := ⟨("narrower", none), "narrower", "narrower", defArgs s_narrower, defBody s_narrower, defScope s_narrower, [], []⟩
abbrev F_narrower (K : PySem.W.Frag) (f : Addr) (fd : FuncData) : Prop := FunD K "narrower" "narrower" (defArgs s_narrower) (defBody s_narrower) (defScope s_narrower) [] [] f fd
abbrev s_met : Stmt := topS 29
abbrev N_met : List Str := ["part", "word"]
abbrev p_met : List Str := ["part", "word"]
theorem sc_met : FnScope N_met p_met (defScope s_met) := ⟨rfl, rfl, rfl, by decide +kernel, rfl, by decide +kernel, by decide +kernel⟩
def d_met : He.DefD := ⟨("met", none), "met", "met", defArgs s_met, defBody s_met, defScope s_met, [], []⟩
abbrev F_met (K : PySem.W.Frag) (f : Addr) (fd : FuncData) : Prop := FunD K "met" "met" (defArgs s_met) (defBody s_met) (defScope s_met) [] [] f fd
abbrev s_meets : Stmt := topS 28
abbrev N_meets : List Str := ["one", "other", "many", "mine", "theirs", "pairs", "pair", "part", "word"]
abbrev p_meets : List Str := ["one", "other"]
theorem sc_meets : FnScope N_meets p_meets (defScope s_meets) := ⟨rfl, rfl, rfl, by decide +kernel, rfl, by decide +kernel, by decide +kernel⟩
def d_meets : He.DefD := ⟨("meets", none), "meets", "meets", defArgs s_meets, defBody s_meets, defScope s_meets, [], []⟩
abbrev F_meets (K : PySem.W.Frag) (f : Addr) (fd : FuncData) : Prop := FunD K "meets" "meets" (defArgs s_meets) (defBody s_meets) (defScope s_meets) [] [] f fd
abbrev s_law_kind : Stmt := topS 33
abbrev N_law_kind : List Str := ["_law_call", "e", "_law_kinds", "_law_words"]
abbrev p_law_kind : List Str := ["_law_call"]
theorem sc_law_kind : FnScope N_law_kind p_law_kind (defScope s_law_kind) := ⟨rfl, rfl, rfl, by decide +kernel, rfl, by decide +kernel, by decide +kernel⟩
def d_law_kind : He.DefD := ⟨("_law_kind", none), "_law_kind", "_law_kind", defArgs s_law_kind, defBody s_law_kind, defScope s_law_kind, [], []⟩
abbrev F_law_kind (K : PySem.W.Frag) (f : Addr) (fd : FuncData) : Prop := FunD K "_law_kind" "_law_kind" (defArgs s_law_kind) (defBody s_law_kind) (defScope s_law_kind) [] [] f fd
abbrev s_law_is_line : Stmt := topS 34
abbrev N_law_is_line : List Str := ["_law_text_here", "_law_with_stars", "_law_words", "_law_good", "_law_word", "_law_sign"]
abbrev p_law_is_line : List Str := ["_law_text_here", "_law_with_stars"]
theorem sc_law_is_line : FnScope N_law_is_line p_law_is_line (defScope s_law_is_line) := ⟨rfl, rfl, rfl, by decide +kernel, rfl, by decide +kernel, by decide +kernel⟩
def d_law_is_line : He.DefD := ⟨("_law_is_line", none), "_law_is_line", "_law_is_line", defArgs s_law_is_line, defBody s_law_is_line, defScope s_law_is_line, [], []⟩
abbrev F_law_is_line (K : PySem.W.Frag) (f : Addr) (fd : FuncData) : Prop := FunD K "_law_is_line" "_law_is_line" (defArgs s_law_is_line) (defBody s_law_is_line) (defScope s_law_is_line) [] [] f fd
abbrev s_law_text : Stmt := topS 35
abbrev N_law_text : List Str := ["_law_h", "_law_words", "_law_k", "_law_word", "_law_j"]
abbrev p_law_text : List Str := ["_law_h"]
theorem sc_law_text : FnScope N_law_text p_law_text (defScope s_law_text) := ⟨rfl, rfl, rfl, by decide +kernel, rfl, by decide +kernel, by decide +kernel⟩
def d_law_text : He.DefD := ⟨("_law_text", none), "_law_text", "_law_text", defArgs s_law_text, defBody s_law_text, defScope s_law_text, [], []⟩
abbrev F_law_text (K : PySem.W.Frag) (f : Addr) (fd : FuncData) : Prop := FunD K "_law_text" "_law_text" (defArgs s_law_text) (defBody s_law_text) (defScope s_law_text) [] [] f fd
abbrev s_law : Stmt := topS 36
abbrev N_law : List Str := ["_law_script", "_law_h", "_law_turn", "_law_one", "_law_two", "_law_good", "_law_line", "_law_due"]
abbrev p_law : List Str := ["_law_script"]
theorem sc_law : FnScope N_law p_law (defScope s_law) := ⟨rfl, rfl, rfl, by decide +kernel, rfl, by decide +kernel, by decide +kernel⟩
def d_law : He.DefD := ⟨("law", none), "law", "law", defArgs s_law, defBody s_law, defScope s_law, [], []⟩
abbrev F_law (K : PySem.W.Frag) (f : Addr) (fd : FuncData) : Prop := FunD K "law" "law" (defArgs s_law) (defBody s_law) (defScope s_law) [] [] f fd
def fa : List He.Fa := [.free "len", .int "MOST_LETTERS" 4, .free "all", .str "LETTERS" "abcdefghijklmnopqrstuvwxyz", .int "MOST_WORDS" 6, .str "REST" "#", .str "ANY" "*", .glo "BadLine", .exc "BadLine", .glo "BadPattern", .exc "BadPattern", .free "zip", .free "list", .free "max", .free "range", .glo "HearError", .free "isinstance", .glo "BadWord", .glo "BadCount", .glo "NoListener", .glo "Busy", .glo "TooDeep", .glo "NotHeld", .glo "NoWork", .glo "BadText", .glo "Halt", .free "ValueError", .free "int", .glo "is_word", .glo "is_line", .glo "is_pattern", .glo "need_line", .glo "need_pattern", .glo "of_length", .glo "does_fit", .glo "fits", .glo "_law_mix", .glo "_law_next", .glo "narrower", .glo "met", .glo "meets", .glo "_law_kind", .glo "_law_is_line", .glo "_law_text", .glo "law"]
def fn : List He.DefD := [d_is_word, d_is_line, d_is_pattern, d_need_line, d_need_pattern, d_of_length, d_does_fit, d_fits, d_law_mix, d_law_next, d_narrower, d_met, d_meets, d_law_kind, d_law_is_line, d_law_text, d_law]
def exB (K : PySem.W.Frag) : Bool := refB K "BadPattern" && refB K "BadLine" && true
def Tx (K : PySem.W.Frag) (mg : Str → Option Value) : Prop := ∃ h : Heap, K.In h ∧ h.Ns mainGlobals mg ∧ He.SaysD fa fn K ∧ exB K = true
section
variable {K : PySem.W.Frag} {mg : Str → Option Value}
theorem Tx.b_len (T : Tx K mg) : mg "len" = none := by obtain ⟨h, X, G, c, _⟩ := T; exact He.free_ok X G (c.fact 0 (f := .free "len") rfl)
theorem Tx.c_MOST_LETTERS (T : Tx K mg) : ∃ t, mg "MOST_LETTERS" = some (.int 4 t) := by obtain ⟨h, X, G, c, _⟩ := T; exact He.int_ok X G (c.fact 1 (f := .int "MOST_LETTERS" 4) rfl)
theorem Tx.b_all (T : Tx K mg) : mg "all" = none := by obtain ⟨h, X, G, c, _⟩ := T; exact He.free_ok X G (c.fact 2 (f := .free "all") rfl)
theorem Tx.c_LETTERS (T : Tx K mg) : ∃ t, mg "LETTERS" = some (.str "abcdefghijklmnopqrstuvwxyz" t) := by obtain ⟨h, X, G, c, _⟩ := T; exact He.str_ok X G (c.fact 3 (f := .str "LETTERS" "abcdefghijklmnopqrstuvwxyz") rfl)
theorem Tx.c_MOST_WORDS (T : Tx K mg) : ∃ t, mg "MOST_WORDS" = some (.int 6 t) := by obtain ⟨h, X, G, c, _⟩ := T; exact He.int_ok X G (c.fact 4 (f := .int "MOST_WORDS" 6) rfl)
theorem Tx.c_REST (T : Tx K mg) : ∃ t, mg "REST" = some (.str "#" t) := by obtain ⟨h, X, G, c, _⟩ := T; exact He.str_ok X G (c.fact 5 (f := .str "REST" "#") rfl)
theorem Tx.c_ANY (T : Tx K mg) : ∃ t, mg "ANY" = some (.str "*" t) := by obtain ⟨h, X, G, c, _⟩ := T; exact He.str_ok X G (c.fact 6 (f := .str "ANY" "*") rfl)
theorem Tx.g_BadLine (T : Tx K mg) : mg "BadLine" = some (.ref (He.ga K "BadLine")) := by obtain ⟨h, X, G, c, _⟩ := T; exact He.glo_ok X G (c.fact 7 (f := .glo "BadLine") rfl)
theorem Tx.x_BadLine (T : Tx K mg) : PySem.W.excIn K (He.ga K "BadLine") He.veBase "ValueError.__new__" = true ∧ PySem.W.keepIn K (.ref (He.ga K "BadLine")) = true ∧ PySem.W.subIn K (.ref (He.ga K "BadLine")) (.type "BaseException") = some true ∧ PySem.W.typeIn K (.ref (He.ga K "BadLine")) = some (.type "type") := by obtain ⟨h, X, G, c, _⟩ := T; exact He.exc_ok (c.fact 8 (f := .exc "BadLine") rfl)
theorem Tx.g_BadPattern (T : Tx K mg) : mg "BadPattern" = some (.ref (He.ga K "BadPattern")) := by obtain ⟨h, X, G, c, _⟩ := T; exact He.glo_ok X G (c.fact 9 (f := .glo "BadPattern") rfl)
theorem Tx.x_BadPattern (T : Tx K mg) : PySem.W.excIn K (He.ga K "BadPattern") He.veBase "ValueError.__new__" = true ∧ PySem.W.keepIn K (.ref (He.ga K "BadPattern")) = true ∧ PySem.W.subIn K (.ref (He.ga K "BadPattern")) (.type "BaseException") = some true ∧ PySem.W.typeIn K (.ref (He.ga K "BadPattern")) = some (.type "type") := by obtain ⟨h, X, G, c, _⟩ := T; exact He.exc_ok (c.fact 10 (f := .exc "BadPattern") rfl)
theorem Tx.b_zip (T : Tx K mg) : mg "zip" = none := by obtain ⟨h, X, G, c, _⟩ := T; exact He.free_ok X G (c.fact 11 (f := .free "zip") rfl)
theorem Tx.b_list (T : Tx K mg) : mg "list" = none := by obtain ⟨h, X, G, c, _⟩ := T; exact He.free_ok X G (c.fact 12 (f := .free "list") rfl)
theorem Tx.b_max (T : Tx K mg) : mg "max" = none := by obtain ⟨h, X, G, c, _⟩ := T; exact He.free_ok X G (c.fact 13 (f := .free "max") rfl)
theorem Tx.b_range (T : Tx K mg) : mg "range" = none := by obtain ⟨h, X, G, c, _⟩ := T; exact He.free_ok X G (c.fact 14 (f := .free "range") rfl)
theorem Tx.g_HearError (T : Tx K mg) : mg "HearError" = some (.ref (He.ga K "HearError")) := by obtain ⟨h, X, G, c, _⟩ := T; exact He.glo_ok X G (c.fact 15 (f := .glo "HearError") rfl)
theorem Tx.b_isinstance (T : Tx K mg) : mg "isinstance" = none := by obtain ⟨h, X, G, c, _⟩ := T; exact He.free_ok X G (c.fact 16 (f := .free "isinstance") rfl)
theorem Tx.g_BadWord (T : Tx K mg) : mg "BadWord" = some (.ref (He.ga K "BadWord")) := by obtain ⟨h, X, G, c, _⟩ := T; exact He.glo_ok X G (c.fact 17 (f := .glo "BadWord") rfl)
theorem Tx.g_BadCount (T : Tx K mg) : mg "BadCount" = some (.ref (He.ga K "BadCount")) := by obtain ⟨h, X, G, c, _⟩ := T; exact He.glo_ok X G (c.fact 18 (f := .glo "BadCount") rfl)
theorem Tx.g_NoListener (T : Tx K mg) : mg "NoListener" = some (.ref (He.ga K "NoListener")) := by obtain ⟨h, X, G, c, _⟩ := T; exact He.glo_ok X G (c.fact 19 (f := .glo "NoListener") rfl)
theorem Tx.g_Busy (T : Tx K mg) : mg "Busy" = some (.ref (He.ga K "Busy")) := by obtain ⟨h, X, G, c, _⟩ := T; exact He.glo_ok X G (c.fact 20 (f := .glo "Busy") rfl)
theorem Tx.g_TooDeep (T : Tx K mg) : mg "TooDeep" = some (.ref (He.ga K "TooDeep")) := by obtain ⟨h, X, G, c, _⟩ := T; exact He.glo_ok X G (c.fact 21 (f := .glo "TooDeep") rfl)
theorem Tx.g_NotHeld (T : Tx K mg) : mg "NotHeld" = some (.ref (He.ga K "NotHeld")) := by obtain ⟨h, X, G, c, _⟩ := T; exact He.glo_ok X G (c.fact 22 (f := .glo "NotHeld") rfl)
theorem Tx.g_NoWork (T : Tx K mg) : mg "NoWork" = some (.ref (He.ga K "NoWork")) := by obtain ⟨h, X, G, c, _⟩ := T; exact He.glo_ok X G (c.fact 23 (f := .glo "NoWork") rfl)
theorem Tx.g_BadText (T : Tx K mg) : mg "BadText" = some (.ref (He.ga K "BadText")) := by obtain ⟨h, X, G, c, _⟩ := T; exact He.glo_ok X G (c.fact 24 (f := .glo "BadText") rfl)
theorem Tx.g_Halt (T : Tx K mg) : mg "Halt" = some (.ref (He.ga K "Halt")) := by obtain ⟨h, X, G, c, _⟩ := T; exact He.glo_ok X G (c.fact 25 (f := .glo "Halt") rfl)
theorem Tx.b_ValueError (T : Tx K mg) : mg "ValueError" = none := by obtain ⟨h, X, G, c, _⟩ := T; exact He.free_ok X G (c.fact 26 (f := .free "ValueError") rfl)
theorem Tx.b_int (T : Tx K mg) : mg "int" = none := by obtain ⟨h, X, G, c, _⟩ := T; exact He.free_ok X G (c.fact 27 (f := .free "int") rfl)
theorem Tx.g_is_word (T : Tx K mg) : mg "is_word" = some (.ref (He.ga K "is_word")) := by obtain ⟨h, X, G, c, _⟩ := T; exact He.glo_ok X G (c.fact 28 (f := .glo "is_word") rfl)
theorem Tx.g_is_line (T : Tx K mg) : mg "is_line" = some (.ref (He.ga K "is_line")) := by obtain ⟨h, X, G, c, _⟩ := T; exact He.glo_ok X G (c.fact 29 (f := .glo "is_line") rfl)
theorem Tx.g_is_pattern (T : Tx K mg) : mg "is_pattern" = some (.ref (He.ga K "is_pattern")) := by obtain ⟨h, X, G, c, _⟩ := T; exact He.glo_ok X G (c.fact 30 (f := .glo "is_pattern") rfl)
theorem Tx.g_need_line (T : Tx K mg) : mg "need_line" = some (.ref (He.ga K "need_line")) := by obtain ⟨h, X, G, c, _⟩ := T; exact He.glo_ok X G (c.fact 31 (f := .glo "need_line") rfl)
theorem Tx.g_need_pattern (T : Tx K mg) : mg "need_pattern" = some (.ref (He.ga K "need_pattern")) := by obtain ⟨h, X, G, c, _⟩ := T; exact He.glo_ok X G (c.fact 32 (f := .glo "need_pattern") rfl)
theorem Tx.g_of_length (T : Tx K mg) : mg "of_length" = some (.ref (He.ga K "of_length")) := by obtain ⟨h, X, G, c, _⟩ := T; exact He.glo_ok X G (c.fact 33 (f := .glo "of_length") rfl)
theorem Tx.g_does_fit (T : Tx K mg) : mg "does_fit" = some (.ref (He.ga K "does_fit")) := by obtain ⟨h, X, G, c, _⟩ := T; exact He.glo_ok X G (c.fact 34 (f := .glo "does_fit") rfl)
theorem Tx.g_fits (T : Tx K mg) : mg "fits" = some (.ref (He.ga K "fits")) := by obtain ⟨h, X, G, c, _⟩ := T; exact He.glo_ok X G (c.fact 35 (f := .glo "fits") rfl)
theorem Tx.g__law_mix (T : Tx K mg) : mg "_law_mix" = some (.ref (He.ga K "_law_mix")) := by obtain ⟨h, X, G, c, _⟩ := T; exact He.glo_ok X G (c.fact 36 (f := .glo "_law_mix") rfl)
theorem Tx.g__law_next (T : Tx K mg) : mg "_law_next" = some (.ref (He.ga K "_law_next")) := by obtain ⟨h, X, G, c, _⟩ := T; exact He.glo_ok X G (c.fact 37 (f := .glo "_law_next") rfl)
theorem Tx.g_narrower (T : Tx K mg) : mg "narrower" = some (.ref (He.ga K "narrower")) := by obtain ⟨h, X, G, c, _⟩ := T; exact He.glo_ok X G (c.fact 38 (f := .glo "narrower") rfl)
theorem Tx.g_met (T : Tx K mg) : mg "met" = some (.ref (He.ga K "met")) := by obtain ⟨h, X, G, c, _⟩ := T; exact He.glo_ok X G (c.fact 39 (f := .glo "met") rfl)
theorem Tx.g_meets (T : Tx K mg) : mg "meets" = some (.ref (He.ga K "meets")) := by obtain ⟨h, X, G, c, _⟩ := T; exact He.glo_ok X G (c.fact 40 (f := .glo "meets") rfl)
theorem Tx.g__law_kind (T : Tx K mg) : mg "_law_kind" = some (.ref (He.ga K "_law_kind")) := by obtain ⟨h, X, G, c, _⟩ := T; exact He.glo_ok X G (c.fact 41 (f := .glo "_law_kind") rfl)
theorem Tx.g__law_is_line (T : Tx K mg) : mg "_law_is_line" = some (.ref (He.ga K "_law_is_line")) := by obtain ⟨h, X, G, c, _⟩ := T; exact He.glo_ok X G (c.fact 42 (f := .glo "_law_is_line") rfl)
theorem Tx.g__law_text (T : Tx K mg) : mg "_law_text" = some (.ref (He.ga K "_law_text")) := by obtain ⟨h, X, G, c, _⟩ := T; exact He.glo_ok X G (c.fact 43 (f := .glo "_law_text") rfl)
theorem Tx.g_law (T : Tx K mg) : mg "law" = some (.ref (He.ga K "law")) := by obtain ⟨h, X, G, c, _⟩ := T; exact He.glo_ok X G (c.fact 44 (f := .glo "law") rfl)
theorem Tx.f_is_word (T : Tx K mg) : ∃ fd, F_is_word K (He.fAd K d_is_word.at_) fd := by obtain ⟨h, X, G, c, _⟩ := T; exact c.def_ 0 (d := d_is_word) rfl
theorem Tx.f_is_line (T : Tx K mg) : ∃ fd, F_is_line K (He.fAd K d_is_line.at_) fd := by obtain ⟨h, X, G, c, _⟩ := T; exact c.def_ 1 (d := d_is_line) rfl
theorem Tx.f_is_pattern (T : Tx K mg) : ∃ fd, F_is_pattern K (He.fAd K d_is_pattern.at_) fd := by obtain ⟨h, X, G, c, _⟩ := T; exact c.def_ 2 (d := d_is_pattern) rfl
theorem Tx.f_need_line (T : Tx K mg) : ∃ fd, F_need_line K (He.fAd K d_need_line.at_) fd := by obtain ⟨h, X, G, c, _⟩ := T; exact c.def_ 3 (d := d_need_line) rfl
theorem Tx.f_need_pattern (T : Tx K mg) : ∃ fd, F_need_pattern K (He.fAd K d_need_pattern.at_) fd := by obtain ⟨h, X, G, c, _⟩ := T; exact c.def_ 4 (d := d_need_pattern) rfl
theorem Tx.f_of_length (T : Tx K mg) : ∃ fd, F_of_length K (He.fAd K d_of_length.at_) fd := by obtain ⟨h, X, G, c, _⟩ := T; exact c.def_ 5 (d := d_of_length) rfl
theorem Tx.f_does_fit (T : Tx K mg) : ∃ fd, F_does_fit K (He.fAd K d_does_fit.at_) fd := by obtain ⟨h, X, G, c, _⟩ := T; exact c.def_ 6 (d := d_does_fit) rfl
theorem Tx.f_fits (T : Tx K mg) : ∃ fd, F_fits K (He.fAd K d_fits.at_) fd := by obtain ⟨h, X, G, c, _⟩ := T; exact c.def_ 7 (d := d_fits) rfl
theorem Tx.f_law_mix (T : Tx K mg) : ∃ fd, F_law_mix K (He.fAd K d_law_mix.at_) fd := by obtain ⟨h, X, G, c, _⟩ := T; exact c.def_ 8 (d := d_law_mix) rfl
theorem Tx.f_law_next (T : Tx K mg) : ∃ fd, F_law_next K (He.fAd K d_law_next.at_) fd := by obtain ⟨h, X, G, c, _⟩ := T; exact c.def_ 9 (d := d_law_next) rfl
theorem Tx.f_narrower (T : Tx K mg) : ∃ fd, F_narrower K (He.fAd K d_narrower.at_) fd := by obtain ⟨h, X, G, c, _⟩ := T; exact c.def_ 10 (d := d_narrower) rfl
theorem Tx.f_met (T : Tx K mg) : ∃ fd, F_met K (He.fAd K d_met.at_) fd := by obtain ⟨h, X, G, c, _⟩ := T; exact c.def_ 11 (d := d_met) rfl
theorem Tx.f_meets (T : Tx K mg) : ∃ fd, F_meets K (He.fAd K d_meets.at_) fd := by obtain ⟨h, X, G, c, _⟩ := T; exact c.def_ 12 (d := d_meets) rfl
theorem Tx.f_law_kind (T : Tx K mg) : ∃ fd, F_law_kind K (He.fAd K d_law_kind.at_) fd := by obtain ⟨h, X, G, c, _⟩ := T; exact c.def_ 13 (d := d_law_kind) rfl
theorem Tx.f_law_is_line (T : Tx K mg) : ∃ fd, F_law_is_line K (He.fAd K d_law_is_line.at_) fd := by obtain ⟨h, X, G, c, _⟩ := T; exact c.def_ 14 (d := d_law_is_line) rfl
theorem Tx.f_law_text (T : Tx K mg) : ∃ fd, F_law_text K (He.fAd K d_law_text.at_) fd := by obtain ⟨h, X, G, c, _⟩ := T; exact c.def_ 15 (d := d_law_text) rfl
theorem Tx.f_law (T : Tx K mg) : ∃ fd, F_law K (He.fAd K d_law.at_) fd := by obtain ⟨h, X, G, c, _⟩ := T; exact c.def_ 16 (d := d_law) rfl
end
def tf : List (Str × Option Str) := [("law", none)]
def nmT : List ((Nat × Nat) × Str) := [((140, 21), "law.<locals>.<lambda>"), ((143, 22), "law.<locals>.<lambda>"), ((143, 71), "law.<locals>.<lambda>")]
def nm (l c : Nat) : Str := (nmT.lookup (l, c)).getD Str.empty
def Ts (K : PySem.W.Frag) : List Addr := tf.map fun p => (He.cT K p).2
def Tb (K : PySem.W.Frag) (mg : Str → Option Value) (base : Heap) : Prop := ∀ p ∈ tf, LamX.TabB base mg (He.cT K p).1 (He.cT K p).2
theorem Tb.t_law {K : PySem.W.Frag} {mg : Str → Option Value} {base : Heap} (B : Tb K mg base) : LamX.TabB base mg (He.codeOf K ("law", none)) (He.cT K ("law", none)).2 := B ("law", none) (by decide +kernel)
theorem m_law (K : PySem.W.Frag) : (He.cT K ("law", none)).2 ∈ Ts K := List.mem_map_of_mem (f := fun p => (He.cT K p).2) (show (("law", none) : Str × Option Str) ∈ tf by decide +kernel)
end Hk

set_option Elab.async false
set_option linter.all false
set_option maxRecDepth 100000
set_option maxHeartbeats 4000000
namespace Hk
open PySem PySem.Spec PyProof.Rows L2
open LamX NdefX
open TL
section
variable {P : Program} {w : World} {K : PySem.W.Frag} {mg : Str → Option Value} {base : Heap}
theorem last_map {ws : List Str} {s : Str} : ((ws.map V.str).getLast? = some (V.str s)) ↔ ws.getLast? = some s := by
  rw [List.getLast?_map]
  cases ws.getLast? with
  | none => simp
  | some x => simp
theorem last_str {ws : List Str} (h : ws ≠ []) : ∃ x, (ws.map V.str).getLast? = some (V.str x) ∧ ws.getLast? = some x := by
  refine ⟨ws.getLast h, ?_, List.getLast?_eq_getLast h⟩
  rw [List.getLast?_map, List.getLast?_eq_getLast h]; rfl
/-! ### is_word -/
def sp_is_word : Sp := fun vs H Q _ => ∃ z : Str, vs = [.str z] ∧ z.length ≤ 10000 ∧ ∀ H', Same H H' → Q (.bl (isWord z)) H'
theorem G_is_word (T : Tx K mg) : Glob P w K mg base (CX0) 1 "is_word" p_is_word [] sp_is_word := by
  obtain ⟨fd, F⟩ := T.f_is_word
  refine ⟨_, fd, [], F.ok sc_is_word (fun vs H Q E h => ?_) (fun cdv A outer s H vs Q E hr h => ?_), T.g_is_word, F.kp, .nil, F.bindsN fun _ _ _ _ _ _ us hl => match us, hl with | [_], _ => rfl⟩
  · obtain ⟨z, rfl, _⟩ := h; rfl
  · obtain ⟨z, rfl, hz, q⟩ := h
    refine ⟨_, PSs.nox (pss_one (ps_ret (pe_and (pe_chain op_le op_le pe_int (pe_callB call_len_str (by rfl) T.b_len (by decide +kernel) (pa_cons (pv 0) pa_nil)) (pe_gi T.c_MOST_LETTERS (by rfl))) (pe_one (pe_callB (cr_allK (K := K) rfl rfl) (by rfl) T.b_all (by decide +kernel) (pa_cons (pe_lc (own := [("sign", 1)]) (g := (gName 1)) (tt := tYes) rfl sc_is_word.nd (pi_str (pv 0)) (blkOk_by (by kernel_rfl)) (fun _ _ _ _ _ => (pg_name (i := 1) sc_is_word.nd rfl (Or.inl rfl))) (fun _ _ _ _ _ => pts_nil) (fun _ _ _ _ _ => (pe_cmpR op_in_sign (pv 1) (pe_gs T.c_LETTERS (by rfl)) (by rfl)))) pa_nil)))))), ?_⟩
    simp only [tCutE, false_and, exists_false, false_or, or_false, tRet, tRetN, tAndV, tOrV, tNotV, tChain, rI, rI0, rU, tC, tCB, tCons, tNil, tVar, tOp, tUn, tTest, tB, tAnd, tOr, tNot, tIf, tIfS, tSeq, tAsg, tDrop, tNext, gName, gTup_ref, gCons_cons, gNil_nil, and_assoc, tYes, wipe, rEq, rNe, scal_ss, scal_ii, scal_bb, scal_ns, scal_sn, scal_nn, scal_in, scal_ni, tLc_eq, tFor_eq, iList, iTup, iStr, iRng1, iRng2, iZip, iEnum, gSub, tSl, rSetL_ref, rCat_ref, rRep_ref, rJoin_ref, rSlL_ref, rSlS_ref, rMulS_ref, rIxL_ref, rIxT_ref, rLenK_ref, rAll_ref, rIn_ref, tLst, tTup, tPar, tPar3, tAug, tPart, tNoPart, tCall, List.getElem?_cons_zero, List.getElem?_cons_succ, List.set_cons_zero, List.set_cons_succ, List.map_cons, List.map_nil, List.append_nil, List.nil_append, List.cons_append, Option.some.injEq, exists_eq_left', exists_eq_left, exists_eq_right, exists_eq_right', exists_eq', V.int.injEq, V.str.injEq, V.bl.injEq, V.ref.injEq, List.cons.injEq, tM0, tM1, rNewStrs, sgn_eq, split_dot, split_sp, split_nl, dot_len, sp_len, nl_len, cxOf_K, L2.start, List.length_cons, List.length_nil, List.replicate_succ, List.replicate_zero, Nat.reduceSub, Nat.zero_add, and_true, true_and, and_self, exists_and_left, exists_const, Bool.false_eq_true, if_false, if_true, ite_true, ite_false, reduceIte, decide_eq_true_eq, reduceCtorEq, Nat.reduceAdd, Nat.reduceLT, tListZip, tCallX, tCallV, tCallVS, tLam1, tLamD, tCls, cx_cells, cx_scope, cx_N, cx_prog, cx_w, cx_base, cx_qual]
    refine ⟨small (by omega), ?_⟩
    have hz' : (tl z).length ≤ 10000 := by rw [← len_tl]; exact hz
    split
    · rename_i h1
      split
      · rename_i h2
        refine lc_map (tl z) (fun c => V.bl (decide (c ∈ tl letters))) walk_str (by omega) (fun _ _ => trivial) (fun i a x H1 H' R hx s1 hy r => ?_) (fun D H1 nD s1 hD => ?_)
        · obtain ⟨rfl, c, hc, rfl⟩ := hy
          have e : c = a := by
            rw [Array.getElem?_toList] at hx
            exact Option.some.inj (hc.symm.trans hx)
          subst e
          simp only [tCutE, false_and, exists_false, false_or, or_false, tRet, tRetN, tAndV, tOrV, tNotV, tChain, rI, rI0, rU, tC, tCB, tCons, tNil, tVar, tOp, tUn, tTest, tB, tAnd, tOr, tNot, tIf, tIfS, tSeq, tAsg, tDrop, tNext, gName, gTup_ref, gCons_cons, gNil_nil, and_assoc, tYes, wipe, rEq, rNe, scal_ss, scal_ii, scal_bb, scal_ns, scal_sn, scal_nn, scal_in, scal_ni, tLc_eq, tFor_eq, iList, iTup, iStr, iRng1, iRng2, iZip, iEnum, gSub, tSl, rSetL_ref, rCat_ref, rRep_ref, rJoin_ref, rSlL_ref, rSlS_ref, rMulS_ref, rIxL_ref, rIxT_ref, rLenK_ref, rAll_ref, rIn_ref, tLst, tTup, tPar, tPar3, tAug, tPart, tNoPart, tCall, List.getElem?_cons_zero, List.getElem?_cons_succ, List.set_cons_zero, List.set_cons_succ, List.map_cons, List.map_nil, List.append_nil, List.nil_append, List.cons_append, Option.some.injEq, exists_eq_left', exists_eq_left, exists_eq_right, exists_eq_right', exists_eq', V.int.injEq, V.str.injEq, V.bl.injEq, V.ref.injEq, List.cons.injEq, tM0, tM1, rNewStrs, sgn_eq, split_dot, split_sp, split_nl, dot_len, sp_len, nl_len, cxOf_K, L2.start, List.length_cons, List.length_nil, List.replicate_succ, List.replicate_zero, Nat.reduceSub, Nat.zero_add, and_true, true_and, and_self, exists_and_left, exists_const, Bool.false_eq_true, if_false, if_true, ite_true, ite_false, reduceIte, decide_eq_true_eq, reduceCtorEq, Nat.reduceAdd, Nat.reduceLT, tListZip, tCallX, tCallV, tCallVS, tLam1, tLamD, tCls, cx_cells, cx_scope, cx_N, cx_prog, cx_w, cx_base, cx_qual]
          exact r _ (Same.refl _)
        · refine ⟨D, (tl z).map fun c => decide (c ∈ tl letters), rfl, .of (by rw [hD, List.map_map]; rfl), ?_⟩
          have e : isWord z = List.all ((tl z).map fun c => decide (c ∈ tl letters)) id := by
            unfold isWord
            rw [decide_eq_true (by omega : 1 ≤ z.length), decide_eq_true (by omega : z.length ≤ 4), List.all_map]
            rfl
          rw [← e]
          exact q _ s1
      · have e : isWord z = false := by
          unfold isWord
          rw [decide_eq_false (by omega : ¬ z.length ≤ 4)]; simp
        rw [← e]; exact q _ (Same.refl _)
    · have e : isWord z = false := by
        unfold isWord
        rw [decide_eq_false (by omega : ¬ 1 ≤ z.length)]; simp
      rw [← e]; exact q _ (Same.refl _)
/-! ### is_line -/
def sp_is_line : Sp := fun vs H Q _ => ∃ z : Str, vs = [.str z] ∧ z.length ≤ 10000 ∧ ∀ H', Same H H' → Q (.bl (isLine z)) H'
theorem G_is_line (T : Tx K mg) : Glob P w K mg base (CX0) 2 "is_line" p_is_line [] sp_is_line := by
  obtain ⟨fd, F⟩ := T.f_is_line
  refine ⟨_, fd, [], F.ok sc_is_line (fun vs H Q E h => ?_) (fun cdv A outer s H vs Q E hr h => ?_), T.g_is_line, F.kp, .nil, F.bindsN fun _ _ _ _ _ _ us hl => match us, hl with | [_], _ => rfl⟩
  · obtain ⟨z, rfl, _⟩ := h; rfl
  · obtain ⟨z, rfl, hz, q⟩ := h
    refine ⟨_, PSs.nox (pss_cons (ps_set (i := 1) sc_is_line.nd rfl (Or.inl rfl) (pe_split (pv 0) pe_str))
      (pss_one (ps_ret (pe_and (pe_cmpR op_le (pe_callB (call_len_seqK (K := K) rfl) (by rfl) T.b_len (by decide +kernel) (pa_cons (pv 1) pa_nil)) (pe_gi T.c_MOST_WORDS (by rfl)) (nomark _)) (pe_one (pe_callB (cr_allK (K := K) rfl rfl) (by rfl) T.b_all (by decide +kernel) (pa_cons (pe_lc (own := [("word", 2)]) (g := (gName 2)) (tt := tYes) rfl sc_is_line.nd (pi_listK (K := K) rfl (pv 1)) (blkOk_by (by kernel_rfl)) (fun _ _ _ _ _ => (pg_name (i := 2) sc_is_line.nd rfl (Or.inl rfl))) (fun _ _ _ _ _ => pts_nil) (fun _ _ _ _ _ => (pe_callG (G_is_word T) (hr.mono (by decide)) (by rfl) pass0 (pa_cons (pv 2) pa_nil)))) pa_nil))))))), ?_⟩
    simp only [tCutE, false_and, exists_false, false_or, or_false, tRet, tRetN, tAndV, tOrV, tNotV, tChain, rI, rI0, rU, tC, tCB, tCons, tNil, tVar, tOp, tUn, tTest, tB, tAnd, tOr, tNot, tIf, tIfS, tSeq, tAsg, tDrop, tNext, gName, gTup_ref, gCons_cons, gNil_nil, and_assoc, tYes, wipe, rEq, rNe, scal_ss, scal_ii, scal_bb, scal_ns, scal_sn, scal_nn, scal_in, scal_ni, tLc_eq, tFor_eq, iList, iTup, iStr, iRng1, iRng2, iZip, iEnum, gSub, tSl, rSetL_ref, rCat_ref, rRep_ref, rJoin_ref, rSlL_ref, rSlS_ref, rMulS_ref, rIxL_ref, rIxT_ref, rLenK_ref, rAll_ref, rIn_ref, tLst, tTup, tPar, tPar3, tAug, tPart, tNoPart, tCall, List.getElem?_cons_zero, List.getElem?_cons_succ, List.set_cons_zero, List.set_cons_succ, List.map_cons, List.map_nil, List.append_nil, List.nil_append, List.cons_append, Option.some.injEq, exists_eq_left', exists_eq_left, exists_eq_right, exists_eq_right', exists_eq', V.int.injEq, V.str.injEq, V.bl.injEq, V.ref.injEq, List.cons.injEq, tM0, tM1, rNewStrs, sgn_eq, split_dot, split_sp, split_nl, dot_len, sp_len, nl_len, cxOf_K, L2.start, List.length_cons, List.length_nil, List.replicate_succ, List.replicate_zero, Nat.reduceSub, Nat.zero_add, and_true, true_and, and_self, exists_and_left, exists_const, Bool.false_eq_true, if_false, if_true, ite_true, ite_false, reduceIte, decide_eq_true_eq, reduceCtorEq, Nat.reduceAdd, Nat.reduceLT, tListZip, tCallX, tCallV, tCallVS, tLam1, tLamD, tCls, cx_cells, cx_scope, cx_N, cx_prog, cx_w, cx_base, cx_qual]
    refine ⟨small (by omega), fun p hp => ⟨(wds z).map V.str, .inl (.of upd_same), ?_⟩⟩
    have s1 : Same H (upd H p (HO.lst (List.map V.str (wds z)))) := same_put (Same.refl _) hp
    have hl := wds_len z
    rw [List.length_map]
    split
    · rename_i h1
      refine ⟨⟨_, .of upd_same⟩, lc_map (wds z) (fun w => V.bl (isWord w)) (walk_listm (wds z) V.str) (by omega) (fun H2 s2 => s2.seq (.of upd_same)) (fun i a x H1 H' R hx s2 hy r => ?_) (fun D H1 nD s2 hD => ?_)⟩
      · obtain ⟨rfl, y, hy, rfl⟩ := hy
        cases Option.some.inj (hx.symm.trans hy)
        simp only [tCutE, false_and, exists_false, false_or, or_false, tRet, tRetN, tAndV, tOrV, tNotV, tChain, rI, rI0, rU, tC, tCB, tCons, tNil, tVar, tOp, tUn, tTest, tB, tAnd, tOr, tNot, tIf, tIfS, tSeq, tAsg, tDrop, tNext, gName, gTup_ref, gCons_cons, gNil_nil, and_assoc, tYes, wipe, rEq, rNe, scal_ss, scal_ii, scal_bb, scal_ns, scal_sn, scal_nn, scal_in, scal_ni, tLc_eq, tFor_eq, iList, iTup, iStr, iRng1, iRng2, iZip, iEnum, gSub, tSl, rSetL_ref, rCat_ref, rRep_ref, rJoin_ref, rSlL_ref, rSlS_ref, rMulS_ref, rIxL_ref, rIxT_ref, rLenK_ref, rAll_ref, rIn_ref, tLst, tTup, tPar, tPar3, tAug, tPart, tNoPart, tCall, List.getElem?_cons_zero, List.getElem?_cons_succ, List.set_cons_zero, List.set_cons_succ, List.map_cons, List.map_nil, List.append_nil, List.nil_append, List.cons_append, Option.some.injEq, exists_eq_left', exists_eq_left, exists_eq_right, exists_eq_right', exists_eq', V.int.injEq, V.str.injEq, V.bl.injEq, V.ref.injEq, List.cons.injEq, tM0, tM1, rNewStrs, sgn_eq, split_dot, split_sp, split_nl, dot_len, sp_len, nl_len, cxOf_K, L2.start, List.length_cons, List.length_nil, List.replicate_succ, List.replicate_zero, Nat.reduceSub, Nat.zero_add, and_true, true_and, and_self, exists_and_left, exists_const, Bool.false_eq_true, if_false, if_true, ite_true, ite_false, reduceIte, decide_eq_true_eq, reduceCtorEq, Nat.reduceAdd, Nat.reduceLT, tListZip, tCallX, tCallV, tCallVS, tLam1, tLamD, tCls, cx_cells, cx_scope, cx_N, cx_prog, cx_w, cx_base, cx_qual]
        have := wds_each z a (List.mem_of_getElem? hx)
        exact ⟨a, rfl, by omega, r⟩
      · refine ⟨D, (wds z).map isWord, rfl, .of (by rw [hD, List.map_map]; rfl), ?_⟩
        have e : isLine z = List.all ((wds z).map isWord) id := by
          unfold isLine
          rw [decide_eq_true (by omega : (wds z).length ≤ 6), List.all_map]
          rfl
        rw [← e]
        exact q _ (s1.trans s2)
    · have e : isLine z = false := by
        unfold isLine
        rw [decide_eq_false (by omega : ¬ (wds z).length ≤ 6)]; simp
      rw [← e]; exact q _ s1
/-! ### is_pattern -/
def sp_is_pattern : Sp := fun vs H Q _ => ∃ z : Str, vs = [.str z] ∧ z.length ≤ 10000 ∧ ∀ H', Same H H' → Q (.bl (isPat z)) H'
theorem G_is_pattern (T : Tx K mg) : Glob P w K mg base (CX0) 2 "is_pattern" p_is_pattern [] sp_is_pattern := by
  obtain ⟨fd, F⟩ := T.f_is_pattern
  refine ⟨_, fd, [], F.ok sc_is_pattern (fun vs H Q E h => ?_) (fun cdv A outer s H vs Q E hr h => ?_), T.g_is_pattern, F.kp, .nil, F.bindsN fun _ _ _ _ _ _ us hl => match us, hl with | [_], _ => rfl⟩
  · obtain ⟨z, rfl, _⟩ := h; rfl
  · obtain ⟨z, rfl, hz, q⟩ := h
    refine ⟨_, PSs.nox (pss_cons (ps_set (i := 1) sc_is_pattern.nd rfl (Or.inl rfl) (pe_split (pv 0) pe_str))
      (pss_cons (ps_if (pt_cmpR op_eq (pe_ix (ix_listK (K := K) rfl) (pv 1) (pe_un un_neg pe_int) (fun _ _ => rfl)) (pe_gs T.c_REST (by rfl)) (nomark _))
      (pss_one (ps_expr (pe_bm0K (K := K) rfl PySem.F.plainAttrs_list PySem.F.slot_list_pop PySem.F.type_list_pop mt_pop (pv 1))))
      pss_nil)
      (pss_one (ps_ret (pe_and (pe_cmpR op_le (pe_callB (call_len_seqK (K := K) rfl) (by rfl) T.b_len (by decide +kernel) (pa_cons (pv 1) pa_nil)) (pe_gi T.c_MOST_WORDS (by rfl)) (nomark _)) (pe_one (pe_callB (cr_allK (K := K) rfl rfl) (by rfl) T.b_all (by decide +kernel) (pa_cons (pe_lc (own := [("word", 2)]) (g := (gName 2)) (tt := tYes) rfl sc_is_pattern.nd (pi_listK (K := K) rfl (pv 1)) (blkOk_by (by kernel_rfl)) (fun _ _ _ _ _ => (pg_name (i := 2) sc_is_pattern.nd rfl (Or.inl rfl))) (fun _ _ _ _ _ => pts_nil) (fun _ _ _ _ _ => (pe_or (pe_cmpR op_eq (pv 2) (pe_gs T.c_ANY (by rfl)) (nomark _)) (pe_one (pe_callG (G_is_word T) (hr.mono (by decide)) (by rfl) pass0 (pa_cons (pv 2) pa_nil)))))) pa_nil)))))))), ?_⟩
    simp only [tCutE, false_and, exists_false, false_or, or_false, tRet, tRetN, tAndV, tOrV, tNotV, tChain, rI, rI0, rU, tC, tCB, tCons, tNil, tVar, tOp, tUn, tTest, tB, tAnd, tOr, tNot, tIf, tIfS, tSeq, tAsg, tDrop, tNext, gName, gTup_ref, gCons_cons, gNil_nil, and_assoc, tYes, wipe, rEq, rNe, scal_ss, scal_ii, scal_bb, scal_ns, scal_sn, scal_nn, scal_in, scal_ni, tLc_eq, tFor_eq, iList, iTup, iStr, iRng1, iRng2, iZip, iEnum, gSub, tSl, rSetL_ref, rCat_ref, rRep_ref, rJoin_ref, rSlL_ref, rSlS_ref, rMulS_ref, rIxL_ref, rIxT_ref, rLenK_ref, rAll_ref, rIn_ref, tLst, tTup, tPar, tPar3, tAug, tPart, tNoPart, tCall, List.getElem?_cons_zero, List.getElem?_cons_succ, List.set_cons_zero, List.set_cons_succ, List.map_cons, List.map_nil, List.append_nil, List.nil_append, List.cons_append, Option.some.injEq, exists_eq_left', exists_eq_left, exists_eq_right, exists_eq_right', exists_eq', V.int.injEq, V.str.injEq, V.bl.injEq, V.ref.injEq, List.cons.injEq, tM0, tM1, rNewStrs, sgn_eq, split_dot, split_sp, split_nl, dot_len, sp_len, nl_len, cxOf_K, L2.start, List.length_cons, List.length_nil, List.replicate_succ, List.replicate_zero, Nat.reduceSub, Nat.zero_add, and_true, true_and, and_self, exists_and_left, exists_const, Bool.false_eq_true, if_false, if_true, ite_true, ite_false, reduceIte, decide_eq_true_eq, reduceCtorEq, Nat.reduceAdd, Nat.reduceLT, tListZip, tCallX, tCallV, tCallVS, tLam1, tLamD, tCls, cx_cells, cx_scope, cx_N, cx_prog, cx_w, cx_base, cx_qual]
    have hl := wds_len z
    have fin : ∀ (p : Addr) (H1 : Hp), H p = none → Same H H1 → H1 p = some (.lst ((cut (wds z)).map V.str)) → ∃ ys, (SqL K H1 p ys ∨ SqT K H1 p ys) ∧ if (ys.length : Int) ≤ 6 then
        (∃ xs, SqL K H1 p xs) ∧ LcG (Itl K p) (gName 2) tYes (tOrV (tOp rEq (tVar 2) (tC (V.str (Str.ofString "*")))) (tCall sp_is_word [] E0 (tCons (tVar 2) tNil))) [2] [some (V.str z), some (V.ref p), none] H1 fun x H1 => rAll K [x] H1 Q
      else Q (V.bl false) H1 := by
      intro p H1 hp s1 hc
      have hcl : (cut (wds z)).length ≤ (wds z).length := by
        unfold cut; split
        · rw [List.length_dropLast]; omega
        · exact Nat.le_refl _
      have hcm : ∀ w ∈ cut (wds z), w ∈ wds z := by
        unfold cut; split
        · exact fun w hw => List.dropLast_subset _ hw
        · exact fun w hw => hw
      refine ⟨_, .inl (.of hc), ?_⟩
      rw [List.length_map]
      split
      · rename_i h1
        refine ⟨⟨_, .of hc⟩, lc_map (cut (wds z)) (fun w => V.bl (starOr w)) (walk_listm (cut (wds z)) V.str) (by omega) (fun H2 s2 => s2.seq (.of hc)) (fun i a x H1 H' R hx s2 hy r => ?_) (fun D H1 nD s2 hD => ?_)⟩
        · obtain ⟨rfl, y, hy, rfl⟩ := hy
          cases Option.some.inj (hx.symm.trans hy)
          simp only [tCutE, false_and, exists_false, false_or, or_false, tRet, tRetN, tAndV, tOrV, tNotV, tChain, rI, rI0, rU, tC, tCB, tCons, tNil, tVar, tOp, tUn, tTest, tB, tAnd, tOr, tNot, tIf, tIfS, tSeq, tAsg, tDrop, tNext, gName, gTup_ref, gCons_cons, gNil_nil, and_assoc, tYes, wipe, rEq, rNe, scal_ss, scal_ii, scal_bb, scal_ns, scal_sn, scal_nn, scal_in, scal_ni, tLc_eq, tFor_eq, iList, iTup, iStr, iRng1, iRng2, iZip, iEnum, gSub, tSl, rSetL_ref, rCat_ref, rRep_ref, rJoin_ref, rSlL_ref, rSlS_ref, rMulS_ref, rIxL_ref, rIxT_ref, rLenK_ref, rAll_ref, rIn_ref, tLst, tTup, tPar, tPar3, tAug, tPart, tNoPart, tCall, List.getElem?_cons_zero, List.getElem?_cons_succ, List.set_cons_zero, List.set_cons_succ, List.map_cons, List.map_nil, List.append_nil, List.nil_append, List.cons_append, Option.some.injEq, exists_eq_left', exists_eq_left, exists_eq_right, exists_eq_right', exists_eq', V.int.injEq, V.str.injEq, V.bl.injEq, V.ref.injEq, List.cons.injEq, tM0, tM1, rNewStrs, sgn_eq, split_dot, split_sp, split_nl, dot_len, sp_len, nl_len, cxOf_K, L2.start, List.length_cons, List.length_nil, List.replicate_succ, List.replicate_zero, Nat.reduceSub, Nat.zero_add, and_true, true_and, and_self, exists_and_left, exists_const, Bool.false_eq_true, if_false, if_true, ite_true, ite_false, reduceIte, decide_eq_true_eq, reduceCtorEq, Nat.reduceAdd, Nat.reduceLT, tListZip, tCallX, tCallV, tCallVS, tLam1, tLamD, tCls, cx_cells, cx_scope, cx_N, cx_prog, cx_w, cx_base, cx_qual]
          have := wds_each z a (hcm a (List.mem_of_getElem? hx))
          unfold starOr at r
          split
          · rename_i e
            subst e
            simp only [decide_true, Bool.true_or] at r
            exact r _ (Same.refl _)
          · rename_i e
            rw [decide_eq_false e, Bool.false_or] at r
            exact ⟨a, rfl, by omega, r⟩
        · refine ⟨D, (cut (wds z)).map starOr, rfl, .of (by rw [hD, List.map_map]; rfl), ?_⟩
          have e : isPat z = List.all ((cut (wds z)).map starOr) id := by
            unfold isPat
            rw [decide_eq_true (by omega : (cut (wds z)).length ≤ 6), List.all_map]
            rfl
          rw [← e]
          exact q _ (s1.trans s2)
      · have e : isPat z = false := by
          unfold isPat
          rw [decide_eq_false (by omega : ¬ (cut (wds z)).length ≤ 6)]; simp
        rw [← e]; exact q _ s1
    refine ⟨small (by omega), fun p hp => ⟨_, .of upd_same, ?_⟩⟩
    have s1 : Same H (upd H p (HO.lst (List.map V.str (wds z)))) := same_put (Same.refl _) hp
    obtain ⟨x, e1, e2⟩ := last_str (wds_ne z)
    refine ⟨.str x, (atI_neg1 (by simpa using wds_ne z)).trans e1, rfl, ?_⟩
    split
    · rename_i e
      cases e
      refine ⟨_, rfl, .inl ⟨rfl, _, .of upd_same⟩, p, _, .str ("#" : Str), rfl, rfl, upd_same, ?_, ?_⟩
      · rw [← List.getLast?_eq_getElem?]; exact e1
      · refine fin p _ hp (same_put s1 hp) ?_
        rw [upd_same]
        unfold cut
        rw [if_pos e2, List.map_dropLast]
    · rename_i e
      refine fin p _ hp s1 ?_
      rw [upd_same]
      unfold cut
      rw [if_neg (fun z => e (by rw [e2] at z; exact congrArg V.str (Option.some.inj z)))]
/-! ### need_line, need_pattern -/
def sp_need_line (K : PySem.W.Frag) : Sp := fun vs H Q E => ∃ z : Str, vs = [.str z] ∧ z.length ≤ 10000 ∧ (isLine z = true → ∀ H', Same H H' → Q .non H') ∧ (isLine z = false → ∀ H', Same H H' → E (.ref (He.ga K "BadLine")) none H')
theorem G_need_line (T : Tx K mg) : Glob P w K mg base (L2.CX P w) 3 "need_line" p_need_line [] (sp_need_line K) := by
  obtain ⟨fd, F⟩ := T.f_need_line
  refine ⟨_, fd, [], F.ok sc_need_line (fun vs H Q E h => ?_) (fun cdv A outer s H vs Q E hr h => ?_), T.g_need_line, F.kp, .nil, F.bindsN fun _ _ _ _ _ _ us hl => match us, hl with | [_], _ => rfl⟩
  · obtain ⟨z, rfl, _⟩ := h; rfl
  · obtain ⟨z, rfl, hz, q1, q2⟩ := h
    refine ⟨_, (pss_one (ps_if (pt_not (pt_val (pe_callG (G_is_line T) (hr.mono (by decide)) (by rfl) pass0 (pa_cons (pv 0) pa_nil))))
      (pss_one (ps_raise rfl (takes_of rfl rfl rfl rfl) (pmk_own PySem.F.excBase_ValueError T.x_BadLine.1 T.g_BadLine T.x_BadLine.2.1 (raises_own T.x_BadLine.2.2.1 T.x_BadLine.2.2.2) rfl)))
      pss_nil)), ?_⟩
    simp only [tCutE, false_and, exists_false, false_or, or_false, tRet, tRetN, tAndV, tOrV, tNotV, tChain, rI, rI0, rU, tC, tCB, tCons, tNil, tVar, tOp, tUn, tTest, tB, tAnd, tOr, tNot, tIf, tIfS, tSeq, tAsg, tDrop, tNext, gName, gTup_ref, gCons_cons, gNil_nil, and_assoc, tYes, wipe, rEq, rNe, scal_ss, scal_ii, scal_bb, scal_ns, scal_sn, scal_nn, scal_in, scal_ni, tLc_eq, tFor_eq, iList, iTup, iStr, iRng1, iRng2, iZip, iEnum, gSub, tSl, rSetL_ref, rCat_ref, rRep_ref, rJoin_ref, rSlL_ref, rSlS_ref, rMulS_ref, rIxL_ref, rIxT_ref, rLenK_ref, rAll_ref, rIn_ref, tLst, tTup, tPar, tPar3, tAug, tPart, tNoPart, tCall, List.getElem?_cons_zero, List.getElem?_cons_succ, List.set_cons_zero, List.set_cons_succ, List.map_cons, List.map_nil, List.append_nil, List.nil_append, List.cons_append, Option.some.injEq, exists_eq_left', exists_eq_left, exists_eq_right, exists_eq_right', exists_eq', V.int.injEq, V.str.injEq, V.bl.injEq, V.ref.injEq, List.cons.injEq, tM0, tM1, rNewStrs, sgn_eq, split_dot, split_sp, split_nl, dot_len, sp_len, nl_len, cxOf_K, L2.start, List.length_cons, List.length_nil, List.replicate_succ, List.replicate_zero, Nat.reduceSub, Nat.zero_add, and_true, true_and, and_self, exists_and_left, exists_const, Bool.false_eq_true, if_false, if_true, ite_true, ite_false, reduceIte, decide_eq_true_eq, reduceCtorEq, Nat.reduceAdd, Nat.reduceLT, tListZip, tCallX, tCallV, tCallVS, tLam1, tLamD, tCls, cx_cells, cx_scope, cx_N, cx_prog, cx_w, cx_base, cx_qual]
    refine ⟨z, rfl, hz, fun H' s1 => ⟨_, rfl, ?_⟩⟩
    cases e : isLine z with
    | true => exact iteF (q1 e H' s1)
    | false => exact iteT (q2 e H' s1)
def sp_need_pattern (K : PySem.W.Frag) : Sp := fun vs H Q E => ∃ z : Str, vs = [.str z] ∧ z.length ≤ 10000 ∧ (isPat z = true → ∀ H', Same H H' → Q .non H') ∧ (isPat z = false → ∀ H', Same H H' → E (.ref (He.ga K "BadPattern")) none H')
theorem G_need_pattern (T : Tx K mg) : Glob P w K mg base (L2.CX P w) 3 "need_pattern" p_need_pattern [] (sp_need_pattern K) := by
  obtain ⟨fd, F⟩ := T.f_need_pattern
  refine ⟨_, fd, [], F.ok sc_need_pattern (fun vs H Q E h => ?_) (fun cdv A outer s H vs Q E hr h => ?_), T.g_need_pattern, F.kp, .nil, F.bindsN fun _ _ _ _ _ _ us hl => match us, hl with | [_], _ => rfl⟩
  · obtain ⟨z, rfl, _⟩ := h; rfl
  · obtain ⟨z, rfl, hz, q1, q2⟩ := h
    refine ⟨_, (pss_one (ps_if (pt_not (pt_val (pe_callG (G_is_pattern T) (hr.mono (by decide)) (by rfl) pass0 (pa_cons (pv 0) pa_nil))))
      (pss_one (ps_raise rfl (takes_of rfl rfl rfl rfl) (pmk_own PySem.F.excBase_ValueError T.x_BadPattern.1 T.g_BadPattern T.x_BadPattern.2.1 (raises_own T.x_BadPattern.2.2.1 T.x_BadPattern.2.2.2) rfl)))
      pss_nil)), ?_⟩
    simp only [tCutE, false_and, exists_false, false_or, or_false, tRet, tRetN, tAndV, tOrV, tNotV, tChain, rI, rI0, rU, tC, tCB, tCons, tNil, tVar, tOp, tUn, tTest, tB, tAnd, tOr, tNot, tIf, tIfS, tSeq, tAsg, tDrop, tNext, gName, gTup_ref, gCons_cons, gNil_nil, and_assoc, tYes, wipe, rEq, rNe, scal_ss, scal_ii, scal_bb, scal_ns, scal_sn, scal_nn, scal_in, scal_ni, tLc_eq, tFor_eq, iList, iTup, iStr, iRng1, iRng2, iZip, iEnum, gSub, tSl, rSetL_ref, rCat_ref, rRep_ref, rJoin_ref, rSlL_ref, rSlS_ref, rMulS_ref, rIxL_ref, rIxT_ref, rLenK_ref, rAll_ref, rIn_ref, tLst, tTup, tPar, tPar3, tAug, tPart, tNoPart, tCall, List.getElem?_cons_zero, List.getElem?_cons_succ, List.set_cons_zero, List.set_cons_succ, List.map_cons, List.map_nil, List.append_nil, List.nil_append, List.cons_append, Option.some.injEq, exists_eq_left', exists_eq_left, exists_eq_right, exists_eq_right', exists_eq', V.int.injEq, V.str.injEq, V.bl.injEq, V.ref.injEq, List.cons.injEq, tM0, tM1, rNewStrs, sgn_eq, split_dot, split_sp, split_nl, dot_len, sp_len, nl_len, cxOf_K, L2.start, List.length_cons, List.length_nil, List.replicate_succ, List.replicate_zero, Nat.reduceSub, Nat.zero_add, and_true, true_and, and_self, exists_and_left, exists_const, Bool.false_eq_true, if_false, if_true, ite_true, ite_false, reduceIte, decide_eq_true_eq, reduceCtorEq, Nat.reduceAdd, Nat.reduceLT, tListZip, tCallX, tCallV, tCallVS, tLam1, tLamD, tCls, cx_cells, cx_scope, cx_N, cx_prog, cx_w, cx_base, cx_qual]
    refine ⟨z, rfl, hz, fun H' s1 => ⟨_, rfl, ?_⟩⟩
    cases e : isPat z with
    | true => exact iteF (q1 e H' s1)
    | false => exact iteT (q2 e H' s1)
/-! ### of_length -/
def sp_of_length : Sp := fun vs H Q _ => ∃ (z : Str) (n : Int), vs = [.str z, .int n] ∧ z.length ≤ 10000 ∧ -10000 ≤ n ∧ n ≤ 10000 ∧
  (ofLen z n = none → ∀ H', Same H H' → Q .non H') ∧ (∀ ws, ofLen z n = some ws → ∀ H' p, Same H H' → H p = none → H' p = some (.lst (ws.map V.str)) → Q (.ref p) H')
theorem G_of_length (T : Tx K mg) : Glob P w K mg base (CX0) 1 "of_length" p_of_length [] sp_of_length := by
  obtain ⟨fd, F⟩ := T.f_of_length
  refine ⟨_, fd, [], F.ok sc_of_length (fun vs H Q E h => ?_) (fun cdv A outer s H vs Q E hr h => ?_), T.g_of_length, F.kp, .nil, F.bindsN fun _ _ _ _ _ _ us hl => match us, hl with | [_, _], _ => rfl⟩
  · obtain ⟨z, n, rfl, _⟩ := h; rfl
  · obtain ⟨z, n, rfl, hz, hn0, hn, q1, q2⟩ := h
    refine ⟨_, PSs.nox (pss_cons (ps_set (i := 2) sc_of_length.nd rfl (Or.inl rfl) (pe_split (pv 0) pe_str))
      (pss_cons (ps_if (pt_cmpR op_eq (pe_ix (ix_listK (K := K) rfl) (pv 2) (pe_un un_neg pe_int) (fun _ _ => rfl)) (pe_gs T.c_REST (by rfl)) (nomark _))
      (pss_cons (ps_expr (pe_bm0K (K := K) rfl PySem.F.plainAttrs_list PySem.F.slot_list_pop PySem.F.type_list_pop mt_pop (pv 2)))
      (pss_one (ps_aug (i := 2) sc_of_length.nd rfl (Or.inl rfl) (pe_op op_rep (pe_lst (pa_cons (pe_gs T.c_ANY (by rfl)) pa_nil)) (pe_op op_sub (pv 1) (pe_callB (call_len_seqK (K := K) rfl) (by rfl) T.b_len (by decide +kernel) (pa_cons (pv 2) pa_nil)))) iop_ext)))
      pss_nil)
      (pss_one (ps_ret (pe_ifExp (pt_cmpR op_eq (pe_callB (call_len_seqK (K := K) rfl) (by rfl) T.b_len (by decide +kernel) (pa_cons (pv 2) pa_nil)) (pv 1) (nomark _)) (pv 2) pe_non))))), ?_⟩
    simp only [tCutE, false_and, exists_false, false_or, or_false, tRet, tRetN, tAndV, tOrV, tNotV, tChain, rI, rI0, rU, tC, tCB, tCons, tNil, tVar, tOp, tUn, tTest, tB, tAnd, tOr, tNot, tIf, tIfS, tSeq, tAsg, tDrop, tNext, gName, gTup_ref, gCons_cons, gNil_nil, and_assoc, tYes, wipe, rEq, rNe, scal_ss, scal_ii, scal_bb, scal_ns, scal_sn, scal_nn, scal_in, scal_ni, tLc_eq, tFor_eq, iList, iTup, iStr, iRng1, iRng2, iZip, iEnum, gSub, tSl, rSetL_ref, rCat_ref, rRep_ref, rJoin_ref, rSlL_ref, rSlS_ref, rMulS_ref, rIxL_ref, rIxT_ref, rLenK_ref, rAll_ref, rIn_ref, tLst, tTup, tPar, tPar3, tAug, tPart, tNoPart, tCall, List.getElem?_cons_zero, List.getElem?_cons_succ, List.set_cons_zero, List.set_cons_succ, List.map_cons, List.map_nil, List.append_nil, List.nil_append, List.cons_append, Option.some.injEq, exists_eq_left', exists_eq_left, exists_eq_right, exists_eq_right', exists_eq', V.int.injEq, V.str.injEq, V.bl.injEq, V.ref.injEq, List.cons.injEq, tM0, tM1, rNewStrs, sgn_eq, split_dot, split_sp, split_nl, dot_len, sp_len, nl_len, cxOf_K, L2.start, List.length_cons, List.length_nil, List.replicate_succ, List.replicate_zero, Nat.reduceSub, Nat.zero_add, and_true, true_and, and_self, exists_and_left, exists_const, Bool.false_eq_true, if_false, if_true, ite_true, ite_false, reduceIte, decide_eq_true_eq, reduceCtorEq, Nat.reduceAdd, Nat.reduceLT, tListZip, tCallX, tCallV, tCallVS, tLam1, tLamD, tCls, cx_cells, cx_scope, cx_N, cx_prog, cx_w, cx_base, cx_qual]
    have hl := wds_len z
    refine ⟨small (by omega), fun p hp => ⟨_, .of upd_same, ?_⟩⟩
    have s1 : Same H (upd H p (HO.lst (List.map V.str (wds z)))) := same_put (Same.refl _) hp
    obtain ⟨x, e1, e2⟩ := last_str (wds_ne z)
    refine ⟨.str x, (atI_neg1 (by simpa using wds_ne z)).trans e1, rfl, ?_⟩
    split
    · rename_i e
      cases e
      refine ⟨_, rfl, .inl ⟨rfl, _, .of upd_same⟩, p, _, .str ("#" : Str), rfl, rfl, upd_same, ?_, ?_⟩
      · rw [← List.getLast?_eq_getElem?]; exact e1
      have ed : (List.map V.str (wds z)).dropLast = ((wds z).dropLast).map V.str := by rw [List.map_dropLast]
      rw [ed]
      have s2 : Same H (upd (upd H p (HO.lst (List.map V.str (wds z)))) p (HO.lst (List.map V.str (wds z).dropLast))) := same_put s1 hp
      generalize hH2 : upd (upd H p (HO.lst (List.map V.str (wds z)))) p (HO.lst (List.map V.str (wds z).dropLast)) = H2 at s2
      have hp2 : H2 p = some (.lst ((wds z).dropLast.map V.str)) := by rw [← hH2, upd_same]
      refine ⟨by decide, fun r hr => ?_⟩
      have npr : p ≠ r := ne_of_none hp2 hr
      refine ⟨_, .inl (.of (by rw [upd_ne npr]; exact hp2)), _, upd_same, ?_, ?_, ?_, fun t ht => ?_⟩
      · rw [List.length_map, List.length_dropLast]; omega
      · omega
      · simp only [List.length_singleton]; exact small (by omega)
      have npt : p ≠ t := by
        intro e; subst e
        rw [upd_ne npr, hp2] at ht; cases ht
      have nrt : r ≠ t := by
        intro e; subst e
        rw [upd_same] at ht; cases ht
      have hdl : (wds z).dropLast.length = (wds z).length - 1 := List.length_dropLast
      refine ⟨p, t, (wds z).dropLast.map V.str, _, rfl, rfl, by rw [upd_ne npt, upd_ne npr]; exact hp2, upd_same, ?_, ?_⟩
      · rw [List.length_map, List.length_flatten, List.map_replicate, List.sum_replicate_nat]; simp only [List.length_singleton, List.length_map]; exact small (by omega)
      have eo : (wds z).dropLast.map V.str ++ (List.replicate (n - ((wds z).dropLast.map V.str).length).toNat [V.str (Str.ofString "*")]).flatten = ((wds z).dropLast ++ List.replicate (n - (wds z).dropLast.length).toNat ("*" : Str)).map V.str := by
        rw [List.map_append, List.map_replicate, List.length_map, List.flatten_replicate_singleton]
      rw [eo]
      have s3 : Same H (upd (upd (upd H2 r (HO.lst [V.str (Str.ofString "*")])) t (HO.lst (List.replicate (n - ((wds z).dropLast.map V.str).length).toNat [V.str (Str.ofString "*")]).flatten)) p (HO.lst (((wds z).dropLast ++ List.replicate (n - (wds z).dropLast.length).toNat ("*" : Str)).map V.str))) :=
        same_put (same_new (same_new s2 hr) ht) hp
      simp only [tCutE, false_and, exists_false, false_or, or_false, tRet, tRetN, tAndV, tOrV, tNotV, tChain, rI, rI0, rU, tC, tCB, tCons, tNil, tVar, tOp, tUn, tTest, tB, tAnd, tOr, tNot, tIf, tIfS, tSeq, tAsg, tDrop, tNext, gName, gTup_ref, gCons_cons, gNil_nil, and_assoc, tYes, wipe, rEq, rNe, scal_ss, scal_ii, scal_bb, scal_ns, scal_sn, scal_nn, scal_in, scal_ni, tLc_eq, tFor_eq, iList, iTup, iStr, iRng1, iRng2, iZip, iEnum, gSub, tSl, rSetL_ref, rCat_ref, rRep_ref, rJoin_ref, rSlL_ref, rSlS_ref, rMulS_ref, rIxL_ref, rIxT_ref, rLenK_ref, rAll_ref, rIn_ref, tLst, tTup, tPar, tPar3, tAug, tPart, tNoPart, tCall, List.getElem?_cons_zero, List.getElem?_cons_succ, List.set_cons_zero, List.set_cons_succ, List.map_cons, List.map_nil, List.append_nil, List.nil_append, List.cons_append, Option.some.injEq, exists_eq_left', exists_eq_left, exists_eq_right, exists_eq_right', exists_eq', V.int.injEq, V.str.injEq, V.bl.injEq, V.ref.injEq, List.cons.injEq, tM0, tM1, rNewStrs, sgn_eq, split_dot, split_sp, split_nl, dot_len, sp_len, nl_len, cxOf_K, L2.start, List.length_cons, List.length_nil, List.replicate_succ, List.replicate_zero, Nat.reduceSub, Nat.zero_add, and_true, true_and, and_self, exists_and_left, exists_const, Bool.false_eq_true, if_false, if_true, ite_true, ite_false, reduceIte, decide_eq_true_eq, reduceCtorEq, Nat.reduceAdd, Nat.reduceLT, tListZip, tCallX, tCallV, tCallVS, tLam1, tLamD, tCls, cx_cells, cx_scope, cx_N, cx_prog, cx_w, cx_base, cx_qual]
      refine ⟨_, .inl (.of upd_same), ?_⟩
      rw [List.length_map]
      have eq : ofLen z n = if ((((wds z).dropLast ++ List.replicate (n - (wds z).dropLast.length).toNat ("*" : Str)).length : Int) = n) then some ((wds z).dropLast ++ List.replicate (n - (wds z).dropLast.length).toNat ("*" : Str)) else none := by
        unfold ofLen
        simp only [if_pos e2]
      split
      · rename_i h1
        rw [if_pos h1] at eq
        exact q2 _ eq _ p s3 hp upd_same
      · rename_i h1
        rw [if_neg h1] at eq
        exact q1 eq _ s3
    · rename_i e
      refine ⟨_, .inl (.of upd_same), ?_⟩
      rw [List.length_map]
      have e3 : ¬ (wds z).getLast? = some ("#" : Str) := fun z => e (by rw [e2] at z; exact congrArg V.str (Option.some.inj z))
      have eq : ofLen z n = if ((wds z).length : Int) = n then some (wds z) else none := by
        unfold ofLen
        simp only [if_neg e3]
      split
      · rename_i h1
        rw [if_pos h1] at eq
        exact q2 _ eq _ p s1 hp upd_same
      · rename_i h1
        rw [if_neg h1] at eq
        exact q1 eq _ s1
/-! ### does_fit -/
theorem ofLen_len {p : Str} {n : Int} {ws : List Str} (h : ofLen p n = some ws) : (ws.length : Int) = n := by
  unfold ofLen at h
  simp only at h
  split at h
  · split at h
    · rename_i e
      cases h; exact e
    · cases h
  · split at h
    · rename_i e
      cases h; exact e
    · cases h
def sp_does_fit : Sp := fun vs H Q _ => ∃ (z l : Str), vs = [.str z, .str l] ∧ z.length ≤ 10000 ∧ l.length ≤ 5000 ∧ ∀ H', Same H H' → Q (.bl (doesFit z l)) H'
theorem G_does_fit (T : Tx K mg) : Glob P w K mg base (CX0) 2 "does_fit" p_does_fit [] sp_does_fit := by
  obtain ⟨fd, F⟩ := T.f_does_fit
  refine ⟨_, fd, [], F.ok sc_does_fit (fun vs H Q E h => ?_) (fun cdv A outer s H vs Q E hr h => ?_), T.g_does_fit, F.kp, .nil, F.bindsN fun _ _ _ _ _ _ us hl => match us, hl with | [_, _], _ => rfl⟩
  · obtain ⟨z, l, rfl, _⟩ := h; rfl
  · obtain ⟨z, l, rfl, hz, hl, q⟩ := h
    refine ⟨_, PSs.nox (pss_cons (ps_set (i := 2) sc_does_fit.nd rfl (Or.inl rfl) (pe_split (pv 1) pe_str))
      (pss_cons (ps_set (i := 3) sc_does_fit.nd rfl (Or.inl rfl) (pe_callG (G_of_length T) (hr.mono (by decide)) (by rfl) pass0 (pa_cons (pv 0) (pa_cons (pe_callB (call_len_seqK (K := K) rfl) (by rfl) T.b_len (by decide +kernel) (pa_cons (pv 2) pa_nil)) pa_nil))))
      (pss_one (ps_ret (pe_and (pe_cmpR op_notN (pv 3) pe_non (nomark _)) (pe_one (pe_callB (cr_allK (K := K) rfl rfl) (by rfl) T.b_all (by decide +kernel) (pa_cons (pe_lc (own := [("word", 4), ("part", 5)]) (g := (gTup K 2 (gCons (gName 4) (gCons (gName 5) gNil)))) (tt := tYes) rfl sc_does_fit.nd (pi_zipK (K := K) rfl (by rfl) T.b_zip (pa_cons (pv 3) (pa_cons (pv 2) pa_nil))) (blkOk_by (by kernel_rfl)) (fun _ _ _ _ _ => (pg_tupK (K := K) rfl rfl (pgs_cons (pg_name (i := 4) sc_does_fit.nd rfl (Or.inl rfl)) (pgs_cons (pg_name (i := 5) sc_does_fit.nd rfl (Or.inl rfl)) pgs_nil)))) (fun _ _ _ _ _ => pts_nil) (fun _ _ _ _ _ => (pe_cmpR (op_in_seqK (K := K) rfl) (pv 4) (pe_tup (pa_cons (pe_gs T.c_ANY (by rfl)) (pa_cons (pv 5) pa_nil))) (by rfl)))) pa_nil)))))))), ?_⟩
    simp only [tCutE, false_and, exists_false, false_or, or_false, tRet, tRetN, tAndV, tOrV, tNotV, tChain, rI, rI0, rU, tC, tCB, tCons, tNil, tVar, tOp, tUn, tTest, tB, tAnd, tOr, tNot, tIf, tIfS, tSeq, tAsg, tDrop, tNext, gName, gTup_ref, gCons_cons, gNil_nil, and_assoc, tYes, wipe, rEq, rNe, scal_ss, scal_ii, scal_bb, scal_ns, scal_sn, scal_nn, scal_in, scal_ni, tLc_eq, tFor_eq, iList, iTup, iStr, iRng1, iRng2, iZip, iEnum, gSub, tSl, rSetL_ref, rCat_ref, rRep_ref, rJoin_ref, rSlL_ref, rSlS_ref, rMulS_ref, rIxL_ref, rIxT_ref, rLenK_ref, rAll_ref, rIn_ref, tLst, tTup, tPar, tPar3, tAug, tPart, tNoPart, tCall, List.getElem?_cons_zero, List.getElem?_cons_succ, List.set_cons_zero, List.set_cons_succ, List.map_cons, List.map_nil, List.append_nil, List.nil_append, List.cons_append, Option.some.injEq, exists_eq_left', exists_eq_left, exists_eq_right, exists_eq_right', exists_eq', V.int.injEq, V.str.injEq, V.bl.injEq, V.ref.injEq, List.cons.injEq, tM0, tM1, rNewStrs, sgn_eq, split_dot, split_sp, split_nl, dot_len, sp_len, nl_len, cxOf_K, L2.start, List.length_cons, List.length_nil, List.replicate_succ, List.replicate_zero, Nat.reduceSub, Nat.zero_add, and_true, true_and, and_self, exists_and_left, exists_const, Bool.false_eq_true, if_false, if_true, ite_true, ite_false, reduceIte, decide_eq_true_eq, reduceCtorEq, Nat.reduceAdd, Nat.reduceLT, tListZip, tCallX, tCallV, tCallVS, tLam1, tLamD, tCls, cx_cells, cx_scope, cx_N, cx_prog, cx_w, cx_base, cx_qual]
    have hw := wds_len l
    refine ⟨small (by omega), fun p hp => ⟨_, .inl (.of upd_same), ?_⟩⟩
    have s1 : Same H (upd H p (HO.lst (List.map V.str (wds l)))) := same_put (Same.refl _) hp
    have el : (List.map V.str (wds l)).length = (wds l).length := by rw [List.length_map]
    rw [el]
    refine ⟨z, _, rfl, hz, by omega, by omega, fun e H' s2 => ?_, fun ws e H' r s2 hr hr' => ?_⟩
    · simp only [decide_true, Bool.not_true, Bool.false_eq_true, if_false]
      have e2 : doesFit z l = false := by unfold doesFit; rw [e]
      rw [← e2]
      exact q _ (s1.trans s2)
    · simp only [reduceCtorEq, decide_false, Bool.not_false, if_true]
      have e2 : doesFit z l = (ws.zip (wds l)).all fit1 := by unfold doesFit; rw [e]
      have hp' : H' p = some (.lst ((wds l).map V.str)) := s2 _ _ upd_same
      have hwl := ofLen_len e
      simp only [tCutE, false_and, exists_false, false_or, or_false, tRet, tRetN, tAndV, tOrV, tNotV, tChain, rI, rI0, rU, tC, tCB, tCons, tNil, tVar, tOp, tUn, tTest, tB, tAnd, tOr, tNot, tIf, tIfS, tSeq, tAsg, tDrop, tNext, gName, gTup_ref, gCons_cons, gNil_nil, and_assoc, tYes, wipe, rEq, rNe, scal_ss, scal_ii, scal_bb, scal_ns, scal_sn, scal_nn, scal_in, scal_ni, tLc_eq, tFor_eq, iList, iTup, iStr, iRng1, iRng2, iZip, iEnum, gSub, tSl, rSetL_ref, rCat_ref, rRep_ref, rJoin_ref, rSlL_ref, rSlS_ref, rMulS_ref, rIxL_ref, rIxT_ref, rLenK_ref, rAll_ref, rIn_ref, tLst, tTup, tPar, tPar3, tAug, tPart, tNoPart, tCall, List.getElem?_cons_zero, List.getElem?_cons_succ, List.set_cons_zero, List.set_cons_succ, List.map_cons, List.map_nil, List.append_nil, List.nil_append, List.cons_append, Option.some.injEq, exists_eq_left', exists_eq_left, exists_eq_right, exists_eq_right', exists_eq', V.int.injEq, V.str.injEq, V.bl.injEq, V.ref.injEq, List.cons.injEq, tM0, tM1, rNewStrs, sgn_eq, split_dot, split_sp, split_nl, dot_len, sp_len, nl_len, cxOf_K, L2.start, List.length_cons, List.length_nil, List.replicate_succ, List.replicate_zero, Nat.reduceSub, Nat.zero_add, and_true, true_and, and_self, exists_and_left, exists_const, Bool.false_eq_true, if_false, if_true, ite_true, ite_false, reduceIte, decide_eq_true_eq, reduceCtorEq, Nat.reduceAdd, Nat.reduceLT, tListZip, tCallX, tCallV, tCallVS, tLam1, tLamD, tCls, cx_cells, cx_scope, cx_N, cx_prog, cx_w, cx_base, cx_qual]
      refine ⟨_, .of hr', _, .of hp', lc_map (ws.zip (wds l)) (fun q => V.bl (fit1 q)) (walk_zipm ws (wds l) V.str V.str) (by rw [List.length_zip]; omega) (fun H2 s3 => ⟨s3.seq (.of hr'), s3.seq (.of hp')⟩) (fun i a x H1 H3 R hx s3 hy r => ?_) (fun D H1 nD s3 hD => ?_)⟩
      · obtain ⟨t, y, rfl, ht, rfl, hy⟩ := hy
        cases Option.some.inj (hx.symm.trans hy)
        refine ⟨t, _, rfl, .of upd_same, rfl, ?_⟩
        simp only [tCutE, false_and, exists_false, false_or, or_false, tRet, tRetN, tAndV, tOrV, tNotV, tChain, rI, rI0, rU, tC, tCB, tCons, tNil, tVar, tOp, tUn, tTest, tB, tAnd, tOr, tNot, tIf, tIfS, tSeq, tAsg, tDrop, tNext, gName, gTup_ref, gCons_cons, gNil_nil, and_assoc, tYes, wipe, rEq, rNe, scal_ss, scal_ii, scal_bb, scal_ns, scal_sn, scal_nn, scal_in, scal_ni, tLc_eq, tFor_eq, iList, iTup, iStr, iRng1, iRng2, iZip, iEnum, gSub, tSl, rSetL_ref, rCat_ref, rRep_ref, rJoin_ref, rSlL_ref, rSlS_ref, rMulS_ref, rIxL_ref, rIxT_ref, rLenK_ref, rAll_ref, rIn_ref, tLst, tTup, tPar, tPar3, tAug, tPart, tNoPart, tCall, List.getElem?_cons_zero, List.getElem?_cons_succ, List.set_cons_zero, List.set_cons_succ, List.map_cons, List.map_nil, List.append_nil, List.nil_append, List.cons_append, Option.some.injEq, exists_eq_left', exists_eq_left, exists_eq_right, exists_eq_right', exists_eq', V.int.injEq, V.str.injEq, V.bl.injEq, V.ref.injEq, List.cons.injEq, tM0, tM1, rNewStrs, sgn_eq, split_dot, split_sp, split_nl, dot_len, sp_len, nl_len, cxOf_K, L2.start, List.length_cons, List.length_nil, List.replicate_succ, List.replicate_zero, Nat.reduceSub, Nat.zero_add, and_true, true_and, and_self, exists_and_left, exists_const, Bool.false_eq_true, if_false, if_true, ite_true, ite_false, reduceIte, decide_eq_true_eq, reduceCtorEq, Nat.reduceAdd, Nat.reduceLT, tListZip, tCallX, tCallV, tCallVS, tLam1, tLamD, tCls, cx_cells, cx_scope, cx_N, cx_prog, cx_w, cx_base, cx_qual]
        refine ⟨by decide, fun u hu => ⟨_, .inr (.of upd_same), rfl, rfl, ?_⟩⟩
        have e3 : inV (V.str a.1) [V.str (Str.ofString "*"), V.str a.2] = fit1 a := by
          unfold inV fit1 eqV
          simp only [List.any_cons, List.any_nil, Bool.or_false]
          rw [beq_dec, beq_dec]
        rw [e3]
        exact r _ (same_new (same_new (Same.refl _) ht) hu)
      · refine ⟨D, (ws.zip (wds l)).map fit1, rfl, .of (by rw [hD, List.map_map]; rfl), ?_⟩
        have e4 : doesFit z l = List.all ((ws.zip (wds l)).map fit1) id := by
          rw [e2, List.all_map]; rfl
        rw [← e4]
        exact q _ ((s1.trans s2).trans s3)
/-! ### fits -/
def sp_fits (K : PySem.W.Frag) : Sp := fun vs H Q E => ∃ (z l : Str), vs = [.str z, .str l] ∧ z.length ≤ 10000 ∧ l.length ≤ 5000 ∧ (isPat z = true → isLine l = true → ∀ H', Same H H' → Q (.bl (doesFit z l)) H') ∧
  (isPat z = false → ∀ H', Same H H' → E (.ref (He.ga K "BadPattern")) none H') ∧ (isPat z = true → isLine l = false → ∀ H', Same H H' → E (.ref (He.ga K "BadLine")) none H')
theorem G_fits (T : Tx K mg) : Glob P w K mg base (L2.CX P w) 4 "fits" p_fits [] (sp_fits K) := by
  obtain ⟨fd, F⟩ := T.f_fits
  refine ⟨_, fd, [], F.ok sc_fits (fun vs H Q E h => ?_) (fun cdv A outer s H vs Q E hr h => ?_), T.g_fits, F.kp, .nil, F.bindsN fun _ _ _ _ _ _ us hl => match us, hl with | [_, _], _ => rfl⟩
  · obtain ⟨z, l, rfl, _⟩ := h; rfl
  · obtain ⟨z, l, rfl, hz, hl, q1, q2, q3⟩ := h
    refine ⟨_, (pss_cons (ps_expr (pe_callG (G_need_pattern T) (hr.mono (by decide)) (by rfl) (passes_call (takes_of rfl rfl rfl rfl) (fun _ _ _ _ h => h)) (pa_cons (pv 0) pa_nil)))
      (pss_cons (ps_expr (pe_callG (G_need_line T) (hr.mono (by decide)) (by rfl) (passes_call (takes_of rfl rfl rfl rfl) (fun _ _ _ _ h => h)) (pa_cons (pv 1) pa_nil)))
      (pss_one (ps_ret (pe_callG (G_does_fit T) (hr.mono (by decide)) (by rfl) pass0 (pa_cons (pv 0) (pa_cons (pv 1) pa_nil))))))), ?_⟩
    simp only [tCutE, false_and, exists_false, false_or, or_false, tRet, tRetN, tAndV, tOrV, tNotV, tChain, rI, rI0, rU, tC, tCB, tCons, tNil, tVar, tOp, tUn, tTest, tB, tAnd, tOr, tNot, tIf, tIfS, tSeq, tAsg, tDrop, tNext, gName, gTup_ref, gCons_cons, gNil_nil, and_assoc, tYes, wipe, rEq, rNe, scal_ss, scal_ii, scal_bb, scal_ns, scal_sn, scal_nn, scal_in, scal_ni, tLc_eq, tFor_eq, iList, iTup, iStr, iRng1, iRng2, iZip, iEnum, gSub, tSl, rSetL_ref, rCat_ref, rRep_ref, rJoin_ref, rSlL_ref, rSlS_ref, rMulS_ref, rIxL_ref, rIxT_ref, rLenK_ref, rAll_ref, rIn_ref, tLst, tTup, tPar, tPar3, tAug, tPart, tNoPart, tCall, List.getElem?_cons_zero, List.getElem?_cons_succ, List.set_cons_zero, List.set_cons_succ, List.map_cons, List.map_nil, List.append_nil, List.nil_append, List.cons_append, Option.some.injEq, exists_eq_left', exists_eq_left, exists_eq_right, exists_eq_right', exists_eq', V.int.injEq, V.str.injEq, V.bl.injEq, V.ref.injEq, List.cons.injEq, tM0, tM1, rNewStrs, sgn_eq, split_dot, split_sp, split_nl, dot_len, sp_len, nl_len, cxOf_K, L2.start, List.length_cons, List.length_nil, List.replicate_succ, List.replicate_zero, Nat.reduceSub, Nat.zero_add, and_true, true_and, and_self, exists_and_left, exists_const, Bool.false_eq_true, if_false, if_true, ite_true, ite_false, reduceIte, decide_eq_true_eq, reduceCtorEq, Nat.reduceAdd, Nat.reduceLT, tListZip, tCallX, tCallV, tCallVS, tLam1, tLamD, tCls, cx_cells, cx_scope, cx_N, cx_prog, cx_w, cx_base, cx_qual]
    refine ⟨z, rfl, hz, fun e H1 s1 => ⟨l, rfl, by omega, fun e2 H2 s2 => ⟨z, l, rfl, hz, hl, fun H3 s3 => q1 e e2 _ ((s1.trans s2).trans s3)⟩, fun e2 H2 s2 => q3 e e2 _ (s1.trans s2)⟩, fun e H1 s1 => q2 e _ s1⟩
end
end Hk

set_option Elab.async false
set_option linter.all false
set_option maxRecDepth 100000
set_option maxHeartbeats 4000000
namespace Hk
open PySem PySem.Spec PyProof.Rows L2
open LamX NdefX
section
variable {P : Program} {w : World} {K : PySem.W.Frag} {mg : Str → Option Value} {base : Heap}
/-! ### what is drawn from: a list of a number, the cells and a place -/
def SrcOk (H : Hp) (h l : Addr) : Prop := ∃ (m p : Int) (cs : List Int), H h = some (.lst [.int m, .ref l, .int p]) ∧ H l = some (.lst (cs.map V.int)) ∧ 0 ≤ m ∧ m < 2147483647 ∧ 0 ≤ p ∧ cs.length ≤ 63
abbrev DrS (h l : Addr) : Addr → Prop := fun b => b = h ∨ b = l
theorem SrcOk.ne {H : Hp} {h l : Addr} (s : SrcOk H h l) : h ≠ l := by
  obtain ⟨m, p, cs, e1, e2, _⟩ := s
  intro e; subst e
  rw [e1] at e2
  cases cs with
  | nil => cases e2
  | cons a r =>
    cases r with
    | nil => cases e2
    | cons b r => cases e2
def sp_law_mix (K : PySem.W.Frag) : Sp := fun vs H Q _ => ∃ (a : Addr) (ns : List Int) (sd : Int), vs = [.ref a, .int sd] ∧ SqL K H a (ns.map V.int) ∧ ns.length ≤ 63 ∧ 0 ≤ sd ∧ sd < 2147483647 ∧
  ∀ H' h l, Same H H' → H h = none → H l = none → SrcOk H' h l → Q (.ref h) H'
theorem G_law_mix (T : Tx K mg) : Glob P w K mg base (CX0) 1 "_law_mix" p_law_mix [] (sp_law_mix K) := by
  obtain ⟨fd, F⟩ := T.f_law_mix
  refine ⟨_, fd, [], F.ok sc_law_mix (fun vs H Q E h => ?_) (fun cdv A outer s H vs Q E hr h => ?_), T.g__law_mix, F.kp, .nil, F.bindsN fun _ _ _ _ _ _ us hl => match us, hl with | [_, _], _ => rfl⟩
  · obtain ⟨a, ns, sd, rfl, _⟩ := h; rfl
  · obtain ⟨a, ns, sd, rfl, hS, hn, h0, h1, q⟩ := h
    refine ⟨_, PSs.nox (pss_cons (ps_set (i := 2) sc_law_mix.nd rfl (Or.inl rfl) (pv 1))
      (pss_cons (ps_for PassesOwn.never rfl (pi_listK (K := K) rfl (pv 0)) (pg_name (i := 3) sc_law_mix.nd rfl (Or.inl rfl))
      (pss_one (ps_set (i := 2) sc_law_mix.nd rfl (Or.inl rfl) (pe_op op_mod (pe_op op_add (pe_op op_add (pe_op op_mul (pv 2) pe_int) (pe_op op_mod (pv 3) pe_int)) pe_int) pe_int))))
      (pss_one (ps_ret (pe_lst (pa_cons (pv 2) (pa_cons (pe_callTy (call_list_ofK (K := K) rfl) (by rfl) T.b_list (by decide +kernel) (pa_cons (pv 0) pa_nil)) (pa_cons pe_int pa_nil)))))))), ?_⟩
    simp only [tCutE, false_and, exists_false, false_or, or_false, tRet, tRetN, tAndV, tOrV, tNotV, tChain, rI, rI0, rU, tC, tCB, tCons, tNil, tVar, tOp, tUn, tTest, tB, tAnd, tOr, tNot, tIf, tIfS, tSeq, tAsg, tDrop, tNext, gName, gTup_ref, gCons_cons, gNil_nil, and_assoc, tYes, wipe, rEq, rNe, scal_ss, scal_ii, scal_bb, scal_ns, scal_sn, scal_nn, scal_in, scal_ni, tLc_eq, tFor_eq, iList, iTup, iStr, iRng1, iRng2, iZip, iEnum, gSub, tSl, rSetL_ref, rCat_ref, rRep_ref, rJoin_ref, rSlL_ref, rSlS_ref, rMulS_ref, rIxL_ref, rIxT_ref, rLenK_ref, rAll_ref, rIn_ref, tLst, tTup, tPar, tPar3, tAug, tPart, tNoPart, tCall, List.getElem?_cons_zero, List.getElem?_cons_succ, List.set_cons_zero, List.set_cons_succ, List.map_cons, List.map_nil, List.append_nil, List.nil_append, List.cons_append, Option.some.injEq, exists_eq_left', exists_eq_left, exists_eq_right, exists_eq_right', exists_eq', V.int.injEq, V.str.injEq, V.bl.injEq, V.ref.injEq, List.cons.injEq, tM0, tM1, rNewStrs, sgn_eq, split_dot, split_sp, split_nl, dot_len, sp_len, nl_len, cxOf_K, L2.start, List.length_cons, List.length_nil, List.replicate_succ, List.replicate_zero, Nat.reduceSub, Nat.zero_add, and_true, true_and, and_self, exists_and_left, exists_const, Bool.false_eq_true, if_false, if_true, ite_true, ite_false, reduceIte, decide_eq_true_eq, reduceCtorEq, Nat.reduceAdd, Nat.reduceLT, tListZip, tCallX, tCallV, tCallVS, tLam1, tLamD, tCls, cx_cells, cx_scope, cx_N, cx_prog, cx_w, cx_base, cx_qual]
    refine ⟨⟨_, hS⟩, forG (walk_listm ns V.int) (fun i σ H' => ∃ m c, σ = [some (.ref a), some (.int sd), some (.int m), c] ∧ 0 ≤ m ∧ m < 2147483647 ∧ H' = H) ⟨sd, none, rfl, h0, h1, rfl⟩ (fun i σ H' _ ⟨m, c, _, _, _, e⟩ => by rw [e]; exact hS) (fun i x σ H1 H2 hi hP hy => ?_) (fun σ H1 hP => ?_)⟩
    · obtain ⟨m, c, rfl, hm0, hm1, rfl⟩ := hP
      obtain ⟨rfl, y, hy, rfl⟩ := hy
      simp only [tCutE, false_and, exists_false, false_or, or_false, tRet, tRetN, tAndV, tOrV, tNotV, tChain, rI, rI0, rU, tC, tCB, tCons, tNil, tVar, tOp, tUn, tTest, tB, tAnd, tOr, tNot, tIf, tIfS, tSeq, tAsg, tDrop, tNext, gName, gTup_ref, gCons_cons, gNil_nil, and_assoc, tYes, wipe, rEq, rNe, scal_ss, scal_ii, scal_bb, scal_ns, scal_sn, scal_nn, scal_in, scal_ni, tLc_eq, tFor_eq, iList, iTup, iStr, iRng1, iRng2, iZip, iEnum, gSub, tSl, rSetL_ref, rCat_ref, rRep_ref, rJoin_ref, rSlL_ref, rSlS_ref, rMulS_ref, rIxL_ref, rIxT_ref, rLenK_ref, rAll_ref, rIn_ref, tLst, tTup, tPar, tPar3, tAug, tPart, tNoPart, tCall, List.getElem?_cons_zero, List.getElem?_cons_succ, List.set_cons_zero, List.set_cons_succ, List.map_cons, List.map_nil, List.append_nil, List.nil_append, List.cons_append, Option.some.injEq, exists_eq_left', exists_eq_left, exists_eq_right, exists_eq_right', exists_eq', V.int.injEq, V.str.injEq, V.bl.injEq, V.ref.injEq, List.cons.injEq, tM0, tM1, rNewStrs, sgn_eq, split_dot, split_sp, split_nl, dot_len, sp_len, nl_len, cxOf_K, L2.start, List.length_cons, List.length_nil, List.replicate_succ, List.replicate_zero, Nat.reduceSub, Nat.zero_add, and_true, true_and, and_self, exists_and_left, exists_const, Bool.false_eq_true, if_false, if_true, ite_true, ite_false, reduceIte, decide_eq_true_eq, reduceCtorEq, Nat.reduceAdd, Nat.reduceLT, tListZip, tCallX, tCallV, tCallVS, tLam1, tLamD, tCls, cx_cells, cx_scope, cx_N, cx_prog, cx_w, cx_base, cx_qual]
      refine ⟨.inr ⟨by omega, by omega⟩, by omega, by omega, ?_, ?_⟩
      · exact Int.emod_nonneg _ (by omega)
      · exact Int.emod_lt_of_pos _ (by omega)
    · obtain ⟨m, c, rfl, hm0, hm1, rfl⟩ := hP
      simp only [tCutE, false_and, exists_false, false_or, or_false, tRet, tRetN, tAndV, tOrV, tNotV, tChain, rI, rI0, rU, tC, tCB, tCons, tNil, tVar, tOp, tUn, tTest, tB, tAnd, tOr, tNot, tIf, tIfS, tSeq, tAsg, tDrop, tNext, gName, gTup_ref, gCons_cons, gNil_nil, and_assoc, tYes, wipe, rEq, rNe, scal_ss, scal_ii, scal_bb, scal_ns, scal_sn, scal_nn, scal_in, scal_ni, tLc_eq, tFor_eq, iList, iTup, iStr, iRng1, iRng2, iZip, iEnum, gSub, tSl, rSetL_ref, rCat_ref, rRep_ref, rJoin_ref, rSlL_ref, rSlS_ref, rMulS_ref, rIxL_ref, rIxT_ref, rLenK_ref, rAll_ref, rIn_ref, tLst, tTup, tPar, tPar3, tAug, tPart, tNoPart, tCall, List.getElem?_cons_zero, List.getElem?_cons_succ, List.set_cons_zero, List.set_cons_succ, List.map_cons, List.map_nil, List.append_nil, List.nil_append, List.cons_append, Option.some.injEq, exists_eq_left', exists_eq_left, exists_eq_right, exists_eq_right', exists_eq', V.int.injEq, V.str.injEq, V.bl.injEq, V.ref.injEq, List.cons.injEq, tM0, tM1, rNewStrs, sgn_eq, split_dot, split_sp, split_nl, dot_len, sp_len, nl_len, cxOf_K, L2.start, List.length_cons, List.length_nil, List.replicate_succ, List.replicate_zero, Nat.reduceSub, Nat.zero_add, and_true, true_and, and_self, exists_and_left, exists_const, Bool.false_eq_true, if_false, if_true, ite_true, ite_false, reduceIte, decide_eq_true_eq, reduceCtorEq, Nat.reduceAdd, Nat.reduceLT, tListZip, tCallX, tCallV, tCallVS, tLam1, tLamD, tCls, cx_cells, cx_scope, cx_N, cx_prog, cx_w, cx_base, cx_qual]
      refine ⟨a, _, rfl, .inl hS, fun l hl => ?_⟩
      simp only [tCutE, false_and, exists_false, false_or, or_false, tRet, tRetN, tAndV, tOrV, tNotV, tChain, rI, rI0, rU, tC, tCB, tCons, tNil, tVar, tOp, tUn, tTest, tB, tAnd, tOr, tNot, tIf, tIfS, tSeq, tAsg, tDrop, tNext, gName, gTup_ref, gCons_cons, gNil_nil, and_assoc, tYes, wipe, rEq, rNe, scal_ss, scal_ii, scal_bb, scal_ns, scal_sn, scal_nn, scal_in, scal_ni, tLc_eq, tFor_eq, iList, iTup, iStr, iRng1, iRng2, iZip, iEnum, gSub, tSl, rSetL_ref, rCat_ref, rRep_ref, rJoin_ref, rSlL_ref, rSlS_ref, rMulS_ref, rIxL_ref, rIxT_ref, rLenK_ref, rAll_ref, rIn_ref, tLst, tTup, tPar, tPar3, tAug, tPart, tNoPart, tCall, List.getElem?_cons_zero, List.getElem?_cons_succ, List.set_cons_zero, List.set_cons_succ, List.map_cons, List.map_nil, List.append_nil, List.nil_append, List.cons_append, Option.some.injEq, exists_eq_left', exists_eq_left, exists_eq_right, exists_eq_right', exists_eq', V.int.injEq, V.str.injEq, V.bl.injEq, V.ref.injEq, List.cons.injEq, tM0, tM1, rNewStrs, sgn_eq, split_dot, split_sp, split_nl, dot_len, sp_len, nl_len, cxOf_K, L2.start, List.length_cons, List.length_nil, List.replicate_succ, List.replicate_zero, Nat.reduceSub, Nat.zero_add, and_true, true_and, and_self, exists_and_left, exists_const, Bool.false_eq_true, if_false, if_true, ite_true, ite_false, reduceIte, decide_eq_true_eq, reduceCtorEq, Nat.reduceAdd, Nat.reduceLT, tListZip, tCallX, tCallV, tCallVS, tLam1, tLamD, tCls, cx_cells, cx_scope, cx_N, cx_prog, cx_w, cx_base, cx_qual]
      refine ⟨by decide, fun h hh => ?_⟩
      have nlh : l ≠ h := by
        intro e; subst e
        rw [upd_same] at hh; cases hh
      rw [upd_ne nlh.symm] at hh
      exact q _ h l (same_put (same_put (Same.refl _) hl) hh) hh hl ⟨m, 0, ns, upd_same, by rw [upd_ne nlh, upd_same], hm0, hm1, Int.le_refl _, hn⟩
def sp_law_next : Sp := fun vs H Q _ => ∃ (h l : Addr) (n : Int), vs = [.ref h, .int n] ∧ SrcOk H h l ∧ 0 < n ∧ n < 1073741824 ∧
  ∀ H' r, Ext (DrS h l) H H' → SrcOk H' h l → 0 ≤ r → r < n → Q (.int r) H'
theorem G_law_next (T : Tx K mg) : Glob P w K mg base (CX0) 1 "_law_next" p_law_next [] sp_law_next := by
  obtain ⟨fd, F⟩ := T.f_law_next
  refine ⟨_, fd, [], F.ok sc_law_next (fun vs H Q E h => ?_) (fun cdv A outer s H vs Q E hr h => ?_), T.g__law_next, F.kp, .nil, F.bindsN fun _ _ _ _ _ _ us hl => match us, hl with | [_, _], _ => rfl⟩
  · obtain ⟨h, l, n, rfl, _⟩ := h; rfl
  · obtain ⟨h, l, n, rfl, hS, h0, h1, q⟩ := h
    have hne := hS.ne
    obtain ⟨m, p, cs, e1, e2, hm0, hm1, hp, hc⟩ := hS
    refine ⟨_, PSs.nox (pss_cons (ps_set (i := 2) sc_law_next.nd rfl (Or.inl rfl) (pe_ix (ix_listK (K := K) rfl) (pe_op op_cat (pe_ix (ix_listK (K := K) rfl) (pv 0) pe_int (fun _ _ => rfl)) (pe_lst (pa_cons pe_int pa_nil))) (pe_op op_mod (pe_ix (ix_listK (K := K) rfl) (pv 0) pe_int (fun _ _ => rfl)) (pe_callB (call_max2 rfl) (by rfl) T.b_max (by decide +kernel) (pa_cons pe_int (pa_cons (pe_callB (call_len_seqK (K := K) rfl) (by rfl) T.b_len (by decide +kernel) (pa_cons (pe_ix (ix_listK (K := K) rfl) (pv 0) pe_int (fun _ _ => rfl)) pa_nil)) pa_nil)))) (fun _ _ => rfl)))
      (pss_cons (ps_if (pt_cmpR op_ge (pv 2) (pe_op op_pow pe_int pe_int) (nomark _))
      (pss_cons (ps_asg (pe_op op_fdiv (pv 2) (pv 1)) (pg_sub (pe_ix (ix_listK (K := K) rfl) (pv 0) pe_int (fun _ _ => rfl)) (pe_op op_mod (pe_ix (ix_listK (K := K) rfl) (pv 0) pe_int (fun _ _ => rfl)) (pe_callB (call_len_seqK (K := K) rfl) (by rfl) T.b_len (by decide +kernel) (pa_cons (pe_ix (ix_listK (K := K) rfl) (pv 0) pe_int (fun _ _ => rfl)) pa_nil))) set_list))
      (pss_one (ps_ret (pe_op op_mod (pv 2) (pv 1)))))
      pss_nil)
      (pss_cons (ps_asg (pe_op op_mod (pe_op op_add (pe_op op_add (pe_op op_mul (pe_ix (ix_listK (K := K) rfl) (pv 0) pe_int (fun _ _ => rfl)) pe_int) (pe_op op_mul (pv 2) pe_int)) pe_int) pe_int) (pg_sub (pv 0) pe_int set_list))
      (pss_cons (ps_asg (pe_op op_add (pe_ix (ix_listK (K := K) rfl) (pv 0) pe_int (fun _ _ => rfl)) pe_int) (pg_sub (pv 0) pe_int set_list))
      (pss_one (ps_ret (pe_op op_mod (pe_op op_fdiv (pe_ix (ix_listK (K := K) rfl) (pv 0) pe_int (fun _ _ => rfl)) pe_int) (pv 1)))))))), ?_⟩
    simp only [tCutE, false_and, exists_false, false_or, or_false, tRet, tRetN, tAndV, tOrV, tNotV, tChain, rI, rI0, rU, tC, tCB, tCons, tNil, tVar, tOp, tUn, tTest, tB, tAnd, tOr, tNot, tIf, tIfS, tSeq, tAsg, tDrop, tNext, gName, gTup_ref, gCons_cons, gNil_nil, and_assoc, tYes, wipe, rEq, rNe, scal_ss, scal_ii, scal_bb, scal_ns, scal_sn, scal_nn, scal_in, scal_ni, tLc_eq, tFor_eq, iList, iTup, iStr, iRng1, iRng2, iZip, iEnum, gSub, tSl, rSetL_ref, rCat_ref, rRep_ref, rJoin_ref, rSlL_ref, rSlS_ref, rMulS_ref, rIxL_ref, rIxT_ref, rLenK_ref, rAll_ref, rIn_ref, tLst, tTup, tPar, tPar3, tAug, tPart, tNoPart, tCall, List.getElem?_cons_zero, List.getElem?_cons_succ, List.set_cons_zero, List.set_cons_succ, List.map_cons, List.map_nil, List.append_nil, List.nil_append, List.cons_append, Option.some.injEq, exists_eq_left', exists_eq_left, exists_eq_right, exists_eq_right', exists_eq', V.int.injEq, V.str.injEq, V.bl.injEq, V.ref.injEq, List.cons.injEq, tM0, tM1, rNewStrs, sgn_eq, split_dot, split_sp, split_nl, dot_len, sp_len, nl_len, cxOf_K, L2.start, List.length_cons, List.length_nil, List.replicate_succ, List.replicate_zero, Nat.reduceSub, Nat.zero_add, and_true, true_and, and_self, exists_and_left, exists_const, Bool.false_eq_true, if_false, if_true, ite_true, ite_false, reduceIte, decide_eq_true_eq, reduceCtorEq, Nat.reduceAdd, Nat.reduceLT, tListZip, tCallX, tCallV, tCallVS, tLam1, tLamD, tCls, cx_cells, cx_scope, cx_N, cx_prog, cx_w, cx_base, cx_qual]
    refine ⟨_, .of e1, _, rfl, by decide, fun b hb => ?_⟩
    have nhb : h ≠ b := ne_of_none e1 hb
    have nlb : l ≠ b := ne_of_none e2 hb
    refine ⟨l, b, _, _, rfl, rfl, by rw [upd_ne nlb]; exact e2, upd_same, by rw [List.length_map]; exact small (by simp; omega), fun c hc2 => ?_⟩
    have nbc : b ≠ c := by
      intro e; subst e
      rw [upd_same] at hc2; cases hc2
    have nhc : h ≠ c := by
      intro e; subst e
      rw [upd_ne nhb, e1] at hc2; cases hc2
    have nlc : l ≠ c := by
      intro e; subst e
      rw [upd_ne nlb, e2] at hc2; cases hc2
    have s1 : Ext (DrS h l) H (upd (upd H b (HO.lst [V.int 0])) c (HO.lst (List.map V.int cs ++ [V.int 0]))) := .of_same (same_new (same_put (Same.refl _) hb) hc2)
    have f1 : (upd (upd H b (HO.lst [V.int 0])) c (HO.lst (List.map V.int cs ++ [V.int 0]))) h = some (.lst [.int m, .ref l, .int p]) := by rw [upd_ne nhc, upd_ne nhb]; exact e1
    have f2 : (upd (upd H b (HO.lst [V.int 0])) c (HO.lst (List.map V.int cs ++ [V.int 0]))) l = some (.lst (cs.map V.int)) := by rw [upd_ne nlc, upd_ne nlb]; exact e2
    have f3 : (upd (upd H b (HO.lst [V.int 0])) c (HO.lst (List.map V.int cs ++ [V.int 0]))) c = some (.lst ((cs ++ [0]).map V.int)) := by rw [upd_same, List.map_append]; rfl
    generalize upd (upd H b (HO.lst [V.int 0])) c (HO.lst (List.map V.int cs ++ [V.int 0])) = H1 at s1 f1 f2 f3
    refine ⟨_, .of f1, _, rfl, _, .of f1, _, rfl, ?_⟩
    simp only [tCutE, false_and, exists_false, false_or, or_false, tRet, tRetN, tAndV, tOrV, tNotV, tChain, rI, rI0, rU, tC, tCB, tCons, tNil, tVar, tOp, tUn, tTest, tB, tAnd, tOr, tNot, tIf, tIfS, tSeq, tAsg, tDrop, tNext, gName, gTup_ref, gCons_cons, gNil_nil, and_assoc, tYes, wipe, rEq, rNe, scal_ss, scal_ii, scal_bb, scal_ns, scal_sn, scal_nn, scal_in, scal_ni, tLc_eq, tFor_eq, iList, iTup, iStr, iRng1, iRng2, iZip, iEnum, gSub, tSl, rSetL_ref, rCat_ref, rRep_ref, rJoin_ref, rSlL_ref, rSlS_ref, rMulS_ref, rIxL_ref, rIxT_ref, rLenK_ref, rAll_ref, rIn_ref, tLst, tTup, tPar, tPar3, tAug, tPart, tNoPart, tCall, List.getElem?_cons_zero, List.getElem?_cons_succ, List.set_cons_zero, List.set_cons_succ, List.map_cons, List.map_nil, List.append_nil, List.nil_append, List.cons_append, Option.some.injEq, exists_eq_left', exists_eq_left, exists_eq_right, exists_eq_right', exists_eq', V.int.injEq, V.str.injEq, V.bl.injEq, V.ref.injEq, List.cons.injEq, tM0, tM1, rNewStrs, sgn_eq, split_dot, split_sp, split_nl, dot_len, sp_len, nl_len, cxOf_K, L2.start, List.length_cons, List.length_nil, List.replicate_succ, List.replicate_zero, Nat.reduceSub, Nat.zero_add, and_true, true_and, and_self, exists_and_left, exists_const, Bool.false_eq_true, if_false, if_true, ite_true, ite_false, reduceIte, decide_eq_true_eq, reduceCtorEq, Nat.reduceAdd, Nat.reduceLT, tListZip, tCallX, tCallV, tCallVS, tLam1, tLamD, tCls, cx_cells, cx_scope, cx_N, cx_prog, cx_w, cx_base, cx_qual]
    refine ⟨_, .inl (.of f2), ?_⟩
    rw [List.length_map]
    have hd : (0 : Int) < if (cs.length : Int) > 1 then (cs.length : Int) else 1 := by split <;> omega
    refine ⟨hd, ?_⟩
    have hd1 : (if (cs.length : Int) > 1 then (cs.length : Int) else 1) ≤ (cs ++ [0]).length := by rw [List.length_append]; simp only [List.length_singleton]; split <;> omega
    have hi0 := Int.emod_nonneg p (b := if (cs.length : Int) > 1 then (cs.length : Int) else 1) (by omega)
    have hi1 := Int.emod_lt_of_pos p hd
    generalize hD : (if (cs.length : Int) > 1 then (cs.length : Int) else 1) = D at hd hd1 hi0 hi1
    have hix : ((p % D).toNat : Nat) < (cs ++ [0]).length := by omega
    have hci : (cs ++ [(0 : Int)])[(p % D).toNat]? = some ((cs ++ [0])[(p % D).toNat]) := List.getElem?_eq_getElem hix
    generalize (cs ++ [(0 : Int)])[(p % D).toNat] = cell at hci
    have hat : atI ((cs ++ [0]).map V.int) (p % D) = some (.int cell) := by
      have e : (p % D) = (((p % D).toNat : Nat) : Int) := by omega
      rw [e]
      refine atI_nat ?_
      rw [List.getElem?_map, hci]; rfl
    refine ⟨_, .of f3, _, hat, ⟨by decide, by decide, by decide⟩, _, rfl, ?_⟩
    split
    · rename_i hbig
      have hcs : 0 < cs.length := by
        rcases Nat.eq_zero_or_pos cs.length with e | e
        · exfalso
          have ec : cs = [] := List.eq_nil_of_length_eq_zero e
          subst ec
          have ex : (p % D).toNat = 0 := by simp at hix; omega
          rw [ex] at hci
          have := Option.some.inj hci
          subst this
          exact absurd hbig (by decide)
        · exact e
      simp only [tCutE, false_and, exists_false, false_or, or_false, tRet, tRetN, tAndV, tOrV, tNotV, tChain, rI, rI0, rU, tC, tCB, tCons, tNil, tVar, tOp, tUn, tTest, tB, tAnd, tOr, tNot, tIf, tIfS, tSeq, tAsg, tDrop, tNext, gName, gTup_ref, gCons_cons, gNil_nil, and_assoc, tYes, wipe, rEq, rNe, scal_ss, scal_ii, scal_bb, scal_ns, scal_sn, scal_nn, scal_in, scal_ni, tLc_eq, tFor_eq, iList, iTup, iStr, iRng1, iRng2, iZip, iEnum, gSub, tSl, rSetL_ref, rCat_ref, rRep_ref, rJoin_ref, rSlL_ref, rSlS_ref, rMulS_ref, rIxL_ref, rIxT_ref, rLenK_ref, rAll_ref, rIn_ref, tLst, tTup, tPar, tPar3, tAug, tPart, tNoPart, tCall, List.getElem?_cons_zero, List.getElem?_cons_succ, List.set_cons_zero, List.set_cons_succ, List.map_cons, List.map_nil, List.append_nil, List.nil_append, List.cons_append, Option.some.injEq, exists_eq_left', exists_eq_left, exists_eq_right, exists_eq_right', exists_eq', V.int.injEq, V.str.injEq, V.bl.injEq, V.ref.injEq, List.cons.injEq, tM0, tM1, rNewStrs, sgn_eq, split_dot, split_sp, split_nl, dot_len, sp_len, nl_len, cxOf_K, L2.start, List.length_cons, List.length_nil, List.replicate_succ, List.replicate_zero, Nat.reduceSub, Nat.zero_add, and_true, true_and, and_self, exists_and_left, exists_const, Bool.false_eq_true, if_false, if_true, ite_true, ite_false, reduceIte, decide_eq_true_eq, reduceCtorEq, Nat.reduceAdd, Nat.reduceLT, tListZip, tCallX, tCallV, tCallVS, tLam1, tLamD, tCls, cx_cells, cx_scope, cx_N, cx_prog, cx_w, cx_base, cx_qual]
      refine ⟨⟨h0, h1⟩, _, .of f1, _, rfl, _, .of f1, _, rfl, _, .of f1, _, rfl, ?_⟩
      simp only [tCutE, false_and, exists_false, false_or, or_false, tRet, tRetN, tAndV, tOrV, tNotV, tChain, rI, rI0, rU, tC, tCB, tCons, tNil, tVar, tOp, tUn, tTest, tB, tAnd, tOr, tNot, tIf, tIfS, tSeq, tAsg, tDrop, tNext, gName, gTup_ref, gCons_cons, gNil_nil, and_assoc, tYes, wipe, rEq, rNe, scal_ss, scal_ii, scal_bb, scal_ns, scal_sn, scal_nn, scal_in, scal_ni, tLc_eq, tFor_eq, iList, iTup, iStr, iRng1, iRng2, iZip, iEnum, gSub, tSl, rSetL_ref, rCat_ref, rRep_ref, rJoin_ref, rSlL_ref, rSlS_ref, rMulS_ref, rIxL_ref, rIxT_ref, rLenK_ref, rAll_ref, rIn_ref, tLst, tTup, tPar, tPar3, tAug, tPart, tNoPart, tCall, List.getElem?_cons_zero, List.getElem?_cons_succ, List.set_cons_zero, List.set_cons_succ, List.map_cons, List.map_nil, List.append_nil, List.nil_append, List.cons_append, Option.some.injEq, exists_eq_left', exists_eq_left, exists_eq_right, exists_eq_right', exists_eq', V.int.injEq, V.str.injEq, V.bl.injEq, V.ref.injEq, List.cons.injEq, tM0, tM1, rNewStrs, sgn_eq, split_dot, split_sp, split_nl, dot_len, sp_len, nl_len, cxOf_K, L2.start, List.length_cons, List.length_nil, List.replicate_succ, List.replicate_zero, Nat.reduceSub, Nat.zero_add, and_true, true_and, and_self, exists_and_left, exists_const, Bool.false_eq_true, if_false, if_true, ite_true, ite_false, reduceIte, decide_eq_true_eq, reduceCtorEq, Nat.reduceAdd, Nat.reduceLT, tListZip, tCallX, tCallV, tCallVS, tLam1, tLamD, tCls, cx_cells, cx_scope, cx_N, cx_prog, cx_w, cx_base, cx_qual]
      refine ⟨_, .inl (.of f2), ?_⟩
      rw [List.length_map]
      have hr0 := Int.emod_nonneg p (b := (cs.length : Int)) (by omega)
      have hr1 := Int.emod_lt_of_pos p (b := (cs.length : Int)) (by omega)
      refine ⟨by omega, _, f2, _, ixN_in hr0 (by rw [List.length_map]; exact hr1), h0, ?_⟩
      refine q _ _ (s1.trans ((Ext.refl _ _).put (.inr (.inr rfl)))) ⟨m, p, cs.set (p % (cs.length : Int)).toNat (cell / n), by rw [upd_ne hne]; exact f1, by rw [upd_same, List.map_set], hm0, hm1, hp, by rw [List.length_set]; exact hc⟩ (Int.emod_nonneg _ (by omega)) (Int.emod_lt_of_pos _ h0)
    · rename_i hsm
      simp only [tCutE, false_and, exists_false, false_or, or_false, tRet, tRetN, tAndV, tOrV, tNotV, tChain, rI, rI0, rU, tC, tCB, tCons, tNil, tVar, tOp, tUn, tTest, tB, tAnd, tOr, tNot, tIf, tIfS, tSeq, tAsg, tDrop, tNext, gName, gTup_ref, gCons_cons, gNil_nil, and_assoc, tYes, wipe, rEq, rNe, scal_ss, scal_ii, scal_bb, scal_ns, scal_sn, scal_nn, scal_in, scal_ni, tLc_eq, tFor_eq, iList, iTup, iStr, iRng1, iRng2, iZip, iEnum, gSub, tSl, rSetL_ref, rCat_ref, rRep_ref, rJoin_ref, rSlL_ref, rSlS_ref, rMulS_ref, rIxL_ref, rIxT_ref, rLenK_ref, rAll_ref, rIn_ref, tLst, tTup, tPar, tPar3, tAug, tPart, tNoPart, tCall, List.getElem?_cons_zero, List.getElem?_cons_succ, List.set_cons_zero, List.set_cons_succ, List.map_cons, List.map_nil, List.append_nil, List.nil_append, List.cons_append, Option.some.injEq, exists_eq_left', exists_eq_left, exists_eq_right, exists_eq_right', exists_eq', V.int.injEq, V.str.injEq, V.bl.injEq, V.ref.injEq, List.cons.injEq, tM0, tM1, rNewStrs, sgn_eq, split_dot, split_sp, split_nl, dot_len, sp_len, nl_len, cxOf_K, L2.start, List.length_cons, List.length_nil, List.replicate_succ, List.replicate_zero, Nat.reduceSub, Nat.zero_add, and_true, true_and, and_self, exists_and_left, exists_const, Bool.false_eq_true, if_false, if_true, ite_true, ite_false, reduceIte, decide_eq_true_eq, reduceCtorEq, Nat.reduceAdd, Nat.reduceLT, tListZip, tCallX, tCallV, tCallVS, tLam1, tLamD, tCls, cx_cells, cx_scope, cx_N, cx_prog, cx_w, cx_base, cx_qual]
      refine ⟨_, .of f1, _, rfl, _, rfl, .inr ⟨by decide, by decide⟩, .inr ⟨by decide, by decide⟩, by decide, _, f1, 0, rfl, _, .of upd_same, _, rfl, _, rfl, _, upd_same, 2, rfl, _, .of upd_same, _, rfl, _, rfl, ⟨by decide, by decide⟩, h0, ?_⟩
      refine q _ _ (s1.trans (((Ext.refl _ _).put (.inr (.inl rfl))).put (.inr (.inl rfl)))) ⟨_, _, cs, upd_same, by rw [upd_ne hne.symm, upd_ne hne.symm]; exact f2, Int.emod_nonneg _ (by decide), Int.emod_lt_of_pos _ (by decide), by omega, hc⟩ (Int.emod_nonneg _ (by omega)) (Int.emod_lt_of_pos _ h0)
theorem SrcOk.put {H : Hp} {h l D : Addr} {o : HO} (s : SrcOk H h l) (n1 : D ≠ h) (n2 : D ≠ l) : SrcOk (upd H D o) h l := by
  obtain ⟨m, p, cs, e1, e2, r⟩ := s
  exact ⟨m, p, cs, by rw [upd_ne n1.symm]; exact e1, by rw [upd_ne n2.symm]; exact e2, r⟩
theorem SrcOk.neD {H : Hp} {h l D : Addr} (s : SrcOk H h l) (n : H D = none) : D ≠ h ∧ D ≠ l := by
  obtain ⟨m, p, cs, e1, e2, r⟩ := s
  exact ⟨(ne_of_none e1 n).symm, (ne_of_none e2 n).symm⟩
theorem SrcOk.new {H : Hp} {h l D : Addr} {o : HO} (s : SrcOk H h l) (n : H D = none) : SrcOk (upd H D o) h l := s.put (s.neD n).1 (s.neD n).2
theorem Ext.new {S : Addr → Prop} {H H1 : Hp} {p : Addr} {o : HO} (s : Ext S H H1) (n : H1 p = none) (hS : ¬ S p) : Ext S H (upd H1 p o) := s.put (.inl (s.free hS n))
theorem SrcOk.nD {H : Hp} {h l D : Addr} (s : SrcOk H h l) (n : H D = none) : ¬ DrS h l D := fun z => z.elim (s.neD n).1 (s.neD n).2
theorem SrcOk.same {H H' : Hp} {h l : Addr} (s : SrcOk H h l) (e : Same H H') : SrcOk H' h l := by
  obtain ⟨m, pp, cs, e1, e2, r⟩ := s
  exact ⟨m, pp, cs, e _ _ e1, e _ _ e2, r⟩
theorem SrcOk.off {H : Hp} {h l D : Addr} (s : SrcOk H h l) (n1 : D ≠ h) (n2 : D ≠ l) : SrcOk (offA D H) h l := by
  obtain ⟨m, pp, cs, e1, e2, r⟩ := s
  exact ⟨m, pp, cs, by rw [offA_ne n1.symm]; exact e1, by rw [offA_ne n2.symm]; exact e2, r⟩
theorem SrcOk.tups {H H' : Hp} {h l : Addr} (s : SrcOk H h l) (e : Ext (DrS h l) H H') : ∀ t x, H t = some (.tup x) → H' t = some (.tup x) := fun t x ht => by
  obtain ⟨m, pp, cs, e1, e2, r⟩ := s
  refine e t _ (fun z => ?_) ht
  rcases z with z | z
  · rw [z, e1] at ht; cases ht
  · rw [z, e2] at ht; cases ht
end
end Hk

set_option Elab.async false
set_option linter.all false
set_option maxRecDepth 100000
set_option maxHeartbeats 4000000
namespace Hk
open PySem PySem.Spec PyProof.Rows L2
open LamX NdefX
open TL
section
variable {P : Program} {w : World} {K : PySem.W.Frag} {mg : Str → Option Value} {base : Heap}
def sp_narrower (K : PySem.W.Frag) : Sp := fun vs H Q E => ∃ p q : Str, vs = [.str p, .str q] ∧ p.length ≤ 5000 ∧ q.length ≤ 5000 ∧ (isPat p = true → isPat q = true → ∀ H', Same H H' → Q (.bl (narrowerM p q)) H') ∧
  (isPat p = true → isPat q = false → ∀ H', Same H H' → E (.ref (He.ga K "BadPattern")) none H') ∧ (isPat p = false → ∀ H', Same H H' → E (.ref (He.ga K "BadPattern")) none H')
theorem G_narrower (T : Tx K mg) : Glob P w K mg base (L2.CX P w) 4 "narrower" p_narrower [] (sp_narrower K) := by
  obtain ⟨fd, F⟩ := T.f_narrower
  refine ⟨_, fd, [], F.ok sc_narrower (fun vs H Q E h => ?_) (fun cdv A outer s H vs Q E hr h => ?_), T.g_narrower, F.kp, .nil, F.bindsN fun _ _ _ _ _ _ us hl => match us, hl with | [_, _], _ => rfl⟩
  · obtain ⟨p, q, rfl, _⟩ := h; rfl
  · obtain ⟨p, q, rfl, hp, hq, q1, q2, q3⟩ := h
    refine ⟨_, (pss_cons (ps_expr (pe_callG (G_need_pattern T) (hr.mono (by decide)) (by rfl) (passes_call (takes_of rfl rfl rfl rfl) (fun _ _ _ _ h => h)) (pa_cons (pv 0) pa_nil)))
      (pss_cons (ps_expr (pe_callG (G_need_pattern T) (hr.mono (by decide)) (by rfl) (passes_call (takes_of rfl rfl rfl rfl) (fun _ _ _ _ h => h)) (pa_cons (pv 1) pa_nil)))
      (pss_cons (ps_for (passes_of rfl) rfl (pi_range2 (by rfl) T.b_range (pa_cons pe_int (pa_cons (pe_op op_add (pe_gi T.c_MOST_WORDS (by rfl)) pe_int) pa_nil))) (pg_name (i := 2) sc_narrower.nd rfl (Or.inl rfl))
      (pss_cons (ps_par (i := 3) (j := 4) rfl sc_narrower.nd rfl rfl (by decide) rfl rfl (pa_cons (pe_callG (G_of_length T) (hr.mono (by decide)) (by rfl) pass0 (pa_cons (pv 0) (pa_cons (pv 2) pa_nil))) (pa_cons (pe_callG (G_of_length T) (hr.mono (by decide)) (by rfl) pass0 (pa_cons (pv 1) (pa_cons (pv 2) pa_nil))) pa_nil)) (by rfl))
      (pss_one (ps_if (pt_cmpR op_notN (pv 3) pe_non (nomark _))
      (pss_one (ps_if (PW.pt (pw_or (pt_cmpR op_isN (pv 4) pe_non (nomark _)) (pw_or1 (pt_not (pt_val (pe_callB (cr_allK (K := K) rfl rfl) (by rfl) T.b_all (by decide +kernel) (pa_cons (pe_lc (own := [("part", 5), ("word", 6)]) (g := (gTup K 2 (gCons (gName 5) (gCons (gName 6) gNil)))) (tt := tYes) rfl sc_narrower.nd (pi_zipK (K := K) rfl (by rfl) T.b_zip (pa_cons (pv 3) (pa_cons (pv 4) pa_nil))) (blkOk_by (by kernel_rfl)) (fun _ _ _ _ _ => (pg_tupK (K := K) rfl rfl (pgs_cons (pg_name (i := 5) sc_narrower.nd rfl (Or.inl rfl)) (pgs_cons (pg_name (i := 6) sc_narrower.nd rfl (Or.inl rfl)) pgs_nil)))) (fun _ _ _ _ _ => pts_nil) (fun _ _ _ _ _ => (pe_cmpR (op_in_seqK (K := K) rfl) (pv 6) (pe_tup (pa_cons (pe_gs T.c_ANY (by rfl)) (pa_cons (pv 5) pa_nil))) (by rfl)))) pa_nil)))))))
      (pss_one (ps_ret pe_bl))
      pss_nil))
      pss_nil))))
      (pss_one (ps_ret pe_bl))))), ?_⟩
    simp only [tCutE, false_and, exists_false, false_or, or_false, tRet, tRetN, tAndV, tOrV, tNotV, tChain, rI, rI0, rU, tC, tCB, tCons, tNil, tVar, tOp, tUn, tTest, tB, tAnd, tOr, tNot, tIf, tIfS, tSeq, tAsg, tDrop, tNext, gName, gTup_ref, gCons_cons, gNil_nil, and_assoc, tYes, wipe, rEq, rNe, scal_ss, scal_ii, scal_bb, scal_ns, scal_sn, scal_nn, scal_in, scal_ni, tLc_eq, tFor_eq, iList, iTup, iStr, iRng1, iRng2, iZip, iEnum, gSub, tSl, rSetL_ref, rCat_ref, rRep_ref, rJoin_ref, rSlL_ref, rSlS_ref, rMulS_ref, rIxL_ref, rIxT_ref, rLenK_ref, rAll_ref, rIn_ref, tLst, tTup, tPar, tPar3, tAug, tPart, tNoPart, tCall, List.getElem?_cons_zero, List.getElem?_cons_succ, List.set_cons_zero, List.set_cons_succ, List.map_cons, List.map_nil, List.append_nil, List.nil_append, List.cons_append, Option.some.injEq, exists_eq_left', exists_eq_left, exists_eq_right, exists_eq_right', exists_eq', V.int.injEq, V.str.injEq, V.bl.injEq, V.ref.injEq, List.cons.injEq, tM0, tM1, rNewStrs, sgn_eq, split_dot, split_sp, split_nl, dot_len, sp_len, nl_len, cxOf_K, L2.start, List.length_cons, List.length_nil, List.replicate_succ, List.replicate_zero, Nat.reduceSub, Nat.zero_add, and_true, true_and, and_self, exists_and_left, exists_const, Bool.false_eq_true, if_false, if_true, ite_true, ite_false, reduceIte, decide_eq_true_eq, reduceCtorEq, Nat.reduceAdd, Nat.reduceLT, tListZip, tCallX, tCallV, tCallVS, tLam1, tLamD, tCls, cx_cells, cx_scope, cx_N, cx_prog, cx_w, cx_base, cx_qual]
    refine ⟨p, rfl, by omega, fun g1 H1 s1 => ⟨q, rfl, by omega, fun g2 H2 s2 => ⟨by decide, by decide, by decide, by decide, ?_⟩, fun g2 H2 s2 => q2 g1 g2 _ (s1.trans s2)⟩, fun g1 H1 s1 => q3 g1 _ s1⟩
    have s2 := s1.trans s2
    obtain ⟨Pv, hPv⟩ : ∃ Pv : Nat → L2.St → Hp → Prop, ∀ i σ H', Pv i σ H' ↔ ∃ a b c d e, σ = [some (.str p), some (.str q), a, b, c, d, e] ∧ Same H H' ∧ (List.range i).all (nar1 p q) = true := ⟨_, fun _ _ _ => Iff.rfl⟩
    refine forG walk_range Pv ((hPv _ _ _).mpr ⟨_, _, _, _, _, rfl, s2, rfl⟩) (fun _ _ _ _ _ => trivial) (fun i x σ Ha Hb hi hP hy => ?_) (fun σ Ha hP => ?_)
    · obtain ⟨rfl, rfl⟩ := hy
      obtain ⟨a, b, c, d, e, rfl, sa, hall⟩ := (hPv _ _ _).mp hP
      have hi6 : i < 6 := hi
      simp only [tCutE, false_and, exists_false, false_or, or_false, tRet, tRetN, tAndV, tOrV, tNotV, tChain, rI, rI0, rU, tC, tCB, tCons, tNil, tVar, tOp, tUn, tTest, tB, tAnd, tOr, tNot, tIf, tIfS, tSeq, tAsg, tDrop, tNext, gName, gTup_ref, gCons_cons, gNil_nil, and_assoc, tYes, wipe, rEq, rNe, scal_ss, scal_ii, scal_bb, scal_ns, scal_sn, scal_nn, scal_in, scal_ni, tLc_eq, tFor_eq, iList, iTup, iStr, iRng1, iRng2, iZip, iEnum, gSub, tSl, rSetL_ref, rCat_ref, rRep_ref, rJoin_ref, rSlL_ref, rSlS_ref, rMulS_ref, rIxL_ref, rIxT_ref, rLenK_ref, rAll_ref, rIn_ref, tLst, tTup, tPar, tPar3, tAug, tPart, tNoPart, tCall, List.getElem?_cons_zero, List.getElem?_cons_succ, List.set_cons_zero, List.set_cons_succ, List.map_cons, List.map_nil, List.append_nil, List.nil_append, List.cons_append, Option.some.injEq, exists_eq_left', exists_eq_left, exists_eq_right, exists_eq_right', exists_eq', V.int.injEq, V.str.injEq, V.bl.injEq, V.ref.injEq, List.cons.injEq, tM0, tM1, rNewStrs, sgn_eq, split_dot, split_sp, split_nl, dot_len, sp_len, nl_len, cxOf_K, L2.start, List.length_cons, List.length_nil, List.replicate_succ, List.replicate_zero, Nat.reduceSub, Nat.zero_add, and_true, true_and, and_self, exists_and_left, exists_const, Bool.false_eq_true, if_false, if_true, ite_true, ite_false, reduceIte, decide_eq_true_eq, reduceCtorEq, Nat.reduceAdd, Nat.reduceLT, tListZip, tCallX, tCallV, tCallVS, tLam1, tLamD, tCls, cx_cells, cx_scope, cx_N, cx_prog, cx_w, cx_base, cx_qual]
      have ei : (1 : Int) + (i : Int) = (i : Int) + 1 := by omega
      rw [ei]
      refine ⟨p, _, rfl, by omega, by omega, by omega, fun e1 H3 s3 => ?_, fun ms e1 H3 r3 s3 hr3 hr3' => ?_⟩
      · have hn : nar1 p q i = true := by unfold nar1; rw [e1]
        refine ⟨q, _, rfl, by omega, by omega, by omega, fun e2 H4 s4 => ?_, fun ts e2 H4 r4 s4 hr4 hr4' => ?_⟩
        · exact ifN (by simp) ((hPv _ _ _).mpr ⟨_, _, _, _, _, rfl, (sa.trans s3).trans s4, range_all (n := 6) hall hn⟩)
        · exact ifN (by simp) ((hPv _ _ _).mpr ⟨_, _, _, _, _, rfl, (sa.trans s3).trans s4, range_all (n := 6) hall hn⟩)
      · refine ⟨q, _, rfl, by omega, by omega, by omega, fun e2 H4 s4 => ?_, fun ts e2 H4 r4 s4 hr4 hr4' => ?_⟩
        · have hn : nar1 p q i = false := by unfold nar1; rw [e1]; simp only; rw [e2]
          refine ifP (by simp) (ifP rfl ?_)
          have := range_not (n := 6) hi6 hn
          rw [← this]
          exact q1 g1 g2 _ ((sa.trans s3).trans s4)
        · refine ifP (by simp) (ifN (by simp) ?_)
          have l1 := ofLen_len e1
          have l2 := ofLen_len e2
          have hr3'' := s4 _ _ hr3'
          simp only [tCutE, false_and, exists_false, false_or, or_false, tRet, tRetN, tAndV, tOrV, tNotV, tChain, rI, rI0, rU, tC, tCB, tCons, tNil, tVar, tOp, tUn, tTest, tB, tAnd, tOr, tNot, tIf, tIfS, tSeq, tAsg, tDrop, tNext, gName, gTup_ref, gCons_cons, gNil_nil, and_assoc, tYes, wipe, rEq, rNe, scal_ss, scal_ii, scal_bb, scal_ns, scal_sn, scal_nn, scal_in, scal_ni, tLc_eq, tFor_eq, iList, iTup, iStr, iRng1, iRng2, iZip, iEnum, gSub, tSl, rSetL_ref, rCat_ref, rRep_ref, rJoin_ref, rSlL_ref, rSlS_ref, rMulS_ref, rIxL_ref, rIxT_ref, rLenK_ref, rAll_ref, rIn_ref, tLst, tTup, tPar, tPar3, tAug, tPart, tNoPart, tCall, List.getElem?_cons_zero, List.getElem?_cons_succ, List.set_cons_zero, List.set_cons_succ, List.map_cons, List.map_nil, List.append_nil, List.nil_append, List.cons_append, Option.some.injEq, exists_eq_left', exists_eq_left, exists_eq_right, exists_eq_right', exists_eq', V.int.injEq, V.str.injEq, V.bl.injEq, V.ref.injEq, List.cons.injEq, tM0, tM1, rNewStrs, sgn_eq, split_dot, split_sp, split_nl, dot_len, sp_len, nl_len, cxOf_K, L2.start, List.length_cons, List.length_nil, List.replicate_succ, List.replicate_zero, Nat.reduceSub, Nat.zero_add, and_true, true_and, and_self, exists_and_left, exists_const, Bool.false_eq_true, if_false, if_true, ite_true, ite_false, reduceIte, decide_eq_true_eq, reduceCtorEq, Nat.reduceAdd, Nat.reduceLT, tListZip, tCallX, tCallV, tCallVS, tLam1, tLamD, tCls, cx_cells, cx_scope, cx_N, cx_prog, cx_w, cx_base, cx_qual]
          refine ⟨_, .of hr3'', _, .of hr4', lc_map (ms.zip ts) (fun x => V.bl (decide (x.2 = ("*" : Str)) || decide (x.2 = x.1))) (walk_zipm ms ts V.str V.str) (by rw [List.length_zip]; omega) (fun H5 s5 => ⟨s5.seq (.of hr3''), s5.seq (.of hr4')⟩) (fun j a x H5 H6 R hx s5 hy r => ?_) (fun D H5 nD s5 hD => ?_)⟩
          · obtain ⟨t, y, rfl, ht, rfl, hy⟩ := hy
            cases Option.some.inj (hx.symm.trans hy)
            refine ⟨t, _, rfl, .of upd_same, rfl, ?_⟩
            simp only [tCutE, false_and, exists_false, false_or, or_false, tRet, tRetN, tAndV, tOrV, tNotV, tChain, rI, rI0, rU, tC, tCB, tCons, tNil, tVar, tOp, tUn, tTest, tB, tAnd, tOr, tNot, tIf, tIfS, tSeq, tAsg, tDrop, tNext, gName, gTup_ref, gCons_cons, gNil_nil, and_assoc, tYes, wipe, rEq, rNe, scal_ss, scal_ii, scal_bb, scal_ns, scal_sn, scal_nn, scal_in, scal_ni, tLc_eq, tFor_eq, iList, iTup, iStr, iRng1, iRng2, iZip, iEnum, gSub, tSl, rSetL_ref, rCat_ref, rRep_ref, rJoin_ref, rSlL_ref, rSlS_ref, rMulS_ref, rIxL_ref, rIxT_ref, rLenK_ref, rAll_ref, rIn_ref, tLst, tTup, tPar, tPar3, tAug, tPart, tNoPart, tCall, List.getElem?_cons_zero, List.getElem?_cons_succ, List.set_cons_zero, List.set_cons_succ, List.map_cons, List.map_nil, List.append_nil, List.nil_append, List.cons_append, Option.some.injEq, exists_eq_left', exists_eq_left, exists_eq_right, exists_eq_right', exists_eq', V.int.injEq, V.str.injEq, V.bl.injEq, V.ref.injEq, List.cons.injEq, tM0, tM1, rNewStrs, sgn_eq, split_dot, split_sp, split_nl, dot_len, sp_len, nl_len, cxOf_K, L2.start, List.length_cons, List.length_nil, List.replicate_succ, List.replicate_zero, Nat.reduceSub, Nat.zero_add, and_true, true_and, and_self, exists_and_left, exists_const, Bool.false_eq_true, if_false, if_true, ite_true, ite_false, reduceIte, decide_eq_true_eq, reduceCtorEq, Nat.reduceAdd, Nat.reduceLT, tListZip, tCallX, tCallV, tCallVS, tLam1, tLamD, tCls, cx_cells, cx_scope, cx_N, cx_prog, cx_w, cx_base, cx_qual]
            refine ⟨by decide, fun u hu => ⟨_, .inr (.of upd_same), rfl, rfl, ?_⟩⟩
            have e3 : inV (V.str a.2) [V.str (Str.ofString "*"), V.str a.1] = (decide (a.2 = ("*" : Str)) || decide (a.2 = a.1)) := by
              unfold inV eqV
              simp only [List.any_cons, List.any_nil, Bool.or_false]
              rw [beq_dec, beq_dec]
            rw [e3]
            exact r _ (same_new (same_new (Same.refl _) ht) hu)
          · refine ⟨D, (ms.zip ts).map (fun x => decide (x.2 = ("*" : Str)) || decide (x.2 = x.1)), rfl, .of (by rw [hD, List.map_map]; rfl), _, rfl, ?_⟩
            have hn : nar1 p q i = List.all ((ms.zip ts).map (fun x => decide (x.2 = ("*" : Str)) || decide (x.2 = x.1))) id := by
              unfold nar1; rw [e1]; simp only; rw [e2, List.all_map]; rfl
            rw [← hn]
            have s6 := ((sa.trans s3).trans s4).trans s5
            cases hv : nar1 p q i with
            | true => exact ifN (by simp) ((hPv _ _ _).mpr ⟨_, _, _, _, _, rfl, s6, range_all (n := 6) hall hv⟩)
            | false =>
              refine ifP (by simp) ?_
              have := range_not (n := 6) hi6 hv
              rw [← this]
              exact q1 g1 g2 _ s6
    · obtain ⟨a, b, c, d, e, rfl, sa, hall⟩ := (hPv _ _ _).mp hP
      simp only [tCutE, false_and, exists_false, false_or, or_false, tRet, tRetN, tAndV, tOrV, tNotV, tChain, rI, rI0, rU, tC, tCB, tCons, tNil, tVar, tOp, tUn, tTest, tB, tAnd, tOr, tNot, tIf, tIfS, tSeq, tAsg, tDrop, tNext, gName, gTup_ref, gCons_cons, gNil_nil, and_assoc, tYes, wipe, rEq, rNe, scal_ss, scal_ii, scal_bb, scal_ns, scal_sn, scal_nn, scal_in, scal_ni, tLc_eq, tFor_eq, iList, iTup, iStr, iRng1, iRng2, iZip, iEnum, gSub, tSl, rSetL_ref, rCat_ref, rRep_ref, rJoin_ref, rSlL_ref, rSlS_ref, rMulS_ref, rIxL_ref, rIxT_ref, rLenK_ref, rAll_ref, rIn_ref, tLst, tTup, tPar, tPar3, tAug, tPart, tNoPart, tCall, List.getElem?_cons_zero, List.getElem?_cons_succ, List.set_cons_zero, List.set_cons_succ, List.map_cons, List.map_nil, List.append_nil, List.nil_append, List.cons_append, Option.some.injEq, exists_eq_left', exists_eq_left, exists_eq_right, exists_eq_right', exists_eq', V.int.injEq, V.str.injEq, V.bl.injEq, V.ref.injEq, List.cons.injEq, tM0, tM1, rNewStrs, sgn_eq, split_dot, split_sp, split_nl, dot_len, sp_len, nl_len, cxOf_K, L2.start, List.length_cons, List.length_nil, List.replicate_succ, List.replicate_zero, Nat.reduceSub, Nat.zero_add, and_true, true_and, and_self, exists_and_left, exists_const, Bool.false_eq_true, if_false, if_true, ite_true, ite_false, reduceIte, decide_eq_true_eq, reduceCtorEq, Nat.reduceAdd, Nat.reduceLT, tListZip, tCallX, tCallV, tCallVS, tLam1, tLamD, tCls, cx_cells, cx_scope, cx_N, cx_prog, cx_w, cx_base, cx_qual]
      have : narrowerM p q = true := hall
      rw [← this]
      exact q1 g1 g2 _ sa
def sp_met : Sp := fun vs H Q _ => ∃ x : Str × Str, vs = [.str x.1, .str x.2] ∧ Q (.str (met1 x)) H
theorem G_met (T : Tx K mg) : Glob P w K mg base (CX0) 1 "met" p_met [] sp_met := by
  obtain ⟨fd, F⟩ := T.f_met
  refine ⟨_, fd, [], F.ok sc_met (fun vs H Q E h => ?_) (fun cdv A outer s H vs Q E hr h => ?_), T.g_met, F.kp, .nil, F.bindsN fun _ _ _ _ _ _ us hl => match us, hl with | [_, _], _ => rfl⟩
  · obtain ⟨x, rfl, _⟩ := h; rfl
  · obtain ⟨x, rfl, q⟩ := h
    refine ⟨_, PSs.nox (pss_cons (ps_if (PW.pt (pw_and (pt_cmpR op_eq (pv 0) (pe_gs T.c_ANY (by rfl)) (nomark _)) (pw_and1 (pt_cmpR op_eq (pv 1) (pe_gs T.c_ANY (by rfl)) (nomark _)))))
      (pss_one (ps_ret pe_str))
      pss_nil)
      (pss_one (ps_ret (pe_ifExp (pt_cmpR op_eq (pv 0) (pe_gs T.c_ANY (by rfl)) (nomark _)) (pv 1) (pv 0))))), ?_⟩
    simp only [tCutE, false_and, exists_false, false_or, or_false, tRet, tRetN, tAndV, tOrV, tNotV, tChain, rI, rI0, rU, tC, tCB, tCons, tNil, tVar, tOp, tUn, tTest, tB, tAnd, tOr, tNot, tIf, tIfS, tSeq, tAsg, tDrop, tNext, gName, gTup_ref, gCons_cons, gNil_nil, and_assoc, tYes, wipe, rEq, rNe, scal_ss, scal_ii, scal_bb, scal_ns, scal_sn, scal_nn, scal_in, scal_ni, tLc_eq, tFor_eq, iList, iTup, iStr, iRng1, iRng2, iZip, iEnum, gSub, tSl, rSetL_ref, rCat_ref, rRep_ref, rJoin_ref, rSlL_ref, rSlS_ref, rMulS_ref, rIxL_ref, rIxT_ref, rLenK_ref, rAll_ref, rIn_ref, tLst, tTup, tPar, tPar3, tAug, tPart, tNoPart, tCall, List.getElem?_cons_zero, List.getElem?_cons_succ, List.set_cons_zero, List.set_cons_succ, List.map_cons, List.map_nil, List.append_nil, List.nil_append, List.cons_append, Option.some.injEq, exists_eq_left', exists_eq_left, exists_eq_right, exists_eq_right', exists_eq', V.int.injEq, V.str.injEq, V.bl.injEq, V.ref.injEq, List.cons.injEq, tM0, tM1, rNewStrs, sgn_eq, split_dot, split_sp, split_nl, dot_len, sp_len, nl_len, cxOf_K, L2.start, List.length_cons, List.length_nil, List.replicate_succ, List.replicate_zero, Nat.reduceSub, Nat.zero_add, and_true, true_and, and_self, exists_and_left, exists_const, Bool.false_eq_true, if_false, if_true, ite_true, ite_false, reduceIte, decide_eq_true_eq, reduceCtorEq, Nat.reduceAdd, Nat.reduceLT, tListZip, tCallX, tCallV, tCallVS, tLam1, tLamD, tCls, cx_cells, cx_scope, cx_N, cx_prog, cx_w, cx_base, cx_qual]
    unfold met1 at q
    by_cases h1 : x.1 = ("*" : Str)
    · by_cases h2 : x.2 = ("*" : Str)
      · rw [if_pos ⟨h1, h2⟩] at q
        exact ifP h1 (ifP h2 q)
      · rw [if_neg (fun z => h2 z.2), if_pos h1] at q
        exact ifP h1 (ifN h2 (ifP h1 q))
    · rw [if_neg (fun z => h1 z.1), if_neg h1] at q
      exact ifN h1 (ifN h1 q)
theorem ofLen_each {p : Str} {n : Int} {ws : List Str} (h : ofLen p n = some ws) : ∀ w ∈ ws, w.length ≤ p.length + 1 := by
  intro w hw
  unfold ofLen at h
  simp only at h
  have e1 : Str.length ("*" : Str) = 1 := by decide +kernel
  split at h
  · split at h
    · cases h
      rcases List.mem_append.mp hw with hw | hw
      · have := wds_each p w (List.dropLast_subset _ hw)
        omega
      · rw [(List.mem_replicate.mp hw).2, e1]; omega
    · cases h
  · split at h
    · cases h
      have := wds_each p w hw
      omega
    · cases h
def sp_meets (K : PySem.W.Frag) : Sp := fun vs H Q E => ∃ p q : Str, vs = [.str p, .str q] ∧ p.length ≤ 5000 ∧ q.length ≤ 5000 ∧ (isPat p = true → isPat q = true → ∀ H', Same H H' → Q (match meetsM p q with | none => .non | some z => .str z) H') ∧
  (isPat p = true → isPat q = false → ∀ H', Same H H' → E (.ref (He.ga K "BadPattern")) none H') ∧ (isPat p = false → ∀ H', Same H H' → E (.ref (He.ga K "BadPattern")) none H')
theorem G_meets (T : Tx K mg) : Glob P w K mg base (L2.CX P w) 4 "meets" p_meets [] (sp_meets K) := by
  obtain ⟨fd, F⟩ := T.f_meets
  refine ⟨_, fd, [], F.ok sc_meets (fun vs H Q E h => ?_) (fun cdv A outer s H vs Q E hr h => ?_), T.g_meets, F.kp, .nil, F.bindsN fun _ _ _ _ _ _ us hl => match us, hl with | [_, _], _ => rfl⟩
  · obtain ⟨p, q, rfl, _⟩ := h; rfl
  · obtain ⟨p, q, rfl, hp, hq, q1, q2, q3⟩ := h
    refine ⟨_, (pss_cons (ps_expr (pe_callG (G_need_pattern T) (hr.mono (by decide)) (by rfl) (passes_call (takes_of rfl rfl rfl rfl) (fun _ _ _ _ h => h)) (pa_cons (pv 0) pa_nil)))
      (pss_cons (ps_expr (pe_callG (G_need_pattern T) (hr.mono (by decide)) (by rfl) (passes_call (takes_of rfl rfl rfl rfl) (fun _ _ _ _ h => h)) (pa_cons (pv 1) pa_nil)))
      (pss_cons (ps_for (passes_of rfl) rfl (pi_range2 (by rfl) T.b_range (pa_cons pe_int (pa_cons (pe_op op_add (pe_gi T.c_MOST_WORDS (by rfl)) pe_int) pa_nil))) (pg_name (i := 2) sc_meets.nd rfl (Or.inl rfl))
      (pss_cons (ps_par (i := 3) (j := 4) rfl sc_meets.nd rfl rfl (by decide) rfl rfl (pa_cons (pe_callG (G_of_length T) (hr.mono (by decide)) (by rfl) pass0 (pa_cons (pv 0) (pa_cons (pv 2) pa_nil))) (pa_cons (pe_callG (G_of_length T) (hr.mono (by decide)) (by rfl) pass0 (pa_cons (pv 1) (pa_cons (pv 2) pa_nil))) pa_nil)) (by rfl))
      (pss_one (ps_if (PW.pt (pw_and (pt_cmpR op_notN (pv 3) pe_non (nomark _)) (pw_and1 (pt_cmpR op_notN (pv 4) pe_non (nomark _)))))
      (pss_cons (ps_set (i := 5) sc_meets.nd rfl (Or.inl rfl) (pe_listZip (K := K) rfl rfl (by rfl) T.b_list (by rfl) T.b_zip (pa_cons (pv 3) (pa_cons (pv 4) pa_nil))))
      (pss_one (ps_if (pt_val (pe_callB (cr_allK (K := K) rfl rfl) (by rfl) T.b_all (by decide +kernel) (pa_cons (pe_lc (own := [("pair", 6)]) (g := (gName 6)) (tt := tYes) rfl sc_meets.nd (pi_listK (K := K) rfl (pv 5)) (blkOk_by (by kernel_rfl)) (fun _ _ _ _ _ => (pg_name (i := 6) sc_meets.nd rfl (Or.inl rfl))) (fun _ _ _ _ _ => pts_nil) (fun _ _ _ _ _ => (pe_or (pe_cmpR (op_in_seqK (K := K) rfl) (pe_gs T.c_ANY (by rfl)) (pv 6) (by rfl)) (pe_one (pe_cmpR op_eq (pe_ix (ix_tupK (K := K) rfl) (pv 6) pe_int (fun _ _ => rfl)) (pe_ix (ix_tupK (K := K) rfl) (pv 6) pe_int (fun _ _ => rfl)) (nomark _)))))) pa_nil)))
      (pss_one (ps_ret (pe_joinK (K := K) rfl pe_str (pe_lc (own := [("part", 7), ("word", 8)]) (g := (gTup K 2 (gCons (gName 7) (gCons (gName 8) gNil)))) (tt := tYes) rfl sc_meets.nd (pi_listK (K := K) rfl (pv 5)) (blkOk_by (by kernel_rfl)) (fun _ _ _ _ _ => (pg_tupK (K := K) rfl rfl (pgs_cons (pg_name (i := 7) sc_meets.nd rfl (Or.inl rfl)) (pgs_cons (pg_name (i := 8) sc_meets.nd rfl (Or.inl rfl)) pgs_nil)))) (fun _ _ _ _ _ => pts_nil) (fun _ _ _ _ _ => (pe_callG (G_met T) (hr.mono (by decide)) (by rfl) pass0 (pa_cons (pv 7) (pa_cons (pv 8) pa_nil))))))))
      pss_nil)))
      pss_nil))))
      (pss_one (ps_ret pe_non))))), ?_⟩
    simp only [tCutE, false_and, exists_false, false_or, or_false, tRet, tRetN, tAndV, tOrV, tNotV, tChain, rI, rI0, rU, tC, tCB, tCons, tNil, tVar, tOp, tUn, tTest, tB, tAnd, tOr, tNot, tIf, tIfS, tSeq, tAsg, tDrop, tNext, gName, gTup_ref, gCons_cons, gNil_nil, and_assoc, tYes, wipe, rEq, rNe, scal_ss, scal_ii, scal_bb, scal_ns, scal_sn, scal_nn, scal_in, scal_ni, tLc_eq, tFor_eq, iList, iTup, iStr, iRng1, iRng2, iZip, iEnum, gSub, tSl, rSetL_ref, rCat_ref, rRep_ref, rJoin_ref, rSlL_ref, rSlS_ref, rMulS_ref, rIxL_ref, rIxT_ref, rLenK_ref, rAll_ref, rIn_ref, tLst, tTup, tPar, tPar3, tAug, tPart, tNoPart, tCall, List.getElem?_cons_zero, List.getElem?_cons_succ, List.set_cons_zero, List.set_cons_succ, List.map_cons, List.map_nil, List.append_nil, List.nil_append, List.cons_append, Option.some.injEq, exists_eq_left', exists_eq_left, exists_eq_right, exists_eq_right', exists_eq', V.int.injEq, V.str.injEq, V.bl.injEq, V.ref.injEq, List.cons.injEq, tM0, tM1, rNewStrs, sgn_eq, split_dot, split_sp, split_nl, dot_len, sp_len, nl_len, cxOf_K, L2.start, List.length_cons, List.length_nil, List.replicate_succ, List.replicate_zero, Nat.reduceSub, Nat.zero_add, and_true, true_and, and_self, exists_and_left, exists_const, Bool.false_eq_true, if_false, if_true, ite_true, ite_false, reduceIte, decide_eq_true_eq, reduceCtorEq, Nat.reduceAdd, Nat.reduceLT, tListZip, tCallX, tCallV, tCallVS, tLam1, tLamD, tCls, cx_cells, cx_scope, cx_N, cx_prog, cx_w, cx_base, cx_qual]
    refine ⟨p, rfl, by omega, fun g1 H1 s1 => ⟨q, rfl, by omega, fun g2 H2 s2 => ⟨by decide, by decide, by decide, by decide, ?_⟩, fun g2 H2 s2 => q2 g1 g2 _ (s1.trans s2)⟩, fun g1 H1 s1 => q3 g1 _ s1⟩
    have s2 := s1.trans s2
    obtain ⟨Pv, hPv⟩ : ∃ Pv : Nat → L2.St → Hp → Prop, ∀ i σ H', Pv i σ H' ↔ ∃ a b c d e f g, σ = [some (.str p), some (.str q), a, b, c, d, e, f, g] ∧ Same H H' ∧ (List.range i).findSome? (mee1 p q) = none := ⟨_, fun _ _ _ => Iff.rfl⟩
    refine forG walk_range Pv ((hPv _ _ _).mpr ⟨_, _, _, _, _, _, _, rfl, s2, rfl⟩) (fun _ _ _ _ _ => trivial) (fun i x σ Ha Hb hi hP hy => ?_) (fun σ Ha hP => ?_)
    · obtain ⟨rfl, rfl⟩ := hy
      obtain ⟨a, b, c, d, e, f, g, rfl, sa, hall⟩ := (hPv _ _ _).mp hP
      have hi6 : i < 6 := hi
      simp only [tCutE, false_and, exists_false, false_or, or_false, tRet, tRetN, tAndV, tOrV, tNotV, tChain, rI, rI0, rU, tC, tCB, tCons, tNil, tVar, tOp, tUn, tTest, tB, tAnd, tOr, tNot, tIf, tIfS, tSeq, tAsg, tDrop, tNext, gName, gTup_ref, gCons_cons, gNil_nil, and_assoc, tYes, wipe, rEq, rNe, scal_ss, scal_ii, scal_bb, scal_ns, scal_sn, scal_nn, scal_in, scal_ni, tLc_eq, tFor_eq, iList, iTup, iStr, iRng1, iRng2, iZip, iEnum, gSub, tSl, rSetL_ref, rCat_ref, rRep_ref, rJoin_ref, rSlL_ref, rSlS_ref, rMulS_ref, rIxL_ref, rIxT_ref, rLenK_ref, rAll_ref, rIn_ref, tLst, tTup, tPar, tPar3, tAug, tPart, tNoPart, tCall, List.getElem?_cons_zero, List.getElem?_cons_succ, List.set_cons_zero, List.set_cons_succ, List.map_cons, List.map_nil, List.append_nil, List.nil_append, List.cons_append, Option.some.injEq, exists_eq_left', exists_eq_left, exists_eq_right, exists_eq_right', exists_eq', V.int.injEq, V.str.injEq, V.bl.injEq, V.ref.injEq, List.cons.injEq, tM0, tM1, rNewStrs, sgn_eq, split_dot, split_sp, split_nl, dot_len, sp_len, nl_len, cxOf_K, L2.start, List.length_cons, List.length_nil, List.replicate_succ, List.replicate_zero, Nat.reduceSub, Nat.zero_add, and_true, true_and, and_self, exists_and_left, exists_const, Bool.false_eq_true, if_false, if_true, ite_true, ite_false, reduceIte, decide_eq_true_eq, reduceCtorEq, Nat.reduceAdd, Nat.reduceLT, tListZip, tCallX, tCallV, tCallVS, tLam1, tLamD, tCls, cx_cells, cx_scope, cx_N, cx_prog, cx_w, cx_base, cx_qual]
      have ei : (1 : Int) + (i : Int) = (i : Int) + 1 := by omega
      rw [ei]
      refine ⟨p, _, rfl, by omega, by omega, by omega, fun e1 H3 s3 => ?_, fun ms e1 H3 r3 s3 hr3 hr3' => ?_⟩
      · have hn : mee1 p q i = none := by unfold mee1; rw [e1]
        refine ⟨q, _, rfl, by omega, by omega, by omega, fun e2 H4 s4 => ?_, fun ts e2 H4 r4 s4 hr4 hr4' => ?_⟩
        · exact ifN (by simp) ((hPv _ _ _).mpr ⟨_, _, _, _, _, _, _, rfl, (sa.trans s3).trans s4, range_none hall hn⟩)
        · exact ifN (by simp) ((hPv _ _ _).mpr ⟨_, _, _, _, _, _, _, rfl, (sa.trans s3).trans s4, range_none hall hn⟩)
      · refine ⟨q, _, rfl, by omega, by omega, by omega, fun e2 H4 s4 => ?_, fun ts e2 H4 r4 s4 hr4 hr4' => ?_⟩
        · have hn : mee1 p q i = none := by unfold mee1; rw [e1]; simp only; rw [e2]
          exact ifP (by simp) (ifN (by simp) ((hPv _ _ _).mpr ⟨_, _, _, _, _, _, _, rfl, (sa.trans s3).trans s4, range_none hall hn⟩))
        · refine ifP (by simp) (ifP (by simp) ?_)
          have l1 := ofLen_len e1
          have l2 := ofLen_len e2
          have hr3'' := s4 _ _ hr3'
          have hzl : ((ms.map V.str).zip (ts.map V.str)) = (ms.zip ts).map (fun x => (V.str x.1, V.str x.2)) := by rw [List.zip_map]; rfl
          refine ⟨r3, rfl, r4, rfl, _, .of hr3'', _, .of hr4', ?_, fun D us H5 hD0 s5 hD hts => ?_⟩
          · rw [hzl, List.length_map, List.length_zip]; exact smallLt (by omega)
          rw [hzl, List.map_map] at hts
          have hts : TupsAt H5 us ((ms.zip ts).map fun x => [V.str x.1, V.str x.2]) := hts
          have hul := hts.len
          rw [List.length_map] at hul
          have hzn : (us.zip (ms.zip ts)).length ≤ 10000 := by rw [List.length_zip, List.length_zip]; omega
          refine ⟨⟨_, .of hD⟩, lc_map (us.zip (ms.zip ts)) (fun x => V.bl (can1 x.2)) (walk_tups hul) (by omega) (fun H6 s6 => s6.seq (.of hD)) (fun j a x H6 H7 R hx s6 hy r => ?_) (fun D2 H6 nD2 s6 hD2 => ?_)⟩
          · obtain ⟨rfl, y, hy, rfl⟩ := hy
            cases Option.some.inj (hx.symm.trans hy)
            have ht := s6 _ _ (hts.zat hx).1
            simp only [tCutE, false_and, exists_false, false_or, or_false, tRet, tRetN, tAndV, tOrV, tNotV, tChain, rI, rI0, rU, tC, tCB, tCons, tNil, tVar, tOp, tUn, tTest, tB, tAnd, tOr, tNot, tIf, tIfS, tSeq, tAsg, tDrop, tNext, gName, gTup_ref, gCons_cons, gNil_nil, and_assoc, tYes, wipe, rEq, rNe, scal_ss, scal_ii, scal_bb, scal_ns, scal_sn, scal_nn, scal_in, scal_ni, tLc_eq, tFor_eq, iList, iTup, iStr, iRng1, iRng2, iZip, iEnum, gSub, tSl, rSetL_ref, rCat_ref, rRep_ref, rJoin_ref, rSlL_ref, rSlS_ref, rMulS_ref, rIxL_ref, rIxT_ref, rLenK_ref, rAll_ref, rIn_ref, tLst, tTup, tPar, tPar3, tAug, tPart, tNoPart, tCall, List.getElem?_cons_zero, List.getElem?_cons_succ, List.set_cons_zero, List.set_cons_succ, List.map_cons, List.map_nil, List.append_nil, List.nil_append, List.cons_append, Option.some.injEq, exists_eq_left', exists_eq_left, exists_eq_right, exists_eq_right', exists_eq', V.int.injEq, V.str.injEq, V.bl.injEq, V.ref.injEq, List.cons.injEq, tM0, tM1, rNewStrs, sgn_eq, split_dot, split_sp, split_nl, dot_len, sp_len, nl_len, cxOf_K, L2.start, List.length_cons, List.length_nil, List.replicate_succ, List.replicate_zero, Nat.reduceSub, Nat.zero_add, and_true, true_and, and_self, exists_and_left, exists_const, Bool.false_eq_true, if_false, if_true, ite_true, ite_false, reduceIte, decide_eq_true_eq, reduceCtorEq, Nat.reduceAdd, Nat.reduceLT, tListZip, tCallX, tCallV, tCallVS, tLam1, tLamD, tCls, cx_cells, cx_scope, cx_N, cx_prog, cx_w, cx_base, cx_qual]
            refine ⟨_, .inr (.of ht), rfl, rfl, ?_⟩
            have e3 : inV (V.str (Str.ofString "*")) [V.str a.2.1, V.str a.2.2] = (decide (a.2.1 = ("*" : Str)) || decide (a.2.2 = ("*" : Str))) := by
              unfold inV eqV
              simp only [List.any_cons, List.any_nil, Bool.or_false]
              rw [beq_dec, beq_dec]
              congr 1
              · rw [Bool.eq_iff_iff]; simp only [decide_eq_true_eq]; exact ⟨Eq.symm, Eq.symm⟩
              · rw [Bool.eq_iff_iff]; simp only [decide_eq_true_eq]; exact ⟨Eq.symm, Eq.symm⟩
            rw [e3]
            unfold can1 at r
            by_cases h1 : a.2.1 = ("*" : Str)
            · rw [decide_eq_true h1, Bool.true_or] at r ⊢
              exact ifP rfl (r _ (Same.refl _))
            · by_cases h2 : a.2.2 = ("*" : Str)
              · rw [decide_eq_true h2, Bool.true_or, Bool.or_true] at r
                rw [decide_eq_true h2, Bool.or_true]
                exact ifP rfl (r _ (Same.refl _))
              · rw [decide_eq_false h1, decide_eq_false h2, Bool.false_or, Bool.false_or] at r
                rw [decide_eq_false h1, decide_eq_false h2]
                exact ifN (by simp) ⟨_, .of ht, _, atI_nat (j := 0) rfl, _, .of ht, _, atI_nat (j := 1) rfl, rfl, by
                  have e4 : decide (V.str a.2.1 = V.str a.2.2) = decide (a.2.1 = a.2.2) := by simp only [V.str.injEq]
                  rw [e4]; exact r _ (Same.refl _)⟩
          · rw [show (us.zip (ms.zip ts)).map (fun x => V.bl (can1 x.2)) = _ from zip_snd_map hul (fun y => V.bl (can1 y))] at hD2
            refine ⟨D2, (ms.zip ts).map can1, rfl, .of (by rw [hD2, List.map_map]; rfl), _, rfl, ?_⟩
            rw [List.all_map]
            have s6' := (((sa.trans s3).trans s4).trans s5).trans s6
            by_cases hv : (ms.zip ts).all can1 = true
            · have hv' : ((ms.zip ts).all (id ∘ can1)) = true := hv
              have hn : mee1 p q i = some (Txt.join "." ((ms.zip ts).map met1)) := by unfold mee1; rw [e1]; simp only; rw [e2]; exact if_pos hv
              have hD6 := s6 _ _ hD
              refine ifP hv' ⟨⟨_, .of hD6⟩, lc_map (us.zip (ms.zip ts)) (fun x => V.str (met1 x.2)) (walk_tups hul) (by omega) (fun H7 s7 => s7.seq (.of hD6)) (fun j a x H7 H8 R hx s7 hy r => ?_) (fun D3 H7 nD3 s7 hD3 => ?_)⟩
              · obtain ⟨rfl, y, hy, rfl⟩ := hy
                cases Option.some.inj (hx.symm.trans hy)
                have ht := s7 _ _ (s6 _ _ (hts.zat hx).1)
                refine ⟨a.1, _, rfl, .of ht, rfl, ?_⟩
                simp only [tCutE, false_and, exists_false, false_or, or_false, tRet, tRetN, tAndV, tOrV, tNotV, tChain, rI, rI0, rU, tC, tCB, tCons, tNil, tVar, tOp, tUn, tTest, tB, tAnd, tOr, tNot, tIf, tIfS, tSeq, tAsg, tDrop, tNext, gName, gTup_ref, gCons_cons, gNil_nil, and_assoc, tYes, wipe, rEq, rNe, scal_ss, scal_ii, scal_bb, scal_ns, scal_sn, scal_nn, scal_in, scal_ni, tLc_eq, tFor_eq, iList, iTup, iStr, iRng1, iRng2, iZip, iEnum, gSub, tSl, rSetL_ref, rCat_ref, rRep_ref, rJoin_ref, rSlL_ref, rSlS_ref, rMulS_ref, rIxL_ref, rIxT_ref, rLenK_ref, rAll_ref, rIn_ref, tLst, tTup, tPar, tPar3, tAug, tPart, tNoPart, tCall, List.getElem?_cons_zero, List.getElem?_cons_succ, List.set_cons_zero, List.set_cons_succ, List.map_cons, List.map_nil, List.append_nil, List.nil_append, List.cons_append, Option.some.injEq, exists_eq_left', exists_eq_left, exists_eq_right, exists_eq_right', exists_eq', V.int.injEq, V.str.injEq, V.bl.injEq, V.ref.injEq, List.cons.injEq, tM0, tM1, rNewStrs, sgn_eq, split_dot, split_sp, split_nl, dot_len, sp_len, nl_len, cxOf_K, L2.start, List.length_cons, List.length_nil, List.replicate_succ, List.replicate_zero, Nat.reduceSub, Nat.zero_add, and_true, true_and, and_self, exists_and_left, exists_const, Bool.false_eq_true, if_false, if_true, ite_true, ite_false, reduceIte, decide_eq_true_eq, reduceCtorEq, Nat.reduceAdd, Nat.reduceLT, tListZip, tCallX, tCallV, tCallVS, tLam1, tLamD, tCls, cx_cells, cx_scope, cx_N, cx_prog, cx_w, cx_base, cx_qual]
                exact ⟨a.2, rfl, r _ (Same.refl _)⟩
              · rw [show (us.zip (ms.zip ts)).map (fun x => V.str (met1 x.2)) = _ from zip_snd_map hul (fun y => V.str (met1 y))] at hD3
                have hm : ∀ w ∈ (ms.zip ts).map met1, w.length ≤ 5001 := by
                  intro w hw
                  obtain ⟨x, hx, rfl⟩ := List.mem_map.mp hw
                  have h1 := ofLen_each e1 x.1 (List.of_mem_zip hx).1
                  have h2 := ofLen_each e2 x.2 (List.of_mem_zip hx).2
                  unfold met1
                  split
                  · decide +kernel
                  · split <;> omega
                have hs := sum_le hm
                have e5 : (Str.ofString ".").length = 1 := by decide +kernel
                refine ⟨_, D3, (ms.zip ts).map met1, rfl, rfl, .inl (.of (by rw [hD3, List.map_map]; rfl)), ?_, ?_⟩
                · rw [e5]
                  have : ((ms.zip ts).map met1).length ≤ 6 := by rw [List.length_map, List.length_zip]; omega
                  omega
                · have q1 := q1 g1 g2 _ (s6'.trans s7)
                  rw [show meetsM p q = some (Txt.join "." ((ms.zip ts).map met1)) from range_some hi6 hall hn] at q1
                  exact q1
            · have hn : mee1 p q i = none := by unfold mee1; rw [e1]; simp only; rw [e2]; exact if_neg hv
              exact ifN hv ((hPv _ _ _).mpr ⟨_, _, _, _, _, _, _, rfl, s6', range_none hall hn⟩)
    · obtain ⟨a, b, c, d, e, f, g, rfl, sa, hall⟩ := (hPv _ _ _).mp hP
      simp only [tCutE, false_and, exists_false, false_or, or_false, tRet, tRetN, tAndV, tOrV, tNotV, tChain, rI, rI0, rU, tC, tCB, tCons, tNil, tVar, tOp, tUn, tTest, tB, tAnd, tOr, tNot, tIf, tIfS, tSeq, tAsg, tDrop, tNext, gName, gTup_ref, gCons_cons, gNil_nil, and_assoc, tYes, wipe, rEq, rNe, scal_ss, scal_ii, scal_bb, scal_ns, scal_sn, scal_nn, scal_in, scal_ni, tLc_eq, tFor_eq, iList, iTup, iStr, iRng1, iRng2, iZip, iEnum, gSub, tSl, rSetL_ref, rCat_ref, rRep_ref, rJoin_ref, rSlL_ref, rSlS_ref, rMulS_ref, rIxL_ref, rIxT_ref, rLenK_ref, rAll_ref, rIn_ref, tLst, tTup, tPar, tPar3, tAug, tPart, tNoPart, tCall, List.getElem?_cons_zero, List.getElem?_cons_succ, List.set_cons_zero, List.set_cons_succ, List.map_cons, List.map_nil, List.append_nil, List.nil_append, List.cons_append, Option.some.injEq, exists_eq_left', exists_eq_left, exists_eq_right, exists_eq_right', exists_eq', V.int.injEq, V.str.injEq, V.bl.injEq, V.ref.injEq, List.cons.injEq, tM0, tM1, rNewStrs, sgn_eq, split_dot, split_sp, split_nl, dot_len, sp_len, nl_len, cxOf_K, L2.start, List.length_cons, List.length_nil, List.replicate_succ, List.replicate_zero, Nat.reduceSub, Nat.zero_add, and_true, true_and, and_self, exists_and_left, exists_const, Bool.false_eq_true, if_false, if_true, ite_true, ite_false, reduceIte, decide_eq_true_eq, reduceCtorEq, Nat.reduceAdd, Nat.reduceLT, tListZip, tCallX, tCallV, tCallVS, tLam1, tLamD, tCls, cx_cells, cx_scope, cx_N, cx_prog, cx_w, cx_base, cx_qual]
      have : meetsM p q = none := hall
      have q1 := q1 g1 g2 _ sa
      rw [this] at q1
      exact q1
end
end Hk

set_option Elab.async false
set_option linter.all false
set_option maxRecDepth 100000
set_option maxHeartbeats 4000000
namespace Hk
open PySem PySem.Spec PyProof.Rows L2
open LamX NdefX
open LamX NdefX
section
variable {P : Program} {w : World} {K : PySem.W.Frag} {mg : Str → Option Value} {base : Heap}
/-! ### _law_kind: the word of a refusal -/
def words11 : List Str := ["line", "pattern", "word", "count", "listener", "busy", "deep", "held", "work", "text", "halt"]
/-- a refusal of one of ours, by its place among them -/
structure Ref11 (K : PySem.W.Frag) (x : Str) : Prop where
  C : ExcC K (He.ga K x)
  kit : ∀ y b, (y, b) ∈ own11.map (fun y => (y, decide (y = x))) → PySem.W.kitOne K (.ref (He.ga K x)) (.ref (He.ga K y)) = some b
  ve : PySem.W.kitOne K (.ref (He.ga K x)) (.type "ValueError") = some true
  he : PySem.W.exmOne K (.ref (He.ga K x)) (.ref (He.ga K "HearError")) = some true
theorem ref11_of (h : refB K x = true) : Ref11 K x := by
  unfold refB at h
  obtain ⟨h1, h⟩ := He.ba h
  obtain ⟨h2, h⟩ := He.ba h
  obtain ⟨h3, h4⟩ := He.ba h
  exact ⟨excB_ok h1, fun y b hm => kitsB_ok h2 hm, of_decide_eq_true h3, of_decide_eq_true h4⟩
def kinds11 (x : Str) : List V := own11.map fun y => V.bl (decide (y = x))
def kindB (j : Nat) (x : Str) : Bool := decide ((kinds11 x).countP (fun z => eqV z (.bl true)) = 1) && ((match (kinds11 x)[j]? with | some z => eqV z (.bl true) | none => false) && (((kinds11 x).take j).all (fun z => !eqV z (.bl true)) && ((kinds11 x).all flatV && decide (words11[j]? = some (words11.getD j "")))))
theorem kinds_ok : ∀ j ∈ List.range 11, (match own11[j]? with | some x => kindB j x | none => false) = true := by decide +kernel
def sp_law_kind (P : Program) (w : World) (K : PySem.W.Frag) (mg : Str → Option Value) (base : Heap) : Sp := fun vs H Q _ => ∃ (f : Addr), vs = [.ref f] ∧ ∃ sp, Act P w K mg base 5 f sp ∧
  ∀ E' : XK, (∀ cls d H', (∃ x j, cls = .ref (He.ga K x) ∧ d = none ∧ Ref11 K x ∧ own11[j]? = some x ∧ ∀ H'', Same H' H'' → Q (.str (words11.getD j "")) H'') → E' cls d H') → sp [] H (fun _ H' => Q (.str ("" : Str)) H') E'
theorem rIsE_ref {D a C : Addr} {b : Bool} {H : Hp} {Q : VK} (h : PySem.W.kitOne K (.ref D) (.ref C) = some b) (q : Q (.bl b) H) : rIsE K D a [.ref a, .ref C] H Q := ⟨_, _, b, rfl, fun u hu => hu, h, q⟩
theorem rIsE_ty {D a : Addr} {n : String} {b : Bool} {H : Hp} {Q : VK} (h : PySem.W.kitOne K (.ref D) (.type n) = some b) (q : Q (.bl b) H) : rIsE K D a [.ref a, .ty n] H Q := ⟨_, _, b, rfl, fun u hu => hu, h, q⟩
theorem G_law_kind (T : Tx K mg) : Glob P w K mg base (CX0) 6 "_law_kind" p_law_kind [] (sp_law_kind P w K mg base) := by
  obtain ⟨fd, F⟩ := T.f_law_kind
  refine ⟨_, fd, [], F.ok sc_law_kind (fun vs H Q E h => ?_) (fun cdv A outer s H vs Q E hr h => ?_), T.g__law_kind, F.kp, .nil, F.bindsN fun _ _ _ _ _ _ us hl => match us, hl with | [_], _ => rfl⟩
  · obtain ⟨f, rfl, _⟩ := h; rfl
  · obtain ⟨f, rfl, sp, ac, q⟩ := h
    refine ⟨_, PSs.nox (pss_cons (ps_try_as (i := 1) rfl rfl sc_law_kind.nd rfl rfl ⟨rfl, by decide, .inl T.g_HearError⟩ L2.takes0 (fun W pn xe tk _ => (pss_one (ps_expr (pe_callVS0K (P := P) (w := w) (K := K) (mg := mg) (base := base) rfl rfl rfl rfl rfl (k := 5) (i := 0) (hr.mono (by decide)) (fun σ => passAt tk σ) rfl (Or.inl rfl)))))
      (fun a oe cls d pn hz hf => pss_cls (K := K) (fun D e1 e2 hC => (pss_cons (ps_set (i := 2) sc_law_kind.nd rfl (Or.inl rfl) (pe_lst (pa_cons (pe_callB (call_isEK (K := K) rfl hC e1 e2 hz hf) (by rfl) T.b_isinstance (by decide +kernel) (pa_cons (pv 1) (pa_cons (pe_glob (v := V.ref (He.ga K "BadLine")) rfl T.g_BadLine rfl) pa_nil))) (pa_cons (pe_callB (call_isEK (K := K) rfl hC e1 e2 hz hf) (by rfl) T.b_isinstance (by decide +kernel) (pa_cons (pv 1) (pa_cons (pe_glob (v := V.ref (He.ga K "BadPattern")) rfl T.g_BadPattern rfl) pa_nil))) (pa_cons (pe_callB (call_isEK (K := K) rfl hC e1 e2 hz hf) (by rfl) T.b_isinstance (by decide +kernel) (pa_cons (pv 1) (pa_cons (pe_glob (v := V.ref (He.ga K "BadWord")) rfl T.g_BadWord rfl) pa_nil))) (pa_cons (pe_callB (call_isEK (K := K) rfl hC e1 e2 hz hf) (by rfl) T.b_isinstance (by decide +kernel) (pa_cons (pv 1) (pa_cons (pe_glob (v := V.ref (He.ga K "BadCount")) rfl T.g_BadCount rfl) pa_nil))) pa_nil))))))
      (pss_cons (ps_set (i := 2) sc_law_kind.nd rfl (Or.inl rfl) (pe_op op_cat (pv 2) (pe_lst (pa_cons (pe_callB (call_isEK (K := K) rfl hC e1 e2 hz hf) (by rfl) T.b_isinstance (by decide +kernel) (pa_cons (pv 1) (pa_cons (pe_glob (v := V.ref (He.ga K "NoListener")) rfl T.g_NoListener rfl) pa_nil))) (pa_cons (pe_callB (call_isEK (K := K) rfl hC e1 e2 hz hf) (by rfl) T.b_isinstance (by decide +kernel) (pa_cons (pv 1) (pa_cons (pe_glob (v := V.ref (He.ga K "Busy")) rfl T.g_Busy rfl) pa_nil))) (pa_cons (pe_callB (call_isEK (K := K) rfl hC e1 e2 hz hf) (by rfl) T.b_isinstance (by decide +kernel) (pa_cons (pv 1) (pa_cons (pe_glob (v := V.ref (He.ga K "TooDeep")) rfl T.g_TooDeep rfl) pa_nil))) (pa_cons (pe_callB (call_isEK (K := K) rfl hC e1 e2 hz hf) (by rfl) T.b_isinstance (by decide +kernel) (pa_cons (pv 1) (pa_cons (pe_glob (v := V.ref (He.ga K "NotHeld")) rfl T.g_NotHeld rfl) pa_nil))) pa_nil)))))))
      (pss_cons (ps_set (i := 2) sc_law_kind.nd rfl (Or.inl rfl) (pe_op op_cat (pv 2) (pe_lst (pa_cons (pe_callB (call_isEK (K := K) rfl hC e1 e2 hz hf) (by rfl) T.b_isinstance (by decide +kernel) (pa_cons (pv 1) (pa_cons (pe_glob (v := V.ref (He.ga K "NoWork")) rfl T.g_NoWork rfl) pa_nil))) (pa_cons (pe_callB (call_isEK (K := K) rfl hC e1 e2 hz hf) (by rfl) T.b_isinstance (by decide +kernel) (pa_cons (pv 1) (pa_cons (pe_glob (v := V.ref (He.ga K "BadText")) rfl T.g_BadText rfl) pa_nil))) (pa_cons (pe_callB (call_isEK (K := K) rfl hC e1 e2 hz hf) (by rfl) T.b_isinstance (by decide +kernel) (pa_cons (pv 1) (pa_cons (pe_glob (v := V.ref (He.ga K "Halt")) rfl T.g_Halt rfl) pa_nil))) pa_nil))))))
      (pss_cons (ps_set (i := 3) sc_law_kind.nd rfl (Or.inl rfl) (pe_lst (pa_cons pe_str (pa_cons pe_str (pa_cons pe_str (pa_cons pe_str (pa_cons pe_str (pa_cons pe_str (pa_cons pe_str (pa_cons pe_str (pa_cons pe_str (pa_cons pe_str (pa_cons pe_str pa_nil)))))))))))))
      (pss_cons (ps_if (PW.pt (pw_or (pt_cmpR op_ne (pe_bmK (K := K) rfl PySem.F.plainAttrs_list PySem.F.slot_list_count PySem.F.type_list_count (mt_countF (K := K) rfl) (pv 2) (pa_cons pe_bl pa_nil)) pe_int (nomark _)) (pw_or1 (pt_not (pt_val (pe_callB (call_isEK (K := K) rfl hC e1 e2 hz hf) (by rfl) T.b_isinstance (by decide +kernel) (pa_cons (pv 1) (pa_cons (pe_bltn (v := .ty "ValueError") (by rfl) T.b_ValueError (by decide +kernel) rfl) pa_nil))))))))
      (pss_one (ps_ret pe_str))
      pss_nil)
      (pss_one (ps_ret (pe_ix (ix_listK (K := K) rfl) (pv 3) (pe_bmK (K := K) rfl PySem.F.plainAttrs_list PySem.F.slot_list_index PySem.F.type_list_index (mt_indexK (K := K) rfl) (pv 2) (pa_cons pe_bl pa_nil)) (fun _ _ => rfl))))))))))))
      (pss_one (ps_ret pe_str))), ?_⟩
    simp only [tCutE, false_and, exists_false, false_or, or_false, tRet, tRetN, tAndV, tOrV, tNotV, tChain, rI, rI0, rU, tC, tCB, tCons, tNil, tVar, tOp, tUn, tTest, tB, tAnd, tOr, tNot, tIf, tIfS, tSeq, tAsg, tDrop, tNext, gName, gTup_ref, gCons_cons, gNil_nil, and_assoc, tYes, wipe, rEq, rNe, scal_ss, scal_ii, scal_bb, scal_ns, scal_sn, scal_nn, scal_in, scal_ni, tLc_eq, tFor_eq, iList, iTup, iStr, iRng1, iRng2, iZip, iEnum, gSub, tSl, rSetL_ref, rCat_ref, rRep_ref, rJoin_ref, rSlL_ref, rSlS_ref, rMulS_ref, rIxL_ref, rIxT_ref, rLenK_ref, rAll_ref, rIn_ref, tLst, tTup, tPar, tPar3, tAug, tPart, tNoPart, tCall, List.getElem?_cons_zero, List.getElem?_cons_succ, List.set_cons_zero, List.set_cons_succ, List.map_cons, List.map_nil, List.append_nil, List.nil_append, List.cons_append, Option.some.injEq, exists_eq_left', exists_eq_left, exists_eq_right, exists_eq_right', exists_eq', V.int.injEq, V.str.injEq, V.bl.injEq, V.ref.injEq, List.cons.injEq, tM0, tM1, rNewStrs, sgn_eq, split_dot, split_sp, split_nl, dot_len, sp_len, nl_len, cxOf_K, L2.start, List.length_cons, List.length_nil, List.replicate_succ, List.replicate_zero, Nat.reduceSub, Nat.zero_add, and_true, true_and, and_self, exists_and_left, exists_const, Bool.false_eq_true, if_false, if_true, ite_true, ite_false, reduceIte, decide_eq_true_eq, reduceCtorEq, Nat.reduceAdd, Nat.reduceLT, tListZip, tCallX, tCallV, tCallVS, tLam1, tLamD, tCls, cx_cells, cx_scope, cx_N, cx_prog, cx_w, cx_base, cx_qual]
    refine ⟨sp, ac, q _ fun cls d H' hx => ?_⟩
    obtain ⟨x, j, rfl, rfl, R, hj, qq⟩ := hx
    refine ⟨true, R.he, fun _ a na => ⟨_, rfl, rfl, R.C, ?_⟩, fun z => by cases z⟩
    have hj' : j < 11 := (List.getElem?_eq_some_iff.mp hj).1
    have ko := kinds_ok j (List.mem_range.mpr hj')
    rw [hj] at ko
    obtain ⟨k1, ko⟩ := He.ba (show kindB j x = true from ko)
    obtain ⟨k2, ko⟩ := He.ba ko
    obtain ⟨k3, ko⟩ := He.ba ko
    obtain ⟨k4, k5⟩ := He.ba ko
    have k1 := of_decide_eq_true k1
    have k5 := of_decide_eq_true k5
    have kit : ∀ y, y ∈ own11 → PySem.W.kitOne K (.ref (He.ga K x)) (.ref (He.ga K y)) = some (decide (y = x)) := fun y hy => R.kit y _ (List.mem_map.mpr ⟨y, hy, rfl⟩)
    simp only [tCutE, false_and, exists_false, false_or, or_false, tRet, tRetN, tAndV, tOrV, tNotV, tChain, rI, rI0, rU, tC, tCB, tCons, tNil, tVar, tOp, tUn, tTest, tB, tAnd, tOr, tNot, tIf, tIfS, tSeq, tAsg, tDrop, tNext, gName, gTup_ref, gCons_cons, gNil_nil, and_assoc, tYes, wipe, rEq, rNe, scal_ss, scal_ii, scal_bb, scal_ns, scal_sn, scal_nn, scal_in, scal_ni, tLc_eq, tFor_eq, iList, iTup, iStr, iRng1, iRng2, iZip, iEnum, gSub, tSl, rSetL_ref, rCat_ref, rRep_ref, rJoin_ref, rSlL_ref, rSlS_ref, rMulS_ref, rIxL_ref, rIxT_ref, rLenK_ref, rAll_ref, rIn_ref, tLst, tTup, tPar, tPar3, tAug, tPart, tNoPart, tCall, List.getElem?_cons_zero, List.getElem?_cons_succ, List.set_cons_zero, List.set_cons_succ, List.map_cons, List.map_nil, List.append_nil, List.nil_append, List.cons_append, Option.some.injEq, exists_eq_left', exists_eq_left, exists_eq_right, exists_eq_right', exists_eq', V.int.injEq, V.str.injEq, V.bl.injEq, V.ref.injEq, List.cons.injEq, tM0, tM1, rNewStrs, sgn_eq, split_dot, split_sp, split_nl, dot_len, sp_len, nl_len, cxOf_K, L2.start, List.length_cons, List.length_nil, List.replicate_succ, List.replicate_zero, Nat.reduceSub, Nat.zero_add, and_true, true_and, and_self, exists_and_left, exists_const, Bool.false_eq_true, if_false, if_true, ite_true, ite_false, reduceIte, decide_eq_true_eq, reduceCtorEq, Nat.reduceAdd, Nat.reduceLT, tListZip, tCallX, tCallV, tCallVS, tLam1, tLamD, tCls, cx_cells, cx_scope, cx_N, cx_prog, cx_w, cx_base, cx_qual]
    refine rIsE_ref (kit "BadLine" (by decide +kernel)) (rIsE_ref (kit "BadPattern" (by decide +kernel)) (rIsE_ref (kit "BadWord" (by decide +kernel)) (rIsE_ref (kit "BadCount" (by decide +kernel)) ?_)))
    refine ⟨by decide, fun p1 hp1 => ?_⟩
    refine rIsE_ref (kit "NoListener" (by decide +kernel)) (rIsE_ref (kit "Busy" (by decide +kernel)) (rIsE_ref (kit "TooDeep" (by decide +kernel)) (rIsE_ref (kit "NotHeld" (by decide +kernel)) ?_)))
    refine ⟨by decide, fun p2 hp2 => ?_⟩
    generalize hA : upd H' p1 _ = Ha at hp2 ⊢
    obtain ⟨sa, fa1⟩ := newF hA ‹_›
    generalize hB : upd Ha p2 _ = Hb
    obtain ⟨sb, fb⟩ := newF hB hp2
    refine ⟨_, sb _ _ fa1, _, fb, small (by simp), fun p3 hp3 => ?_⟩
    generalize hC : upd Hb p3 _ = Hc
    obtain ⟨sc, fc⟩ := newF hC hp3
    refine rIsE_ref (kit "NoWork" (by decide +kernel)) (rIsE_ref (kit "BadText" (by decide +kernel)) (rIsE_ref (kit "Halt" (by decide +kernel)) ?_))
    refine ⟨by decide, fun p4 hp4 => ?_⟩
    generalize hD : upd Hc p4 _ = Hd
    obtain ⟨sd, fd4⟩ := newF hD hp4
    refine ⟨_, sd _ _ fc, _, fd4, small (by simp), fun p5 hp5 => ?_⟩
    generalize hE : upd Hd p5 _ = He5
    obtain ⟨se, fe⟩ := newF hE hp5
    refine ⟨by decide, fun p6 hp6 => ?_⟩
    generalize hF : upd He5 p6 _ = Hf
    obtain ⟨sf, ff⟩ := newF hF hp6
    have fe' : Hf p5 = some (.lst (kinds11 x)) := sf _ _ fe
    have ff' : Hf p6 = some (.lst (words11.map V.str)) := ff
    have sH : Same H' Hf := ((((sa.trans sb).trans sc).trans sd).trans se).trans sf
    refine ⟨_, rfl, .inl ⟨rfl, _, .of fe'⟩, p5, _, _, rfl, rfl, .of fe', rfl, k4, rfl, ?_⟩
    rw [k1]
    refine ifN (by simp) (rIsE_ty R.ve ⟨_, rfl, ifN (by simp) ⟨_, rfl, .inl ⟨rfl, _, .of fe'⟩, ?_⟩⟩)
    obtain ⟨z, hz1, hz2⟩ : ∃ z, (kinds11 x)[j]? = some z ∧ eqV z (.bl true) = true := by
      cases e : (kinds11 x)[j]? with
      | none => rw [e] at k2; cases k2
      | some z => rw [e] at k2; exact ⟨z, rfl, k2⟩
    refine ⟨p5, _, _, j, z, rfl, rfl, .of fe', rfl, k4, hz1, hz2, fun m z' hm hz' => ?_, p6, _, _, _, rfl, rfl, .of ff', atI_nat (j := j) ?_, qq _ sH⟩
    · have := List.all_eq_true.mp k3 z' (List.mem_iff_getElem?.mpr ⟨m, by rw [List.getElem?_take_of_lt hm]; exact hz'⟩)
      simpa using this
    · rw [List.getElem?_map, k5]; rfl
/-! ### a lambda told to _law_kind -/
/-- what a body of the captured ws tells: the word wd -/
def Tells (K : PySem.W.Frag) (spB : Hp → VK → XK → Prop) (wd : Str) : Prop := ∀ (H0 : Hp) (Qf : VK) (Ef : XK), (wd = ("" : Str) → ∀ v H', Same H0 H' → Qf v H') → (∀ x j, own11[j]? = some x → words11.getD j "" = wd → Ref11 K x → ∀ H', Same H0 H' → Ef (.ref (He.ga K x)) none H') → spB H0 Qf Ef
theorem kind_lam {cm : List (Str × Addr)} {sc : Scope} {N : List Str} {σ : L2.St} {obs : Addr → Obj} {H : Hp} {f : Addr} {L : LF} {fr : List Str} {dvs : List V} {spN : List (Option V) → Sp} {wd : Str} {ws : List V} {N' ps' : List Str} {Q : VK} {E : XK} (C : CEnv cm sc N H) (hf : H f = some (LamO f L)) (hc : H L.c = some (CodeO L.c L.qual))
    (ac : Act P w K mg base 5 f (spLam f L fr dvs spN)) (js : List Nat) (hL : L.cl = cloFrom cm L.scope.names []) (hb : ndefB sc L.scope fr = true) (S : NScope N' ps' fr L.scope) (hjs : js.map (fun j => N[j]?) = fr.map some) (hws : js.map (fun j => σ[j]?) = ws.map (fun v => some (some v))) (hdt : DtOk H L.dT dvs)
    (tells : Tells K (fun H0 Qf Ef => spN (ws.map some) dvs H0 Qf Ef) wd) (q : ∀ H', Same H (delC cm H') → Q (.str wd) H') : sp_law_kind P w K mg base [.ref f] (exC cm sc N σ obs H) Q E := by
  have caps : CapsAt L.cl fr ws (exC cm sc N σ obs H) := by rw [hL]; exact C.caps hb S.free hjs hws (fun a o h _ => h)
  have hcl : ∀ y c, L.cl.lookup y = some c → cm.lookup y = some c := by rw [hL]; exact clo_sub C hb
  refine ⟨f, rfl, _, ac, fun E' hE => ⟨ws, C.same _ _ hf, C.same _ _ hc, caps, ?_, ?_⟩⟩
  · unfold DtOk at hdt ⊢
    cases e : L.dT with
    | none => rw [e] at hdt; exact hdt
    | some T => rw [e] at hdt; exact C.same _ _ hdt
  · refine tells _ _ _ (fun hw v H' s _ => ?_) (fun x j hx hj R H' s _ => ?_)
    · have := q _ (fin_same C hcl s (Same.refl _))
      rw [hw] at this
      exact this
    · refine hE _ _ _ ⟨x, j, rfl, rfl, R, hx, fun H'' s'' => ?_⟩
      rw [hj]
      exact q _ (fin_same C hcl s s'')
end
end Hk

set_option Elab.async false
set_option linter.all false
set_option maxRecDepth 100000
set_option maxHeartbeats 4000000
namespace Hk
open PySem PySem.Spec PyProof.Rows L2
open LamX NdefX
open LamX NdefX TL
section
variable {P : Program} {w : World} {K : PySem.W.Frag} {mg : Str → Option Value} {base : Heap}
theorem letter_iff {c : Nat} : c ∈ tl letters ↔ 97 ≤ c ∧ c ≤ 122 := by
  have e : tl letters = [97, 98, 99, 100, 101, 102, 103, 104, 105, 106, 107, 108, 109, 110, 111, 112, 113, 114, 115, 116, 117, 118, 119, 120, 121, 122] := by decide +kernel
  rw [e]
  simp only [List.mem_cons, List.not_mem_nil, or_false]
  omega
theorem word_iff {w : Str} : isWord w = (decide (1 ≤ (w.length : Int)) && (decide ((w.length : Int) ≤ 4) && ((tl w).filterMap fun c => if 97 ≤ c ∧ c ≤ 122 then none else some c).isEmpty)) := by
  unfold isWord
  have e3 : ((tl w).all fun c => decide (c ∈ tl letters)) = ((tl w).filterMap fun c => if 97 ≤ c ∧ c ≤ 122 then none else some c).isEmpty := by
    rw [Bool.eq_iff_iff, List.all_eq_true, List.isEmpty_iff, List.filterMap_eq_nil_iff]
    constructor
    · intro h c hc
      have := letter_iff.mp (of_decide_eq_true (h c hc))
      exact if_pos this
    · intro h c hc
      refine decide_eq_true (letter_iff.mpr ?_)
      have := h c hc
      split at this
      · assumption
      · cases this
  rw [e3]
  congr 1
  · simp only [decide_eq_decide]; omega
  · congr 1
    simp only [decide_eq_decide]; omega
theorem star_count : ∀ ws : List Str, ws.countP starOr = ws.countP isWord + ws.countP (fun w => decide (w = ("*" : Str)))
  | [] => rfl
  | w :: r => by
    rw [List.countP_cons, List.countP_cons, List.countP_cons, star_count r]
    have hs : isWord ("*" : Str) = false := by decide +kernel
    unfold starOr
    by_cases h : w = ("*" : Str)
    · subst h; rw [hs]; simp; omega
    · rw [decide_eq_false h]; simp; omega
theorem all_count {p : Str → Bool} {ws : List Str} : ws.all p = decide (ws.countP p = ws.length) := by
  rw [Bool.eq_iff_iff, List.all_eq_true, decide_eq_true_eq, List.countP_eq_length]
/-- what is asked at the end -/
theorem end_ok {ws : List Str} {b : Bool} : (decide (ws.length ≤ 6) && ws.all (if b = true then starOr else isWord)) = (if (ws.length : Int) < 7 then decide (((ws.countP isWord + ws.countP (fun w => decide (w = ("*" : Str))) * (if b = true then 1 else 0) : Nat) : Int) = (ws.length : Int)) else false) := by
  by_cases h : (ws.length : Int) < 7
  · rw [if_pos h, decide_eq_true (by omega : ws.length ≤ 6), Bool.true_and]
    cases b with
    | true =>
      simp only [if_true, Nat.mul_one]
      rw [all_count, star_count, decide_eq_decide]
      omega
    | false =>
      simp only [Bool.false_eq_true, if_false, Nat.mul_zero, Nat.add_zero]
      rw [all_count, decide_eq_decide]
      omega
  · rw [if_neg h, decide_eq_false (by omega : ¬ ws.length ≤ 6), Bool.false_and]
theorem one_lt {c d : Nat} : ([c] < [d]) ↔ c < d := by
  rw [List.cons_lt_cons_iff]
  simp
theorem fil_map : ∀ ws : List Str, (ws.filterMap fun w => if isWord w = true then some (V.str w) else none) = (ws.filter isWord).map V.str
  | [] => rfl
  | w :: r => by
    rw [List.filterMap_cons, List.filter_cons, fil_map r]
    split
    · rename_i h
      split at h
      · cases h
      · rename_i n; rw [if_neg n]
    · rename_i h
      split at h
      · rename_i n; cases h; rw [if_pos n]; rfl
      · cases h
theorem star_countV {ws : List Str} : (ws.map V.str).countP (fun z => eqV z (V.str (Str.ofString "*"))) = ws.countP (fun w => decide (w = ("*" : Str))) := by
  rw [List.countP_map]
  refine List.countP_congr fun w _ => ?_
  show (w == (Str.ofString "*")) = true ↔ _
  rw [decide_eq_true_eq, beq_iff_eq]
def sp_law_is_line (K : PySem.W.Frag) : Sp := fun vs H Q _ => ∃ (z : Str) (b : Bool), vs = [.str z, .bl b] ∧ z.length ≤ 9000 ∧ PyData.strOk z = true ∧ ∀ H', Same H H' → Q (.bl (if b = true then isPat z else isLine z)) H'
theorem G_law_is_line (T : Tx K mg) : Glob P w K mg base (CX0) 1 "_law_is_line" p_law_is_line [] (sp_law_is_line K) := by
  obtain ⟨fd, F⟩ := T.f_law_is_line
  refine ⟨_, fd, [], F.ok sc_law_is_line (fun vs H Q E h => ?_) (fun cdv A outer s H vs Q E hr h => ?_), T.g__law_is_line, F.kp, .nil, F.bindsN fun _ _ _ _ _ _ us hl => match us, hl with | [_, _], _ => rfl⟩
  · obtain ⟨z, b, rfl, _⟩ := h; rfl
  · obtain ⟨z, b, rfl, hz, hok, q⟩ := h
    refine ⟨_, PSs.nox (pss_cons (ps_set (i := 2) sc_law_is_line.nd rfl (Or.inl rfl) (pe_split (pv 0) pe_str))
      (pss_cutE (ps_if (PW.pt (pw_and (pt_val (pv 1)) (pw_and1 (pt_cmpR op_eq (pe_ix (ix_listK (K := K) rfl) (pv 2) (pe_un un_neg pe_int) (fun _ _ => rfl)) pe_str (nomark _)))))
      (pss_one (ps_set (i := 2) sc_law_is_line.nd rfl (Or.inl rfl) (pe_slice (sl_listK (K := K) rfl) (pv 2) po_none (po_some (pe_un un_neg pe_int)))))
      (pss_one (ps_if (pt_cmpR (op_eqDK (K := K) rfl hr.units) (pv 2) (pe_lst (pa_cons pe_str pa_nil)) (nomark _))
      (pss_one (ps_ret pe_bl))
      pss_nil)))
      (pss_cutE (ps_setLc (i := 3) (own := [("_law_word", 4)]) (g := (gName 4)) rfl sc_law_is_line.nd rfl rfl (sw_true rfl rfl rfl (by kernel_rfl)) (pi_listK (K := K) rfl (pv 2)) (blkOk_by (by kernel_rfl)) (fun _ _ _ _ _ => (pg_name (i := 4) sc_law_is_line.nd rfl (Or.inl rfl))) (fun _ _ _ _ _ => (pts_one (PW.pt (pw_and (pt_chain op_le op_le pe_int (pe_callB call_len_str (by rfl) T.b_len (by decide +kernel) (pa_cons (pv 4) pa_nil)) pe_int) (pw_and1 (pt_cmpR (op_eqDK (K := K) rfl hr.units) (pe_lc (own := [("_law_sign", 5)]) (g := (gName 5)) rfl sc_law_is_line.nd (pi_str (pv 4)) (blkOk_by (by kernel_rfl)) (fun _ _ _ _ _ => (pg_name (i := 5) sc_law_is_line.nd rfl (Or.inl rfl))) (fun _ _ _ _ _ => (pts_one (pt_not (pt_chain op_le_str op_le_str pe_str (pv 5) pe_str)))) (fun _ _ _ _ _ => (pv 5))) (pe_lst pa_nil) (nomark _))))))) (fun _ _ _ _ _ => (pv 4)))
      (pss_cutE (ps_set (i := 3) sc_law_is_line.nd rfl (Or.inl rfl) (pe_op op_cat (pv 3) (pe_op op_rep (pe_op op_rep (pe_lst (pa_cons pe_str pa_nil)) (pe_bmK (K := K) rfl PySem.F.plainAttrs_list PySem.F.slot_list_count PySem.F.type_list_count (mt_countF (K := K) rfl) (pv 2) (pa_cons pe_str pa_nil))) (pe_callTy call_int1 (by rfl) T.b_int (by decide +kernel) (pa_cons (pv 1) pa_nil)))))
      (pss_one (ps_ret (pe_and (pe_cmpR op_lt (pe_callB (call_len_seqK (K := K) rfl) (by rfl) T.b_len (by decide +kernel) (pa_cons (pv 2) pa_nil)) pe_int (nomark _)) (pe_one (pe_cmpR op_eq (pe_callB (call_len_seqK (K := K) rfl) (by rfl) T.b_len (by decide +kernel) (pa_cons (pv 3) pa_nil)) (pe_callB (call_len_seqK (K := K) rfl) (by rfl) T.b_len (by decide +kernel) (pa_cons (pv 2) pa_nil)) (nomark _)))))))))), ?_⟩
    simp only [tCutE, false_and, exists_false, false_or, or_false, tRet, tRetN, tAndV, tOrV, tNotV, tChain, rI, rI0, rU, tC, tCB, tCons, tNil, tVar, tOp, tUn, tTest, tB, tAnd, tOr, tNot, tIf, tIfS, tSeq, tAsg, tDrop, tNext, gName, gTup_ref, gCons_cons, gNil_nil, and_assoc, tYes, wipe, rEq, rNe, scal_ss, scal_ii, scal_bb, scal_ns, scal_sn, scal_nn, scal_in, scal_ni, tLc_eq, tFor_eq, iList, iTup, iStr, iRng1, iRng2, iZip, iEnum, gSub, tSl, rSetL_ref, rCat_ref, rRep_ref, rJoin_ref, rSlL_ref, rSlS_ref, rMulS_ref, rIxL_ref, rIxT_ref, rLenK_ref, rAll_ref, rIn_ref, tLst, tTup, tPar, tPar3, tAug, tPart, tNoPart, tCall, List.getElem?_cons_zero, List.getElem?_cons_succ, List.set_cons_zero, List.set_cons_succ, List.map_cons, List.map_nil, List.append_nil, List.nil_append, List.cons_append, Option.some.injEq, exists_eq_left', exists_eq_left, exists_eq_right, exists_eq_right', exists_eq', V.int.injEq, V.str.injEq, V.bl.injEq, V.ref.injEq, List.cons.injEq, tM0, tM1, rNewStrs, sgn_eq, split_dot, split_sp, split_nl, dot_len, sp_len, nl_len, cxOf_K, L2.start, List.length_cons, List.length_nil, List.replicate_succ, List.replicate_zero, Nat.reduceSub, Nat.zero_add, and_true, true_and, and_self, exists_and_left, exists_const, Bool.false_eq_true, if_false, if_true, ite_true, ite_false, reduceIte, decide_eq_true_eq, reduceCtorEq, Nat.reduceAdd, Nat.reduceLT, tListZip, tCallX, tCallV, tCallVS, tLam1, tLamD, tCls, cx_cells, cx_scope, cx_N, cx_prog, cx_w, cx_base, cx_qual]
    have hl := wds_len z
    have hne := wds_ne z
    have hwo : ∀ w ∈ wds z, PyData.strOk w = true := split_ok (by decide +kernel) (kind_ok (by decide +kernel)) hok
    refine ⟨small (by omega), fun p hp => ?_⟩
    generalize hH1 : upd H p _ = H1
    obtain ⟨s1, f1⟩ := newF hH1 hp
    obtain ⟨R1, hR1⟩ : ∃ R : L2.St → Hp → Prop, ∀ σ H', R σ H' ↔ ∃ (a : Addr) (ws : List Str), σ = [some (.str z), some (.bl b), some (.ref a), none, none, none] ∧ Same H H' ∧ H' a = some (.lst (ws.map V.str)) ∧ (if b = true then isPat z else isLine z) = (decide (ws.length ≤ 6) && ws.all (if b = true then starOr else isWord)) ∧ (∀ w ∈ ws, w ∈ wds z) ∧ ws.length ≤ (wds z).length := ⟨_, fun _ _ => Iff.rfl⟩
    have cond : ∀ H2, H2 = H1 → (b = true → (wds z).getLast? ≠ some ("#" : Str)) → 1 ≤ sizeLine ∧ ∀ (p_1 : Addr), H2 p_1 = none → rEqD K (V.ref p) (V.ref p_1) (upd H2 p_1 (HO.lst [V.str (Str.ofString "")])) fun x H' => ∃ k, x = V.bl k ∧ if k = true then Q (V.bl false) H' else R1 [some (V.str z), some (V.bl b), some (V.ref p), none, none, none] H' := by
      intro H2 e2 hnl
      subst e2
      refine ⟨by decide, fun p1 hp1 => ?_⟩
      have np : p ≠ p1 := ne_of_none f1 hp1
      have s3 : Same H (upd H2 p1 (.lst [V.str (Str.ofString "")])) := same_new s1 hp1
      refine ⟨.list ((wds z).map PyData.str), .list ([("" : Str)].map PyData.str), .lst (.of (by rw [upd_ne np]; exact f1)) (dpAll_map fun a _ => .str _), .lst (.of upd_same) (.cons (.str _) .nil), shaped_strs hwo, by decide +kernel, _, rfl, ?_⟩
      have e5 : PyData.eqv (.list ((wds z).map PyData.str)) (.list ([("" : Str)].map PyData.str)) = decide (wds z = [("" : Str)]) := by
        simp only [PyData.eqv]
        exact eqv_strs _ _
      rw [e5]
      have hcut : b = true → cut (wds z) = wds z := fun hb => by unfold cut; exact if_neg (hnl hb)
      have hst : (if b = true then isPat z else isLine z) = (decide ((wds z).length ≤ 6) && (wds z).all (if b = true then starOr else isWord)) := by
        cases b with
        | true => simp only [if_true]; unfold isPat; rw [hcut rfl]
        | false => simp only [Bool.false_eq_true, if_false]; rfl
      by_cases hw : wds z = [("" : Str)]
      · refine ifP (by rw [decide_eq_true hw]) ?_
        have : (if b = true then isPat z else isLine z) = false := by
          rw [hst, hw]
          cases b <;> decide +kernel
        rw [← this]
        exact q _ s3
      · refine ifN (by rw [decide_eq_false hw]; simp) ((hR1 _ _).mpr ⟨p, wds z, rfl, s3, by rw [upd_ne np]; exact f1, hst, fun w h => h, Nat.le_refl _⟩)
    refine ⟨R1, ?_, fun σ1 H2 h1 => ?_⟩
    · by_cases hb : b = true
      · refine ifP hb ?_
        obtain ⟨x, e1, e2⟩ := last_str hne
        refine ⟨_, .of f1, .str x, (atI_neg1 (by simpa using hne)).trans e1, rfl, ?_⟩
        by_cases hx : x = ("#" : Str)
        · subst hx
          refine ifP rfl ⟨_, .of f1, fun p1 hp1 => (hR1 _ _).mpr ⟨p1, (wds z).dropLast, rfl, same_new s1 hp1, by rw [upd_same, cut_last, List.map_dropLast], ?_, fun w hw => List.dropLast_subset _ hw, by rw [List.length_dropLast]; omega⟩⟩
          rw [if_pos hb, if_pos hb]
          unfold isPat cut
          rw [if_pos e2]
        · exact ifN (fun z => hx (V.str.inj z)) (cond H1 rfl fun _ => by rw [e2]; exact fun z => hx (Option.some.inj z))
      · exact ifN hb (cond H1 rfl fun z => absurd z hb)
    · obtain ⟨a, ws, rfl, s2, fa, hst, hsub, hwl⟩ := (hR1 _ _).mp h1
      obtain ⟨R2, hR2⟩ : ∃ R : L2.St → Hp → Prop, ∀ σ H', R σ H' ↔ ∃ (g : Addr) (e5 : Option V), σ = [some (.str z), some (.bl b), some (.ref a), some (.ref g), none, e5] ∧ Same H2 H' ∧ H' g = some (.lst ((ws.filter isWord).map V.str)) := ⟨_, fun _ _ => Iff.rfl⟩
      refine ⟨R2, ⟨_, rfl, a, rfl, ⟨_, .of fa⟩, ?_⟩, fun σ3 H3 h3 => ?_⟩
      · refine lc_fil ws (fun w => if isWord w = true then some (V.str w) else none) (walk_listm ws V.str) (by omega) (fun H3 s3 => s3.seq (.of fa)) (fun i w x H3 H4 R hx s3 hy r => ?_) (fun D H3 nD s3 hD => ?_)
        · obtain ⟨rfl, y, hy, rfl⟩ := hy
          cases Option.some.inj (hx.symm.trans hy)
          have hwm := hsub w (List.mem_of_getElem? hx)
          have hwlen := wds_each z w hwm
          rw [word_iff] at r
          have htl : (tl w).length ≤ 9000 := by rw [← len_tl]; omega
          simp only [tCutE, false_and, exists_false, false_or, or_false, tRet, tRetN, tAndV, tOrV, tNotV, tChain, rI, rI0, rU, tC, tCB, tCons, tNil, tVar, tOp, tUn, tTest, tB, tAnd, tOr, tNot, tIf, tIfS, tSeq, tAsg, tDrop, tNext, gName, gTup_ref, gCons_cons, gNil_nil, and_assoc, tYes, wipe, rEq, rNe, scal_ss, scal_ii, scal_bb, scal_ns, scal_sn, scal_nn, scal_in, scal_ni, tLc_eq, tFor_eq, iList, iTup, iStr, iRng1, iRng2, iZip, iEnum, gSub, tSl, rSetL_ref, rCat_ref, rRep_ref, rJoin_ref, rSlL_ref, rSlS_ref, rMulS_ref, rIxL_ref, rIxT_ref, rLenK_ref, rAll_ref, rIn_ref, tLst, tTup, tPar, tPar3, tAug, tPart, tNoPart, tCall, List.getElem?_cons_zero, List.getElem?_cons_succ, List.set_cons_zero, List.set_cons_succ, List.map_cons, List.map_nil, List.append_nil, List.nil_append, List.cons_append, Option.some.injEq, exists_eq_left', exists_eq_left, exists_eq_right, exists_eq_right', exists_eq', V.int.injEq, V.str.injEq, V.bl.injEq, V.ref.injEq, List.cons.injEq, tM0, tM1, rNewStrs, sgn_eq, split_dot, split_sp, split_nl, dot_len, sp_len, nl_len, cxOf_K, L2.start, List.length_cons, List.length_nil, List.replicate_succ, List.replicate_zero, Nat.reduceSub, Nat.zero_add, and_true, true_and, and_self, exists_and_left, exists_const, Bool.false_eq_true, if_false, if_true, ite_true, ite_false, reduceIte, decide_eq_true_eq, reduceCtorEq, Nat.reduceAdd, Nat.reduceLT, tListZip, tCallX, tCallV, tCallVS, tLam1, tLamD, tCls, cx_cells, cx_scope, cx_N, cx_prog, cx_w, cx_base, cx_qual]
          refine ⟨small (by omega), ?_⟩
          by_cases h1 : (1 : Int) ≤ (w.length : Int)
          · refine ifP h1 ?_
            by_cases h4 : (w.length : Int) ≤ 4
            · refine ifP h4 ?_
              rw [decide_eq_true h1, decide_eq_true h4, Bool.true_and, Bool.true_and] at r
              refine lc_fil (tl w) (fun c => if 97 ≤ c ∧ c ≤ 122 then none else some (V.str ⟨#[c]⟩)) walk_str (by omega) (fun _ _ => trivial) (fun j c x H5 H6 R2 hc s5 hy r2 => ?_) (fun D H5 nD s5 hD => ?_)
              · obtain ⟨rfl, c', hc', rfl⟩ := hy
                have e : c' = c := by
                  rw [Array.getElem?_toList] at hc
                  exact Option.some.inj (hc'.symm.trans hc)
                subst e
                have ea : tl (Str.ofString "a") = [97] := by decide +kernel
                have ez : tl (Str.ofString "z") = [122] := by decide +kernel
                simp only [tCutE, false_and, exists_false, false_or, or_false, tRet, tRetN, tAndV, tOrV, tNotV, tChain, rI, rI0, rU, tC, tCB, tCons, tNil, tVar, tOp, tUn, tTest, tB, tAnd, tOr, tNot, tIf, tIfS, tSeq, tAsg, tDrop, tNext, gName, gTup_ref, gCons_cons, gNil_nil, and_assoc, tYes, wipe, rEq, rNe, scal_ss, scal_ii, scal_bb, scal_ns, scal_sn, scal_nn, scal_in, scal_ni, tLc_eq, tFor_eq, iList, iTup, iStr, iRng1, iRng2, iZip, iEnum, gSub, tSl, rSetL_ref, rCat_ref, rRep_ref, rJoin_ref, rSlL_ref, rSlS_ref, rMulS_ref, rIxL_ref, rIxT_ref, rLenK_ref, rAll_ref, rIn_ref, tLst, tTup, tPar, tPar3, tAug, tPart, tNoPart, tCall, List.getElem?_cons_zero, List.getElem?_cons_succ, List.set_cons_zero, List.set_cons_succ, List.map_cons, List.map_nil, List.append_nil, List.nil_append, List.cons_append, Option.some.injEq, exists_eq_left', exists_eq_left, exists_eq_right, exists_eq_right', exists_eq', V.int.injEq, V.str.injEq, V.bl.injEq, V.ref.injEq, List.cons.injEq, tM0, tM1, rNewStrs, sgn_eq, split_dot, split_sp, split_nl, dot_len, sp_len, nl_len, cxOf_K, L2.start, List.length_cons, List.length_nil, List.replicate_succ, List.replicate_zero, Nat.reduceSub, Nat.zero_add, and_true, true_and, and_self, exists_and_left, exists_const, Bool.false_eq_true, if_false, if_true, ite_true, ite_false, reduceIte, decide_eq_true_eq, reduceCtorEq, Nat.reduceAdd, Nat.reduceLT, tListZip, tCallX, tCallV, tCallVS, tLam1, tLamD, tCls, cx_cells, cx_scope, cx_N, cx_prog, cx_w, cx_base, cx_qual]
                rw [show (Str.ofString "a").cps.toList = [97] from ea, show (Str.ofString "z").cps.toList = [122] from ez]
                by_cases h97 : c' < 97
                · rw [if_neg (by omega)] at r2
                  exact ifN (by rw [decide_eq_true (one_lt.mpr h97)]; simp) (ifP rfl (r2 _ (Same.refl _)))
                · refine ifP (by rw [decide_eq_false (fun z => h97 (one_lt.mp z))]; rfl) ?_
                  by_cases h122 : 122 < c'
                  · rw [if_neg (by omega)] at r2
                    exact ifP (by rw [decide_eq_true (one_lt.mpr h122)]; rfl) (r2 _ (Same.refl _))
                  · rw [if_pos (by omega)] at r2
                    exact ifN (by rw [decide_eq_false (fun z => h122 (one_lt.mp z))]; simp) (r2 _ (Same.refl _))
              · have eD : ((tl w).filterMap fun c => if 97 ≤ c ∧ c ≤ 122 then none else some (V.str ⟨#[c]⟩)) = (((tl w).filterMap fun c => if 97 ≤ c ∧ c ≤ 122 then none else some c).map fun c => (⟨#[c]⟩ : Str)).map V.str := by
                  rw [List.map_map, List.map_filterMap]
                  congr 1
                  funext c
                  split <;> rfl
                rw [eD] at hD
                have hco : ∀ u ∈ ((tl w).filterMap fun c => if 97 ≤ c ∧ c ≤ 122 then none else some c).map (fun c => (⟨#[c]⟩ : Str)), PyData.strOk u = true := fun u hu => by
                  obtain ⟨c, hc, rfl⟩ := List.mem_map.mp hu
                  obtain ⟨c2, hc2, e⟩ := List.mem_filterMap.mp hc
                  split at e
                  · cases e
                  · have e := Option.some.inj e
                    rw [e] at hc2
                    refine strOk_iff.mpr fun d hd => ?_
                    have : d = c := by simpa using hd
                    rw [this]
                    exact strOk_iff.mp (hwo w hwm) c hc2
                refine ⟨by decide, fun p5 hp5 => ?_⟩
                have n5 : D ≠ p5 := ne_of_none hD hp5
                refine ⟨.list ((((tl w).filterMap fun c => if 97 ≤ c ∧ c ≤ 122 then none else some c).map fun c => (⟨#[c]⟩ : Str)).map PyData.str), .list [], .lst (.of (by rw [upd_ne n5]; exact hD)) (dpAll_map fun a _ => .str _), .lst (.of upd_same) .nil, shaped_strs hco, by decide, _, rfl, ?_⟩
                rw [eqv_nil, List.isEmpty_map, List.isEmpty_map]
                have s6 := same_new (o := .lst []) s5 hp5
                by_cases hE : ((tl w).filterMap fun c => if 97 ≤ c ∧ c ≤ 122 then none else some c).isEmpty = true
                · rw [if_pos hE] at r
                  exact ifP hE (r _ s6)
                · rw [if_neg hE] at r
                  exact ifN hE (r _ s6)
            · refine ifN h4 ?_
              rw [decide_eq_false h4, Bool.false_and, Bool.and_false] at r
              exact r _ (Same.refl _)
          · refine ifN h1 ?_
            rw [decide_eq_false h1, Bool.false_and] at r
            exact r _ (Same.refl _)
        · rw [fil_map] at hD
          exact (hR2 _ _).mpr ⟨D, _, rfl, s3, hD⟩
      · obtain ⟨g, e5, rfl, s3, fg⟩ := (hR2 _ _).mp h3
        have fa3 := s3 _ _ fa
        obtain ⟨R3, hR3⟩ : ∃ R : L2.St → Hp → Prop, ∀ σ H', R σ H' ↔ ∃ (g : Addr) (us : List V), σ = [some (.str z), some (.bl b), some (.ref a), some (.ref g), none, e5] ∧ Same H2 H' ∧ H' g = some (.lst us) ∧ us.length = ws.countP isWord + ws.countP (fun w => decide (w = ("*" : Str))) * (if b = true then 1 else 0) := ⟨_, fun _ _ => Iff.rfl⟩
        have hcs : ws.countP (fun w => decide (w = ("*" : Str))) ≤ ws.length := List.countP_le_length
        have hcw : (ws.filter isWord).length = ws.countP isWord := List.countP_eq_length_filter.symm
        have hcw2 : ws.countP isWord ≤ ws.length := List.countP_le_length
        have hws : ws.length ≤ 9001 := by omega
        refine ⟨R3, ⟨_, rfl, by decide, fun p1 hp1 => ?_⟩, fun σ4 H4 h4 => ?_⟩
        · generalize hH5 : upd H3 p1 _ = H5
          obtain ⟨s5, f5⟩ := newF hH5 hp1
          have fa5 := s5 _ _ fa3
          refine ⟨_, rfl, .inl ⟨rfl, _, .of fa5⟩, a, _, _, rfl, rfl, .of fa5, rfl, by simp [flatV], ?_⟩
          rw [star_countV]
          refine ⟨p1, _, _, rfl, rfl, f5, by omega, by omega, ?_, fun p2 hp2 => ?_⟩
          · simp only [List.length_singleton, Int.toNat_natCast]; exact small (by omega)
          generalize hH6 : upd H5 p2 _ = H6
          obtain ⟨s6, f6⟩ := newF hH6 hp2
          have hb01 : (if b = true then (1 : Int) else 0) = 0 ∨ (if b = true then (1 : Int) else 0) = 1 := by cases b <;> simp
          refine ⟨_, rfl, .inr ⟨b, rfl, p2, _, _, rfl, rfl, f6, by omega, by omega, ?_, fun p3 hp3 => ?_⟩⟩
          · rw [List.length_flatten, List.map_replicate, List.sum_replicate_nat]
            simp only [List.length_singleton, Int.toNat_natCast, Nat.mul_one]
            refine small ?_
            cases b <;> simp <;> omega
          generalize hH7 : upd H6 p3 _ = H7
          obtain ⟨s7, f7⟩ := newF hH7 hp3
          have fg7 := s7 _ _ (s6 _ _ (s5 _ _ fg))
          have lf : ((List.replicate (if b = true then (1 : Int) else 0).toNat ((List.replicate ((ws.countP (fun w => decide (w = ("*" : Str))) : Nat) : Int).toNat [V.str (Str.ofString "*")]).flatten)).flatten).length = ws.countP (fun w => decide (w = ("*" : Str))) * (if b = true then 1 else 0) := by
            rw [List.length_flatten, List.map_replicate, List.sum_replicate_nat, List.length_flatten, List.map_replicate, List.sum_replicate_nat]
            cases b <;> simp
          refine ⟨g, p3, _, _, rfl, rfl, fg7, f7, ?_, fun p4 hp4 => (hR3 _ _).mpr ⟨p4, _, rfl, ?_, upd_same, ?_⟩⟩
          · rw [lf, List.length_map, hcw]
            refine small ?_
            cases b <;> simp <;> omega
          · exact same_new (((s3.trans s5).trans s6).trans s7) hp4
          · rw [List.length_append, lf, List.length_map, hcw]
        · obtain ⟨g4, us, rfl, s4, fg4, hus⟩ := (hR3 _ _).mp h4
          have fa4 := s4 _ _ fa
          have s4' := s2.trans s4
          refine ⟨_, rfl, a, _, rfl, .inl (.of fa4), _, rfl, ?_⟩
          rw [List.length_map]
          have he := end_ok (ws := ws) (b := b)
          rw [← hst] at he
          by_cases h7 : (ws.length : Int) < 7
          · rw [if_pos h7, ← hus] at he
            refine ifP h7 ⟨_, rfl, g4, us, rfl, .inl (.of fg4), _, rfl, a, _, rfl, .inl (.of fa4), rfl, ?_⟩
            rw [List.length_map]
            have e6 : decide (V.int (us.length : Int) = V.int (ws.length : Int)) = (if b = true then isPat z else isLine z) := by
              rw [he]
              simp only [V.int.injEq]
            rw [e6]
            exact q _ s4'
          · rw [if_neg h7] at he
            refine ifN h7 ?_
            rw [← he]
            exact q _ s4'
/-! ### _law_text -/
/-- words of this law: short, of few signs -/
def oddWord (w : Str) : Prop := w.length ≤ 5 ∧ PyData.strOk w = true
theorem azq_all : ∀ c ∈ tl (Str.ofString "azq"), c < 1114112 := by decide +kernel
def menu13 (w : Str) : List Str := [w, w, w, w, "*", "#", "", "A", "a1", "abcde", "a b", "**", "a*"]
theorem menu_ok {w : Str} (h : oddWord w) : ∀ u ∈ menu13 w, oddWord u := by
  have e : ∀ u ∈ (["*", "#", "", "A", "a1", "abcde", "a b", "**", "a*"] : List Str), u.length ≤ 5 ∧ PyData.strOk u = true := by decide +kernel
  intro u hu
  unfold menu13 at hu
  rcases List.mem_cons.mp hu with z | hu
  · rw [z]; exact h
  rcases List.mem_cons.mp hu with z | hu
  · rw [z]; exact h
  rcases List.mem_cons.mp hu with z | hu
  · rw [z]; exact h
  rcases List.mem_cons.mp hu with z | hu
  · rw [z]; exact h
  exact e u hu
theorem odd_join {ws : List Str} (h : ∀ w ∈ ws, oddWord w) : PyData.strOk (Txt.join "." ws) = true := strOk_iff.mpr fun c hc => by
  rw [join_eq, tl_join] at hc
  have main : ∀ (ps : List (List Nat)), (∀ p ∈ ps, ∀ c ∈ p, c < 1114112) → ∀ c ∈ joinL [46] ps, c < 1114112 := by
    intro ps
    induction ps with
    | nil => intro _ c hc; simp [joinL] at hc
    | cons p r ih =>
      intro hp c hc
      cases r with
      | nil =>
        have hc : c ∈ p := by simpa [joinL] using hc
        exact hp p (List.mem_cons_self ..) c hc
      | cons q r =>
        have hc : c ∈ p ++ ([46] ++ joinL [46] (q :: r)) := hc
        rcases List.mem_append.mp hc with hc | hc
        · exact hp p (List.mem_cons_self ..) c hc
        · rcases List.mem_append.mp hc with hc | hc
          · have := List.mem_singleton.mp hc
            omega
          · exact ih (fun x hx => hp x (List.mem_cons_of_mem _ hx)) c hc
  rw [show tl ("." : Str) = [46] by decide +kernel] at hc
  refine main _ (fun p hp => ?_) c hc
  obtain ⟨w, hw, rfl⟩ := List.mem_map.mp hp
  exact strOk_iff.mp (h w hw).2
def sp_law_text : Sp := fun vs H Q _ => ∃ (h l : Addr), vs = [.ref h] ∧ SrcOk H h l ∧
  ∀ H' (z : Str), Ext (DrS h l) H H' → SrcOk H' h l → z.length ≤ 100 → PyData.strOk z = true → Q (.str z) H'
theorem G_law_text (T : Tx K mg) : Glob P w K mg base (CX0) 2 "_law_text" p_law_text [] sp_law_text := by
  obtain ⟨fd, F⟩ := T.f_law_text
  refine ⟨_, fd, [], F.ok sc_law_text (fun vs H Q E h => ?_) (fun cdv A outer s H vs Q E hr h => ?_), T.g__law_text, F.kp, .nil, F.bindsN fun _ _ _ _ _ _ us hl => match us, hl with | [_], _ => rfl⟩
  · obtain ⟨h, l, rfl, _⟩ := h; rfl
  · obtain ⟨h, l, rfl, hS, q⟩ := h
    refine ⟨_, PSs.nox (pss_cons (ps_set (i := 1) sc_law_text.nd rfl (Or.inl rfl) (pe_lst pa_nil))
      (pss_cons (ps_for PassesOwn.never rfl (pi_range1 (by rfl) T.b_range (pa_cons (pe_op op_add pe_int (pe_callG (G_law_next T) (hr.mono (by decide)) (by rfl) pass0 (pa_cons (pv 0) (pa_cons pe_int pa_nil)))) pa_nil)) (pg_name (i := 2) sc_law_text.nd rfl (Or.inl rfl))
      (pss_cons (ps_set (i := 3) sc_law_text.nd rfl (Or.inl rfl) (pe_joinK (K := K) rfl pe_str (pe_lc (own := [("_law_j", 4)]) (g := (gName 4)) (tt := tYes) rfl sc_law_text.nd (pi_range1 (by rfl) T.b_range (pa_cons (pe_op op_add pe_int (pe_callG (G_law_next T) (hr.mono (by decide)) (by rfl) pass0 (pa_cons (pv 0) (pa_cons pe_int pa_nil)))) pa_nil)) (blkOk_by (by kernel_rfl)) (fun _ _ _ _ _ => (pg_name (i := 4) sc_law_text.nd rfl (Or.inl rfl))) (fun _ _ _ _ _ => pts_nil) (fun _ _ _ _ _ => (pe_item_str pe_str (pe_callG (G_law_next T) (hr.mono (by decide)) (by rfl) pass0 (pa_cons (pv 0) (pa_cons pe_int pa_nil))) (fun _ _ => rfl))))))
      (pss_one (ps_expr (pe_bmK (K := K) rfl PySem.F.plainAttrs_list PySem.F.slot_list_append PySem.F.type_list_append mt_append (pv 1) (pa_cons (pe_ix (ix_listK (K := K) rfl) (pe_lst (pa_cons (pv 3) (pa_cons (pv 3) (pa_cons (pv 3) (pa_cons (pv 3) (pa_cons pe_str (pa_cons pe_str (pa_cons pe_str (pa_cons pe_str (pa_cons pe_str (pa_cons pe_str (pa_cons pe_str (pa_cons pe_str (pa_cons pe_str pa_nil)))))))))))))) (pe_callG (G_law_next T) (hr.mono (by decide)) (by rfl) pass0 (pa_cons (pv 0) (pa_cons pe_int pa_nil))) (fun _ _ => rfl)) pa_nil))))))
      (pss_one (ps_ret (pe_joinK (K := K) rfl pe_str (pv 1)))))), ?_⟩
    simp only [tCutE, false_and, exists_false, false_or, or_false, tRet, tRetN, tAndV, tOrV, tNotV, tChain, rI, rI0, rU, tC, tCB, tCons, tNil, tVar, tOp, tUn, tTest, tB, tAnd, tOr, tNot, tIf, tIfS, tSeq, tAsg, tDrop, tNext, gName, gTup_ref, gCons_cons, gNil_nil, and_assoc, tYes, wipe, rEq, rNe, scal_ss, scal_ii, scal_bb, scal_ns, scal_sn, scal_nn, scal_in, scal_ni, tLc_eq, tFor_eq, iList, iTup, iStr, iRng1, iRng2, iZip, iEnum, gSub, tSl, rSetL_ref, rCat_ref, rRep_ref, rJoin_ref, rSlL_ref, rSlS_ref, rMulS_ref, rIxL_ref, rIxT_ref, rLenK_ref, rAll_ref, rIn_ref, tLst, tTup, tPar, tPar3, tAug, tPart, tNoPart, tCall, List.getElem?_cons_zero, List.getElem?_cons_succ, List.set_cons_zero, List.set_cons_succ, List.map_cons, List.map_nil, List.append_nil, List.nil_append, List.cons_append, Option.some.injEq, exists_eq_left', exists_eq_left, exists_eq_right, exists_eq_right', exists_eq', V.int.injEq, V.str.injEq, V.bl.injEq, V.ref.injEq, List.cons.injEq, tM0, tM1, rNewStrs, sgn_eq, split_dot, split_sp, split_nl, dot_len, sp_len, nl_len, cxOf_K, L2.start, List.length_cons, List.length_nil, List.replicate_succ, List.replicate_zero, Nat.reduceSub, Nat.zero_add, and_true, true_and, and_self, exists_and_left, exists_const, Bool.false_eq_true, if_false, if_true, ite_true, ite_false, reduceIte, decide_eq_true_eq, reduceCtorEq, Nat.reduceAdd, Nat.reduceLT, tListZip, tCallX, tCallV, tCallVS, tLam1, tLamD, tCls, cx_cells, cx_scope, cx_N, cx_prog, cx_w, cx_base, cx_qual]
    refine ⟨by decide, fun p hp => ?_⟩
    have S1 := hS.new (o := .lst []) hp
    have x1 : Ext (DrS h l) H (upd H p (.lst [])) := (Ext.refl _ _).new hp (hS.nD hp)
    have nph : p ≠ h := (hS.neD hp).1
    have npl : p ≠ l := (hS.neD hp).2
    have npS : ¬ DrS h l p := hS.nD hp
    refine ⟨h, l, 7, rfl, S1, by decide, by decide, fun H2 r2 x2 S2 h20 h21 => ⟨_, rfl, by omega, by omega, ?_⟩⟩
    obtain ⟨Pv, hPv⟩ : ∃ Pv : Nat → L2.St → Hp → Prop, ∀ i σ H', Pv i σ H' ↔ ∃ (c d e : Option V) (ws : List Str), σ = [some (.ref h), some (.ref p), c, d, e] ∧ Ext (DrS h l) H H' ∧ SrcOk H' h l ∧ H' p = some (.lst (ws.map V.str)) ∧ ws.length = i ∧ ∀ w ∈ ws, oddWord w := ⟨_, fun _ _ _ => Iff.rfl⟩
    refine forG walk_range Pv ((hPv _ _ _).mpr ⟨_, _, _, [], rfl, x1.trans x2, S2, x2 _ _ npS upd_same, rfl, fun _ h => nomatch h⟩) (fun _ _ _ _ _ => trivial) (fun i x σ Ha Hb hi hP hy => ?_) (fun σ Ha hP => ?_)
    · obtain ⟨rfl, rfl⟩ := hy
      obtain ⟨c, d, e, ws, rfl, xa, Sa, fp, hwl, hws⟩ := (hPv _ _ _).mp hP
      simp only [tCutE, false_and, exists_false, false_or, or_false, tRet, tRetN, tAndV, tOrV, tNotV, tChain, rI, rI0, rU, tC, tCB, tCons, tNil, tVar, tOp, tUn, tTest, tB, tAnd, tOr, tNot, tIf, tIfS, tSeq, tAsg, tDrop, tNext, gName, gTup_ref, gCons_cons, gNil_nil, and_assoc, tYes, wipe, rEq, rNe, scal_ss, scal_ii, scal_bb, scal_ns, scal_sn, scal_nn, scal_in, scal_ni, tLc_eq, tFor_eq, iList, iTup, iStr, iRng1, iRng2, iZip, iEnum, gSub, tSl, rSetL_ref, rCat_ref, rRep_ref, rJoin_ref, rSlL_ref, rSlS_ref, rMulS_ref, rIxL_ref, rIxT_ref, rLenK_ref, rAll_ref, rIn_ref, tLst, tTup, tPar, tPar3, tAug, tPart, tNoPart, tCall, List.getElem?_cons_zero, List.getElem?_cons_succ, List.set_cons_zero, List.set_cons_succ, List.map_cons, List.map_nil, List.append_nil, List.nil_append, List.cons_append, Option.some.injEq, exists_eq_left', exists_eq_left, exists_eq_right, exists_eq_right', exists_eq', V.int.injEq, V.str.injEq, V.bl.injEq, V.ref.injEq, List.cons.injEq, tM0, tM1, rNewStrs, sgn_eq, split_dot, split_sp, split_nl, dot_len, sp_len, nl_len, cxOf_K, L2.start, List.length_cons, List.length_nil, List.replicate_succ, List.replicate_zero, Nat.reduceSub, Nat.zero_add, and_true, true_and, and_self, exists_and_left, exists_const, Bool.false_eq_true, if_false, if_true, ite_true, ite_false, reduceIte, decide_eq_true_eq, reduceCtorEq, Nat.reduceAdd, Nat.reduceLT, tListZip, tCallX, tCallV, tCallVS, tLam1, tLamD, tCls, cx_cells, cx_scope, cx_N, cx_prog, cx_w, cx_base, cx_qual]
      refine ⟨h, l, 4, rfl, Sa, by decide, by decide, fun H3 r3 x3 S3 h30 h31 => ⟨_, rfl, by omega, by omega, ?_⟩⟩
      refine lc_acc walk_range (DrS h l) (fun H => SrcOk H h l) (fun i acc => ∃ cs : List Nat, acc = cs.map (fun c => V.str ⟨#[c]⟩) ∧ cs.length = i ∧ ∀ c ∈ cs, c < 1114112) (smallLt (by omega)) (fun D nD => S3.nD nD) ⟨[], rfl, rfl, fun _ h => nomatch h⟩ S3 (fun D H o nD s => s.put (S3.neD nD).1 (S3.neD nD).2) (fun _ _ _ => trivial) (fun j y Hc Hd acc2 R2 hj xc Sc pc hy q0 q1 => ?_) (fun D acc2 Hc nD pc lc xc Sc hD => ?_)
      · obtain ⟨rfl, rfl⟩ := hy
        obtain ⟨cs, rfl, hcl, hcs⟩ := pc
        simp only [tCutE, false_and, exists_false, false_or, or_false, tRet, tRetN, tAndV, tOrV, tNotV, tChain, rI, rI0, rU, tC, tCB, tCons, tNil, tVar, tOp, tUn, tTest, tB, tAnd, tOr, tNot, tIf, tIfS, tSeq, tAsg, tDrop, tNext, gName, gTup_ref, gCons_cons, gNil_nil, and_assoc, tYes, wipe, rEq, rNe, scal_ss, scal_ii, scal_bb, scal_ns, scal_sn, scal_nn, scal_in, scal_ni, tLc_eq, tFor_eq, iList, iTup, iStr, iRng1, iRng2, iZip, iEnum, gSub, tSl, rSetL_ref, rCat_ref, rRep_ref, rJoin_ref, rSlL_ref, rSlS_ref, rMulS_ref, rIxL_ref, rIxT_ref, rLenK_ref, rAll_ref, rIn_ref, tLst, tTup, tPar, tPar3, tAug, tPart, tNoPart, tCall, List.getElem?_cons_zero, List.getElem?_cons_succ, List.set_cons_zero, List.set_cons_succ, List.map_cons, List.map_nil, List.append_nil, List.nil_append, List.cons_append, Option.some.injEq, exists_eq_left', exists_eq_left, exists_eq_right, exists_eq_right', exists_eq', V.int.injEq, V.str.injEq, V.bl.injEq, V.ref.injEq, List.cons.injEq, tM0, tM1, rNewStrs, sgn_eq, split_dot, split_sp, split_nl, dot_len, sp_len, nl_len, cxOf_K, L2.start, List.length_cons, List.length_nil, List.replicate_succ, List.replicate_zero, Nat.reduceSub, Nat.zero_add, and_true, true_and, and_self, exists_and_left, exists_const, Bool.false_eq_true, if_false, if_true, ite_true, ite_false, reduceIte, decide_eq_true_eq, reduceCtorEq, Nat.reduceAdd, Nat.reduceLT, tListZip, tCallX, tCallV, tCallVS, tLam1, tLamD, tCls, cx_cells, cx_scope, cx_N, cx_prog, cx_w, cx_base, cx_qual]
        refine ⟨h, l, 3, rfl, Sc, by omega, by omega, fun H4 r4 x4 S4 h40 h41 => ⟨_, rfl, h40, by omega, ?_, ?_⟩⟩
        · have : (Str.ofString "azq").length = 3 := by decide +kernel
          rw [this]; omega
        · have hll : (tl (Str.ofString "azq")).length = 3 := by decide +kernel
          have hlt : r4.toNat < (tl (Str.ofString "azq")).length := by omega
          have hg : (Str.ofString "azq").cps[r4.toNat]? = some (tl (Str.ofString "azq"))[r4.toNat] := by
            rw [← Array.getElem?_toList]
            exact List.getElem?_eq_getElem hlt
          refine ⟨_, hg, q1 _ _ x4 S4 ⟨cs ++ [(tl (Str.ofString "azq"))[r4.toNat]], by rw [List.map_append]; rfl, by rw [List.length_append, hcl]; rfl, fun d hd => ?_⟩⟩
          rcases List.mem_append.mp hd with hd | hd
          · exact hcs d hd
          · rw [List.mem_singleton.mp hd]; exact azq_all _ (List.getElem_mem hlt)
      · obtain ⟨cs, rfl, hcl, hcs⟩ := pc
        refine ⟨_, D, cs.map fun c => (⟨#[c]⟩ : Str), rfl, rfl, .inl (.of (by rw [hD, List.map_map]; rfl)), ?_, ?_⟩
        · rw [sum_one, List.length_map]
          have : (Str.ofString "").length = 0 := by decide +kernel
          rw [this]; omega
        have et := tl_signs cs
        have hodd : oddWord (Txt.join (Str.ofString "") (cs.map fun c => (⟨#[c]⟩ : Str))) := ⟨by rw [len_tl, et]; omega, strOk_iff.mpr fun c hc => hcs c (by rw [et] at hc; exact hc)⟩
        generalize hW : Txt.join (Str.ofString "") (cs.map fun c => (⟨#[c]⟩ : Str)) = W at hodd
        have xH := xa.trans (x3.trans xc)
        have fpc := xc _ _ npS (x3 _ _ npS fp)
        refine ⟨_, rfl, .inl ⟨rfl, _, .of fpc⟩, ?_⟩
        simp only [tCutE, false_and, exists_false, false_or, or_false, tRet, tRetN, tAndV, tOrV, tNotV, tChain, rI, rI0, rU, tC, tCB, tCons, tNil, tVar, tOp, tUn, tTest, tB, tAnd, tOr, tNot, tIf, tIfS, tSeq, tAsg, tDrop, tNext, gName, gTup_ref, gCons_cons, gNil_nil, and_assoc, tYes, wipe, rEq, rNe, scal_ss, scal_ii, scal_bb, scal_ns, scal_sn, scal_nn, scal_in, scal_ni, tLc_eq, tFor_eq, iList, iTup, iStr, iRng1, iRng2, iZip, iEnum, gSub, tSl, rSetL_ref, rCat_ref, rRep_ref, rJoin_ref, rSlL_ref, rSlS_ref, rMulS_ref, rIxL_ref, rIxT_ref, rLenK_ref, rAll_ref, rIn_ref, tLst, tTup, tPar, tPar3, tAug, tPart, tNoPart, tCall, List.getElem?_cons_zero, List.getElem?_cons_succ, List.set_cons_zero, List.set_cons_succ, List.map_cons, List.map_nil, List.append_nil, List.nil_append, List.cons_append, Option.some.injEq, exists_eq_left', exists_eq_left, exists_eq_right, exists_eq_right', exists_eq', V.int.injEq, V.str.injEq, V.bl.injEq, V.ref.injEq, List.cons.injEq, tM0, tM1, rNewStrs, sgn_eq, split_dot, split_sp, split_nl, dot_len, sp_len, nl_len, cxOf_K, L2.start, List.length_cons, List.length_nil, List.replicate_succ, List.replicate_zero, Nat.reduceSub, Nat.zero_add, and_true, true_and, and_self, exists_and_left, exists_const, Bool.false_eq_true, if_false, if_true, ite_true, ite_false, reduceIte, decide_eq_true_eq, reduceCtorEq, Nat.reduceAdd, Nat.reduceLT, tListZip, tCallX, tCallV, tCallVS, tLam1, tLamD, tCls, cx_cells, cx_scope, cx_N, cx_prog, cx_w, cx_base, cx_qual]
        refine ⟨by decide, fun t ht => ?_⟩
        have St := Sc.new (o := .lst ((menu13 W).map V.str)) ht
        have xt : Ext (DrS h l) Hc (upd Hc t (.lst ((menu13 W).map V.str))) := (Ext.refl _ _).new ht (Sc.nD ht)
        have npt : p ≠ t := ne_of_none fpc ht
        refine ⟨h, l, 13, rfl, St, by decide, by decide, fun H4 r4 x4 S4 h40 h41 => ?_⟩
        have hml : (menu13 W).length = 13 := rfl
        have hmlt : r4.toNat < (menu13 W).length := by omega
        obtain ⟨u, hu1, hmo⟩ : ∃ u, (menu13 W)[r4.toNat]? = some u ∧ oddWord u := ⟨_, List.getElem?_eq_getElem hmlt, menu_ok hodd _ (List.getElem_mem hmlt)⟩
        have hat : atI ((menu13 W).map V.str) r4 = some (V.str u) := by
          have e : r4 = ((r4.toNat : Nat) : Int) := by omega
          rw [e]
          refine atI_nat ?_
          rw [List.getElem?_map, hu1]; rfl
        have fp4 : H4 p = some (.lst (ws.map V.str)) := x4 _ _ npS (by rw [upd_ne npt]; exact fpc)
        refine ⟨t, _, r4, V.str u, rfl, rfl, .of (x4 _ _ (Sc.nD ht) upd_same), hat, p, _, _, rfl, rfl, fp4, smallLt (by rw [List.length_map]; omega), (hPv _ _ _).mpr ⟨_, _, _, ws ++ [u], rfl, ((xH.trans xt).trans x4).put (.inl hp), S4.put nph npl, by rw [upd_same, List.map_append]; rfl, by rw [List.length_append, hwl]; rfl, fun w hw => ?_⟩⟩
        rcases List.mem_append.mp hw with hw | hw
        · exact hws w hw
        · rw [List.mem_singleton.mp hw]; exact hmo
    · obtain ⟨c, d, e, ws, rfl, xa, Sa, fp, hwl, hws⟩ := (hPv _ _ _).mp hP
      simp only [tCutE, false_and, exists_false, false_or, or_false, tRet, tRetN, tAndV, tOrV, tNotV, tChain, rI, rI0, rU, tC, tCB, tCons, tNil, tVar, tOp, tUn, tTest, tB, tAnd, tOr, tNot, tIf, tIfS, tSeq, tAsg, tDrop, tNext, gName, gTup_ref, gCons_cons, gNil_nil, and_assoc, tYes, wipe, rEq, rNe, scal_ss, scal_ii, scal_bb, scal_ns, scal_sn, scal_nn, scal_in, scal_ni, tLc_eq, tFor_eq, iList, iTup, iStr, iRng1, iRng2, iZip, iEnum, gSub, tSl, rSetL_ref, rCat_ref, rRep_ref, rJoin_ref, rSlL_ref, rSlS_ref, rMulS_ref, rIxL_ref, rIxT_ref, rLenK_ref, rAll_ref, rIn_ref, tLst, tTup, tPar, tPar3, tAug, tPart, tNoPart, tCall, List.getElem?_cons_zero, List.getElem?_cons_succ, List.set_cons_zero, List.set_cons_succ, List.map_cons, List.map_nil, List.append_nil, List.nil_append, List.cons_append, Option.some.injEq, exists_eq_left', exists_eq_left, exists_eq_right, exists_eq_right', exists_eq', V.int.injEq, V.str.injEq, V.bl.injEq, V.ref.injEq, List.cons.injEq, tM0, tM1, rNewStrs, sgn_eq, split_dot, split_sp, split_nl, dot_len, sp_len, nl_len, cxOf_K, L2.start, List.length_cons, List.length_nil, List.replicate_succ, List.replicate_zero, Nat.reduceSub, Nat.zero_add, and_true, true_and, and_self, exists_and_left, exists_const, Bool.false_eq_true, if_false, if_true, ite_true, ite_false, reduceIte, decide_eq_true_eq, reduceCtorEq, Nat.reduceAdd, Nat.reduceLT, tListZip, tCallX, tCallV, tCallVS, tLam1, tLamD, tCls, cx_cells, cx_scope, cx_N, cx_prog, cx_w, cx_base, cx_qual]
      have hsum := sum_le (k := 5) fun w hw => (hws w hw).1
      have hjl := joinD_len (k := 5) fun w hw => (hws w hw).1
      have : (Str.ofString ".").length = 1 := by decide +kernel
      refine ⟨ws, .inl (.of fp), ?_, q _ _ xa Sa ?_ (odd_join hws)⟩
      · rw [this]; omega
      · show (Txt.join "." ws).length ≤ 100
        omega
end
end Hk

set_option Elab.async false
set_option linter.all false
set_option maxRecDepth 100000
set_option maxHeartbeats 4000000
namespace Hk
open PySem PySem.Spec PyProof.Rows L2
open LamX NdefX
open LamX NdefX TL
section
variable {P : Program} {w : World} {K : PySem.W.Frag} {mg : Str → Option Value} {base : Heap}
theorem SrcOk.ext {H H' : Hp} {h l : Addr} (s : SrcOk H h l) (e1 : ∀ o, H h = some o → H' h = some o) (e2 : ∀ o, H l = some o → H' l = some o) : SrcOk H' h l := by
  obtain ⟨m, p, cs, h1, h2, r⟩ := s
  exact ⟨m, p, cs, e1 _ h1, e2 _ h2, r⟩
theorem SrcOk.tabs {Ts : List Addr} {nm : Nat → Nat → Str} {H H' : Hp} {h l : Addr} (s : SrcOk H h l) (e : Ext (DrS h l) H H') (t : Tabs1 Ts nm H) : Tabs1 Ts nm H' := by
  obtain ⟨m, p, cs, h1, h2, r⟩ := s
  have nd : ∀ b o, H b = some o → (∀ xs, o ≠ .lst xs) → ¬ DrS h l b := fun b o e n z => by
    rcases z with z | z
    · rw [z, h1] at e; exact n _ (Option.some.inj e).symm
    · rw [z, h2] at e; exact n _ (Option.some.inj e).symm
  exact t.ext2 (fun b ps q => e b _ (nd b _ q (fun _ z => by cases z)) q) (fun c q' q => e c _ (nd c _ q (fun _ z => by unfold CodeO at z; cases z)) q)
theorem SrcOk.lam {Ts : List Addr} {nm : Nat → Nat → Str} {H H' : Hp} {h l : Addr} (s : SrcOk H h l) (t : Tabs1 Ts nm H) (e : ∀ b o, H b = some o → b ∉ Ts → H' b = some o) : SrcOk H' h l := by
  obtain ⟨m, p, cs, h1, h2, r⟩ := s
  exact ⟨m, p, cs, e _ _ h1 (t.nt h1 (fun _ z => by cases z)), e _ _ h2 (t.nt h2 (fun _ z => by cases z)), r⟩
/-- the body of «lambda: g(one, two)» -/
def spTwo (d : List V) (spF : Sp) : List (Option V) → Sp := fun ws vs H Q E => ∃ z1 z2 : Str, ws = [some (.str z1), some (.str z2)] ∧ vs = d ∧ spF [.str z1, .str z2] H Q E
theorem Tx.refs (T : Tx K mg) : Ref11 K "BadPattern" ∧ Ref11 K "BadLine" := by
  obtain ⟨h, X, G, c, e⟩ := T
  have e : (refB K "BadPattern" && refB K "BadLine" && true) = true := e
  simp only [Bool.and_true, Bool.and_eq_true] at e
  exact ⟨ref11_of e.1, ref11_of e.2⟩
def sp_law (K : PySem.W.Frag) : Sp := fun vs H Q _ => ∃ (a : Addr) (ns : List Int), vs = [.ref a] ∧ SqL K H a (ns.map V.int) ∧ ns.length ≤ 63 ∧ Tabs1 (Ts K) nm H ∧ ∀ H', Q (.bl true) H'
theorem F_law_ok (T : Tx K mg) (B : Tb K mg base) {fd : FuncData} (F : F_law K (He.fAd K ("law", none)) fd) : FnOk P w K mg base CX0 8 (He.fAd K ("law", none)) fd p_law (sp_law K) := by
  refine okT (p := ("law", none)) F sc_law (fun vs H Q E h => ?_) (fun A outer s H vs Q E hr h => ?_)
  · obtain ⟨a, ns, rfl, _⟩ := h; rfl
  · obtain ⟨a, ns, rfl, hS, hn, hT, q⟩ := h
    refine ⟨_, PSs.nox (pss_cons (ps_set (i := 1) sc_law.nd rfl (Or.inl rfl) (pe_callG (G_law_mix T) (hr.mono (by decide)) (by rfl) pass0 (pa_cons (pv 0) (pa_cons pe_int pa_nil))))
      (pss_cons (ps_for PassesOwn.never rfl (pi_range1 (by rfl) T.b_range (pa_cons pe_int pa_nil)) (pg_name (i := 2) sc_law.nd rfl (Or.inl rfl))
      (pss_cons (ps_asg (pe_tup (pa_cons (pe_callG (G_law_text T) (hr.mono (by decide)) (by rfl) pass0 (pa_cons (pv 1) pa_nil)) (pa_cons (pe_callG (G_law_text T) (hr.mono (by decide)) (by rfl) pass0 (pa_cons (pv 1) pa_nil)) pa_nil))) (pg_tupK (K := K) rfl rfl (pgs_cons (pg_name (i := 3) sc_law.nd rfl (Or.inr rfl)) (pgs_cons (pg_name (i := 4) sc_law.nd rfl (Or.inr rfl)) pgs_nil))))
      (pss_cons (ps_par (i := 5) (j := 6) rfl sc_law.nd rfl rfl (by decide) rfl rfl (pa_cons (pe_callG (G_law_is_line T) (hr.mono (by decide)) (by rfl) pass0 (pa_cons (pv 3) (pa_cons pe_bl pa_nil))) (pa_cons (pe_callG (G_law_is_line T) (hr.mono (by decide)) (by rfl) pass0 (pa_cons (pv 4) (pa_cons pe_bl pa_nil))) pa_nil)) (by rfl))
      (pss_cutE (ps_if (pt_cmpR op_ne (pe_callX ((G_law_kind T)).weak (hr.mono (by decide)) (by rfl) passN sc_law.nd (fun _ _ _ => rfl) (pa_cons (pe_lam (Ts := Ts K) (nm := nm) (B.t_law) rfl (m_law K) (show nm 140 21 = Str.ofString "law.<locals>." ++ Str.ofString "<lambda>" by decide +kernel) (ndef_free (sc := defScope s_law) (fr := ["_law_one", "_law_two"]) (by decide +kernel)) rfl) pa_nil)) (pe_ifExp (pt_not (pt_val (pv 5))) pe_str (pe_ifExp (pt_val (pv 6)) pe_str pe_str)) (nomark _))
      (pss_one (ps_ret pe_bl))
      pss_nil)
      (pss_cutE (ps_set (i := 7) sc_law.nd rfl (Or.inl rfl) (pe_ifExp (PW.pt (pw_and (pt_val (pv 5)) (pw_and1 (pt_val (pe_callG (G_law_is_line T) (hr.mono (by decide)) (by rfl) pass0 (pa_cons (pv 4) (pa_cons pe_bl pa_nil))))))) pe_str pe_str))
      (pss_one (ps_if (pt_cmpR (op_neDK (K := K) rfl hr.units) (pe_lst (pa_cons (pe_callX ((G_law_kind T)).weak (hr.mono (by decide)) (by rfl) passN sc_law.nd (fun _ _ _ => rfl) (pa_cons (pe_lam (Ts := Ts K) (nm := nm) (B.t_law) rfl (m_law K) (show nm 143 22 = Str.ofString "law.<locals>." ++ Str.ofString "<lambda>" by decide +kernel) (ndef_free (sc := defScope s_law) (fr := ["_law_one", "_law_two"]) (by decide +kernel)) rfl) pa_nil)) (pa_cons (pe_callX ((G_law_kind T)).weak (hr.mono (by decide)) (by rfl) passN sc_law.nd (fun _ _ _ => rfl) (pa_cons (pe_lamD (Ts := Ts K) (nm := nm) (B.t_law) rfl (m_law K) (show nm 143 71 = Str.ofString "law.<locals>." ++ Str.ofString "<lambda>" by decide +kernel) (ndef_free (sc := defScope s_law) (fr := ["_law_one", "_law_two"]) (by decide +kernel)) pe_int rfl) pa_nil)) pa_nil))) (pe_lst (pa_cons (pv 7) (pa_cons (pv 7) pa_nil))) (nomark _))
      (pss_one (ps_ret pe_bl))
      pss_nil)))))))
      (pss_one (ps_ret (pe_and (pe_cmpR op_isBl (pe_callG (G_fits T) (hr.mono (by decide)) (by rfl) passN (pa_cons pe_str (pa_cons pe_str pa_nil))) pe_bl (nomark _)) (pe_one (pe_cmpR op_isBl (pe_callG (G_fits T) (hr.mono (by decide)) (by rfl) passN (pa_cons pe_str (pa_cons pe_str pa_nil))) pe_bl (nomark _)))))))), ?_⟩
    simp only [tCutE, false_and, exists_false, false_or, or_false, tRet, tRetN, tAndV, tOrV, tNotV, tChain, rI, rI0, rU, tC, tCB, tCons, tNil, tVar, tOp, tUn, tTest, tB, tAnd, tOr, tNot, tIf, tIfS, tSeq, tAsg, tDrop, tNext, gName, gTup_ref, gCons_cons, gNil_nil, and_assoc, tYes, wipe, rEq, rNe, scal_ss, scal_ii, scal_bb, scal_ns, scal_sn, scal_nn, scal_in, scal_ni, tLc_eq, tFor_eq, iList, iTup, iStr, iRng1, iRng2, iZip, iEnum, gSub, tSl, rSetL_ref, rCat_ref, rRep_ref, rJoin_ref, rSlL_ref, rSlS_ref, rMulS_ref, rIxL_ref, rIxT_ref, rLenK_ref, rAll_ref, rIn_ref, tLst, tTup, tPar, tPar3, tAug, tPart, tNoPart, tCall, List.getElem?_cons_zero, List.getElem?_cons_succ, List.set_cons_zero, List.set_cons_succ, List.map_cons, List.map_nil, List.append_nil, List.nil_append, List.cons_append, Option.some.injEq, exists_eq_left', exists_eq_left, exists_eq_right, exists_eq_right', exists_eq', V.int.injEq, V.str.injEq, V.bl.injEq, V.ref.injEq, List.cons.injEq, tM0, tM1, rNewStrs, sgn_eq, split_dot, split_sp, split_nl, dot_len, sp_len, nl_len, cxOf_K, L2.start, List.length_cons, List.length_nil, List.replicate_succ, List.replicate_zero, Nat.reduceSub, Nat.zero_add, and_true, true_and, and_self, exists_and_left, exists_const, Bool.false_eq_true, if_false, if_true, ite_true, ite_false, reduceIte, decide_eq_true_eq, reduceCtorEq, Nat.reduceAdd, Nat.reduceLT, tListZip, tCallX, tCallV, tCallVS, tLam1, tLamD, tCls, cx_cells, cx_scope, cx_N, cx_prog, cx_w, cx_base, cx_qual]
    generalize hcm : cellsFrom (s.heap.objs.size + 1) (defScope s_law).names [] = cm
    refine ⟨a, ns, 3, rfl, hS, hn, by decide, by decide, fun H1 h l s1 hh hl S1 => ?_⟩
    simp only [tCutE, false_and, exists_false, false_or, or_false, tRet, tRetN, tAndV, tOrV, tNotV, tChain, rI, rI0, rU, tC, tCB, tCons, tNil, tVar, tOp, tUn, tTest, tB, tAnd, tOr, tNot, tIf, tIfS, tSeq, tAsg, tDrop, tNext, gName, gTup_ref, gCons_cons, gNil_nil, and_assoc, tYes, wipe, rEq, rNe, scal_ss, scal_ii, scal_bb, scal_ns, scal_sn, scal_nn, scal_in, scal_ni, tLc_eq, tFor_eq, iList, iTup, iStr, iRng1, iRng2, iZip, iEnum, gSub, tSl, rSetL_ref, rCat_ref, rRep_ref, rJoin_ref, rSlL_ref, rSlS_ref, rMulS_ref, rIxL_ref, rIxT_ref, rLenK_ref, rAll_ref, rIn_ref, tLst, tTup, tPar, tPar3, tAug, tPart, tNoPart, tCall, List.getElem?_cons_zero, List.getElem?_cons_succ, List.set_cons_zero, List.set_cons_succ, List.map_cons, List.map_nil, List.append_nil, List.nil_append, List.cons_append, Option.some.injEq, exists_eq_left', exists_eq_left, exists_eq_right, exists_eq_right', exists_eq', V.int.injEq, V.str.injEq, V.bl.injEq, V.ref.injEq, List.cons.injEq, tM0, tM1, rNewStrs, sgn_eq, split_dot, split_sp, split_nl, dot_len, sp_len, nl_len, cxOf_K, L2.start, List.length_cons, List.length_nil, List.replicate_succ, List.replicate_zero, Nat.reduceSub, Nat.zero_add, and_true, true_and, and_self, exists_and_left, exists_const, Bool.false_eq_true, if_false, if_true, ite_true, ite_false, reduceIte, decide_eq_true_eq, reduceCtorEq, Nat.reduceAdd, Nat.reduceLT, tListZip, tCallX, tCallV, tCallVS, tLam1, tLamD, tCls, cx_cells, cx_scope, cx_N, cx_prog, cx_w, cx_base, cx_qual]
    refine ⟨by decide, by decide, ?_⟩
    have hT1 : Tabs1 (Ts K) nm H1 := hT.ext s1
    obtain ⟨Pv, hPv⟩ : ∃ Pv : Nat → L2.St → Hp → Prop, ∀ i σ H', Pv i σ H' ↔ ∃ c d e f g k, σ = [some (.ref a), some (.ref h), c, d, e, f, g, k] ∧ SrcOk H' h l ∧ Tabs1 (Ts K) nm H' := ⟨_, fun _ _ _ => Iff.rfl⟩
    refine forG walk_range Pv ((hPv _ _ _).mpr ⟨_, _, _, _, _, _, rfl, S1, hT1⟩) (fun _ _ _ _ _ => trivial) (fun i x σ Ha Hb hi hP hy => ?_) (fun σ Ha hP => ?_)
    · obtain ⟨rfl, rfl⟩ := hy
      obtain ⟨c, d, e, f, g, k, rfl, Sa, hTa⟩ := (hPv _ _ _).mp hP
      simp only [tCutE, false_and, exists_false, false_or, or_false, tRet, tRetN, tAndV, tOrV, tNotV, tChain, rI, rI0, rU, tC, tCB, tCons, tNil, tVar, tOp, tUn, tTest, tB, tAnd, tOr, tNot, tIf, tIfS, tSeq, tAsg, tDrop, tNext, gName, gTup_ref, gCons_cons, gNil_nil, and_assoc, tYes, wipe, rEq, rNe, scal_ss, scal_ii, scal_bb, scal_ns, scal_sn, scal_nn, scal_in, scal_ni, tLc_eq, tFor_eq, iList, iTup, iStr, iRng1, iRng2, iZip, iEnum, gSub, tSl, rSetL_ref, rCat_ref, rRep_ref, rJoin_ref, rSlL_ref, rSlS_ref, rMulS_ref, rIxL_ref, rIxT_ref, rLenK_ref, rAll_ref, rIn_ref, tLst, tTup, tPar, tPar3, tAug, tPart, tNoPart, tCall, List.getElem?_cons_zero, List.getElem?_cons_succ, List.set_cons_zero, List.set_cons_succ, List.map_cons, List.map_nil, List.append_nil, List.nil_append, List.cons_append, Option.some.injEq, exists_eq_left', exists_eq_left, exists_eq_right, exists_eq_right', exists_eq', V.int.injEq, V.str.injEq, V.bl.injEq, V.ref.injEq, List.cons.injEq, tM0, tM1, rNewStrs, sgn_eq, split_dot, split_sp, split_nl, dot_len, sp_len, nl_len, cxOf_K, L2.start, List.length_cons, List.length_nil, List.replicate_succ, List.replicate_zero, Nat.reduceSub, Nat.zero_add, and_true, true_and, and_self, exists_and_left, exists_const, Bool.false_eq_true, if_false, if_true, ite_true, ite_false, reduceIte, decide_eq_true_eq, reduceCtorEq, Nat.reduceAdd, Nat.reduceLT, tListZip, tCallX, tCallV, tCallVS, tLam1, tLamD, tCls, cx_cells, cx_scope, cx_N, cx_prog, cx_w, cx_base, cx_qual]
      refine ⟨h, l, rfl, Sa, fun H2 z1 x2 S2 lz1 oz1 => ⟨h, l, rfl, S2, fun H3 z2 x3 S3 lz2 oz2 => ⟨by decide, fun t ht => ⟨_, .of upd_same, rfl, ?_⟩⟩⟩⟩
      have Ht : Tabs1 (Ts K) nm H3 := S2.tabs x3 (Sa.tabs x2 hTa)
      have s4 : Same H3 (upd H3 t (.tup [.str z1, .str z2])) := same_put (Same.refl _) ht
      have S4 := S3.same s4
      have T4 : Tabs1 (Ts K) nm (upd H3 t (.tup [.str z1, .str z2])) := Ht.ext s4
      generalize upd H3 t (.tup [.str z1, .str z2]) = H4 at S4 T4
      simp only [tCutE, false_and, exists_false, false_or, or_false, tRet, tRetN, tAndV, tOrV, tNotV, tChain, rI, rI0, rU, tC, tCB, tCons, tNil, tVar, tOp, tUn, tTest, tB, tAnd, tOr, tNot, tIf, tIfS, tSeq, tAsg, tDrop, tNext, gName, gTup_ref, gCons_cons, gNil_nil, and_assoc, tYes, wipe, rEq, rNe, scal_ss, scal_ii, scal_bb, scal_ns, scal_sn, scal_nn, scal_in, scal_ni, tLc_eq, tFor_eq, iList, iTup, iStr, iRng1, iRng2, iZip, iEnum, gSub, tSl, rSetL_ref, rCat_ref, rRep_ref, rJoin_ref, rSlL_ref, rSlS_ref, rMulS_ref, rIxL_ref, rIxT_ref, rLenK_ref, rAll_ref, rIn_ref, tLst, tTup, tPar, tPar3, tAug, tPart, tNoPart, tCall, List.getElem?_cons_zero, List.getElem?_cons_succ, List.set_cons_zero, List.set_cons_succ, List.map_cons, List.map_nil, List.append_nil, List.nil_append, List.cons_append, Option.some.injEq, exists_eq_left', exists_eq_left, exists_eq_right, exists_eq_right', exists_eq', V.int.injEq, V.str.injEq, V.bl.injEq, V.ref.injEq, List.cons.injEq, tM0, tM1, rNewStrs, sgn_eq, split_dot, split_sp, split_nl, dot_len, sp_len, nl_len, cxOf_K, L2.start, List.length_cons, List.length_nil, List.replicate_succ, List.replicate_zero, Nat.reduceSub, Nat.zero_add, and_true, true_and, and_self, exists_and_left, exists_const, Bool.false_eq_true, if_false, if_true, ite_true, ite_false, reduceIte, decide_eq_true_eq, reduceCtorEq, Nat.reduceAdd, Nat.reduceLT, tListZip, tCallX, tCallV, tCallVS, tLam1, tLamD, tCls, cx_cells, cx_scope, cx_N, cx_prog, cx_w, cx_base, cx_qual]
      refine ⟨z1, true, rfl, by omega, oz1, fun H5 s5 => ⟨z2, false, rfl, by omega, oz2, fun H6 s6 => ?_⟩⟩
      have S6 := S4.same (s5.trans s6)
      have T6 : Tabs1 (Ts K) nm H6 := T4.ext (s5.trans s6)
      simp only [if_true, Bool.false_eq_true, if_false]
      simp only [tCutE, false_and, exists_false, false_or, or_false, tRet, tRetN, tAndV, tOrV, tNotV, tChain, rI, rI0, rU, tC, tCB, tCons, tNil, tVar, tOp, tUn, tTest, tB, tAnd, tOr, tNot, tIf, tIfS, tSeq, tAsg, tDrop, tNext, gName, gTup_ref, gCons_cons, gNil_nil, and_assoc, tYes, wipe, rEq, rNe, scal_ss, scal_ii, scal_bb, scal_ns, scal_sn, scal_nn, scal_in, scal_ni, tLc_eq, tFor_eq, iList, iTup, iStr, iRng1, iRng2, iZip, iEnum, gSub, tSl, rSetL_ref, rCat_ref, rRep_ref, rJoin_ref, rSlL_ref, rSlS_ref, rMulS_ref, rIxL_ref, rIxT_ref, rLenK_ref, rAll_ref, rIn_ref, tLst, tTup, tPar, tPar3, tAug, tPart, tNoPart, tCall, List.getElem?_cons_zero, List.getElem?_cons_succ, List.set_cons_zero, List.set_cons_succ, List.map_cons, List.map_nil, List.append_nil, List.nil_append, List.cons_append, Option.some.injEq, exists_eq_left', exists_eq_left, exists_eq_right, exists_eq_right', exists_eq', V.int.injEq, V.str.injEq, V.bl.injEq, V.ref.injEq, List.cons.injEq, tM0, tM1, rNewStrs, sgn_eq, split_dot, split_sp, split_nl, dot_len, sp_len, nl_len, cxOf_K, L2.start, List.length_cons, List.length_nil, List.replicate_succ, List.replicate_zero, Nat.reduceSub, Nat.zero_add, and_true, true_and, and_self, exists_and_left, exists_const, Bool.false_eq_true, if_false, if_true, ite_true, ite_false, reduceIte, decide_eq_true_eq, reduceCtorEq, Nat.reduceAdd, Nat.reduceLT, tListZip, tCallX, tCallV, tCallVS, tLam1, tLamD, tCls, cx_cells, cx_scope, cx_N, cx_prog, cx_w, cx_base, cx_qual]
      obtain ⟨BP, BL⟩ := T.refs
      obtain ⟨R1, hR1⟩ : ∃ R : L2.St → Hp → Prop, ∀ σ H', R σ H' ↔ σ = [some (.ref a), some (.ref h), some (.int (0 + (i : Int))), some (.str z1), some (.str z2), some (.bl (isPat z1)), some (.bl (isLine z2)), k] ∧ SrcOk H' h l ∧ Tabs1 (Ts K) nm H' := ⟨_, fun _ _ => Iff.rfl⟩
      refine ⟨T6, R1, fun f7 c7 H7 e7 n7 T7 f0 f1 c1 C7 obs => ?_, fun σ Hr hr => ?_⟩
      rotate_left
      · obtain ⟨rfl, Sr, Tr⟩ := (hR1 _ _).mp hr
        obtain ⟨due, hdue⟩ : ∃ due : Str, due = if isPat z1 = true ∧ isPat z2 = true then ("" : Str) else ("pattern" : Str) := ⟨_, rfl⟩
        obtain ⟨R2, hR2⟩ : ∃ R : L2.St → Hp → Prop, ∀ σ H', R σ H' ↔ σ = [some (.ref a), some (.ref h), some (.int (0 + (i : Int))), some (.str z1), some (.str z2), some (.bl (isPat z1)), some (.bl (isLine z2)), some (.str due)] ∧ SrcOk H' h l ∧ Tabs1 (Ts K) nm H' := ⟨_, fun _ _ => Iff.rfl⟩
        refine ⟨R2, ⟨_, rfl, _, rfl, ?_⟩, fun σ2 Hc hc => ?_⟩
        · by_cases e1 : isPat z1 = true
          · rw [if_pos e1]
            refine ⟨_, rfl, z2, true, rfl, by omega, oz2, fun H9 s9 => ⟨_, rfl, ?_⟩⟩
            rw [if_pos rfl]
            by_cases e2 : isPat z2 = true
            · rw [if_pos e2]
              rw [if_pos ⟨e1, e2⟩] at hdue
              exact (hR2 _ _).mpr ⟨by rw [hdue]; rfl, Sr.same s9, Tr.ext s9⟩
            · rw [if_neg e2]
              rw [if_neg (fun h => e2 h.2)] at hdue
              exact (hR2 _ _).mpr ⟨by rw [hdue]; rfl, Sr.same s9, Tr.ext s9⟩
          · rw [if_neg e1]
            rw [if_neg (fun h => e1 h.1)] at hdue
            exact (hR2 _ _).mpr ⟨by rw [hdue]; rfl, Sr, Tr⟩
        · obtain ⟨rfl, Sc, Tc⟩ := (hR2 _ _).mp hc
          refine ⟨Tc, fun f7 c7 H7 e7 n7 T7 f0 f1 c1 C7 obs => ?_⟩
          have S7 := Sc.lam Tc e7
          refine kind_lam (fr := ["_law_one", "_law_two"]) (dvs := []) (ws := [.str z1, .str z2]) (spN := spTwo [] (sp_narrower K)) (wd := due) C7 f1 c1
            (act_lam (N := ["_law_one", "_law_two"]) (ps := []) (nscope_by (by kernel_rfl)) rfl (fun ws vs H Q E h => ?_) (fun pm ctv us hl => ?_) (fun A outer s H vs ws Q E hr hl h => ?_))
            [3, 4] rfl (by kernel_rfl) (nscope_by (N := ["_law_one", "_law_two"]) (ps := []) (by kernel_rfl)) (by rfl) (by rfl) (by rfl) (fun H0 Qf Ef g1 g2 => ⟨z1, z2, rfl, rfl, ?_⟩) (fun H8 s8 => ?_)
          · obtain ⟨_, _, _, rfl, _⟩ := h; rfl
          · match us, hl with
            | [], _ => rfl
          · obtain ⟨z1, z2, rfl, rfl, h⟩ := h
            exact ⟨_, (pe_callG (G_narrower T) (hr.mono (by decide)) (by rfl) (passes_call (takes_of rfl rfl rfl rfl) (fun _ _ _ _ h => h)) (pa_cons (pv 0) (pa_cons (pv 1) pa_nil))), _, rfl, _, rfl, h⟩
          · refine ⟨z1, z2, rfl, by omega, by omega, fun e1 e2 H' s' => ?_, fun e1 e2 H' s' => ?_, fun e1 H' s' => ?_⟩
            · rw [if_pos ⟨e1, e2⟩] at hdue
              exact g1 hdue _ _ s'
            · rw [if_neg (fun h => by rw [e2] at h; cases h.2)] at hdue
              exact g2 "BadPattern" 1 rfl (by rw [hdue]; rfl) BP _ s'
            · rw [if_neg (fun h => by rw [e1] at h; cases h.1)] at hdue
              exact g2 "BadPattern" 1 rfl (by rw [hdue]; rfl) BP _ s'
          generalize delC cm H8 = H8 at s8 ⊢
          have S8 := S7.same s8
          have T8 : Tabs1 (Ts K) nm H8 := T7.ext s8
          intro d hd
          generalize hHd : upd H8 d _ = H9
          obtain ⟨s9, f9⟩ := newF hHd hd
          have S9 := S8.same s9
          have T9 : Tabs1 (Ts K) nm H9 := T8.ext s9
          refine ⟨T9, fun f10 c10 H10 e10 n10 T10 g0 g1 d1 C10 obs' => ?_⟩
          have S10 := S9.lam T9 e10
          have f10' := e10 _ _ f9 (T9.nt f9 (fun _ z => by cases z))
          refine kind_lam (fr := ["_law_one", "_law_two"]) (dvs := [.int 0]) (ws := [.str z1, .str z2]) (spN := spTwo [.int 0] (sp_meets K)) (wd := due) C10 g1 d1
            (act_lamD (T := d) (dv := .int 0) (x := "_law_a") (N := ["_law_a", "_law_one", "_law_two"]) (nscope_by (by kernel_rfl)) rfl (fun ws vs H Q E h => ?_) ?_ (fun A outer s H vs ws Q E hr hl h => ?_))
            [3, 4] rfl (by kernel_rfl) (nscope_by (N := ["_law_a", "_law_one", "_law_two"]) (ps := ["_law_a"]) (by kernel_rfl)) (by rfl) (by rfl) f10' (fun H0 Qf Ef g1 g2 => ⟨z1, z2, rfl, rfl, ?_⟩) (fun H11 s11 => ?_)
          · obtain ⟨_, _, _, rfl, _⟩ := h; rfl
          · exact fun pm ctv u => ⟨_, rfl, rfl⟩
          · obtain ⟨z1, z2, rfl, rfl, h⟩ := h
            exact ⟨_, (pe_callG (G_meets T) (hr.mono (by decide)) (by rfl) (passes_call (takes_of rfl rfl rfl rfl) (fun _ _ _ _ h => h)) (pa_cons (pv 1) (pa_cons (pv 2) pa_nil))), _, rfl, _, rfl, h⟩
          · refine ⟨z1, z2, rfl, by omega, by omega, fun e1 e2 H' s' => ?_, fun e1 e2 H' s' => ?_, fun e1 H' s' => ?_⟩
            · rw [if_pos ⟨e1, e2⟩] at hdue
              exact g1 hdue _ _ s'
            · rw [if_neg (fun h => by rw [e2] at h; cases h.2)] at hdue
              exact g2 "BadPattern" 1 rfl (by rw [hdue]; rfl) BP _ s'
            · rw [if_neg (fun h => by rw [e1] at h; cases h.1)] at hdue
              exact g2 "BadPattern" 1 rfl (by rw [hdue]; rfl) BP _ s'
          generalize delC cm H11 = H11 at s11 ⊢
          have S11 := S10.same s11
          have T11 : Tabs1 (Ts K) nm H11 := T10.ext s11
          refine ⟨by decide, fun p1 hp1 => ⟨_, rfl, _, rfl, by decide, fun p2 hp2 => ?_⟩⟩
          generalize hA : upd H11 p1 _ = Ha at hp2 ⊢
          obtain ⟨sa, fa1⟩ := newF hA hp1
          generalize hB : upd Ha p2 _ = Hb
          obtain ⟨sb, fb⟩ := newF hB hp2
          have od : PyData.strOk due = true := by rw [hdue]; split <;> decide +kernel
          refine ⟨.list ([due, due].map PyData.str), .list ([due, due].map PyData.str), .lst (.of (sb _ _ fa1)) (.cons (.str _) (.cons (.str _) .nil)), .lst (.of fb) (.cons (.str _) (.cons (.str _) .nil)), shaped_strs (us := [due, due]) (by simp [od]), shaped_strs (us := [due, due]) (by simp [od]), _, rfl, ?_⟩
          have e5 : PyData.eqv (.list ([due, due].map PyData.str)) (.list ([due, due].map PyData.str)) = decide ([due, due] = [due, due]) := by
            rw [PyData.eqv]
            exact eqv_strs _ _
          rw [e5, decide_eq_true rfl]
          have sx := (sa.trans sb)
          exact ifN (by simp) ((hPv _ _ _).mpr ⟨_, _, _, _, _, _, rfl, S11.same sx, T11.ext sx⟩)
      have S7 := S6.lam T6 e7
      refine kind_lam (fr := ["_law_one", "_law_two"]) (dvs := []) (ws := [.str z1, .str z2]) (spN := spTwo [] (sp_fits K)) (wd := if isPat z1 = true then (if isLine z2 = true then ("" : Str) else ("line" : Str)) else ("pattern" : Str)) C7 f1 c1
        (act_lam (N := ["_law_one", "_law_two"]) (ps := []) (nscope_by (by kernel_rfl)) rfl (fun ws vs H Q E h => ?_) (fun pm ctv us hl => ?_) (fun A outer s H vs ws Q E hr hl h => ?_))
        [3, 4] rfl (by kernel_rfl) (nscope_by (N := ["_law_one", "_law_two"]) (ps := []) (by kernel_rfl)) (by rfl) (by rfl) (by rfl) (fun H0 Qf Ef g1 g2 => ⟨z1, z2, rfl, rfl, ?_⟩) (fun H8 s8 => ?_)
      · obtain ⟨_, _, _, rfl, _⟩ := h; rfl
      · match us, hl with
        | [], _ => rfl
      · obtain ⟨z1, z2, rfl, rfl, h⟩ := h
        exact ⟨_, (pe_callG (G_fits T) (hr.mono (by decide)) (by rfl) (passes_call (takes_of rfl rfl rfl rfl) (fun _ _ _ _ h => h)) (pa_cons (pv 0) (pa_cons (pv 1) pa_nil))), _, rfl, _, rfl, h⟩
      · refine ⟨z1, z2, rfl, by omega, by omega, fun e1 e2 H' s' => ?_, fun e1 H' s' => ?_, fun e1 e2 H' s' => ?_⟩
        · rw [if_pos e1, if_pos e2] at g1
          exact g1 rfl _ _ s'
        · rw [if_neg (by rw [e1]; simp)] at g2
          exact g2 "BadPattern" 1 rfl rfl BP _ s'
        · rw [if_pos e1, if_neg (by rw [e2]; simp)] at g2
          exact g2 "BadLine" 0 rfl rfl BL _ s'
      generalize delC cm H8 = H8 at s8 ⊢
      have S8 := S7.same s8
      have T8 : Tabs1 (Ts K) nm H8 := T7.ext s8
      have R0 := (hR1 [some (V.ref a), some (V.ref h), some (V.int (0 + (i : Int))), some (V.str z1), some (V.str z2), some (V.bl (isPat z1)), some (V.bl (isLine z2)), k] H8).mpr ⟨rfl, S8, T8⟩
      by_cases e1 : isPat z1 = true
      · rw [if_neg (by simp [e1])]
        by_cases e2 : isLine z2 = true
        · rw [if_pos e2]
          refine ⟨rfl, ?_⟩
          rw [if_neg (by simp [e1, e2])]
          exact R0
        · rw [if_neg e2]
          refine ⟨rfl, ?_⟩
          rw [if_neg (by simp [e1, e2])]
          exact R0
      · rw [if_pos (by simp [e1])]
        refine ⟨rfl, ?_⟩
        rw [if_neg (by simp [e1])]
        exact R0
    · obtain ⟨c, d, e, f, g, k, rfl, Sa, hTa⟩ := (hPv _ _ _).mp hP
      simp only [tCutE, false_and, exists_false, false_or, or_false, tRet, tRetN, tAndV, tOrV, tNotV, tChain, rI, rI0, rU, tC, tCB, tCons, tNil, tVar, tOp, tUn, tTest, tB, tAnd, tOr, tNot, tIf, tIfS, tSeq, tAsg, tDrop, tNext, gName, gTup_ref, gCons_cons, gNil_nil, and_assoc, tYes, wipe, rEq, rNe, scal_ss, scal_ii, scal_bb, scal_ns, scal_sn, scal_nn, scal_in, scal_ni, tLc_eq, tFor_eq, iList, iTup, iStr, iRng1, iRng2, iZip, iEnum, gSub, tSl, rSetL_ref, rCat_ref, rRep_ref, rJoin_ref, rSlL_ref, rSlS_ref, rMulS_ref, rIxL_ref, rIxT_ref, rLenK_ref, rAll_ref, rIn_ref, tLst, tTup, tPar, tPar3, tAug, tPart, tNoPart, tCall, List.getElem?_cons_zero, List.getElem?_cons_succ, List.set_cons_zero, List.set_cons_succ, List.map_cons, List.map_nil, List.append_nil, List.nil_append, List.cons_append, Option.some.injEq, exists_eq_left', exists_eq_left, exists_eq_right, exists_eq_right', exists_eq', V.int.injEq, V.str.injEq, V.bl.injEq, V.ref.injEq, List.cons.injEq, tM0, tM1, rNewStrs, sgn_eq, split_dot, split_sp, split_nl, dot_len, sp_len, nl_len, cxOf_K, L2.start, List.length_cons, List.length_nil, List.replicate_succ, List.replicate_zero, Nat.reduceSub, Nat.zero_add, and_true, true_and, and_self, exists_and_left, exists_const, Bool.false_eq_true, if_false, if_true, ite_true, ite_false, reduceIte, decide_eq_true_eq, reduceCtorEq, Nat.reduceAdd, Nat.reduceLT, tListZip, tCallX, tCallV, tCallVS, tLam1, tLamD, tCls, cx_cells, cx_scope, cx_N, cx_prog, cx_w, cx_base, cx_qual]
      refine ⟨_, _, rfl, by decide +kernel, by decide +kernel, fun e1 e2 H' s' => ?_, fun e1 => absurd e1 (by decide +kernel), fun _ e1 => absurd e1 (by decide +kernel)⟩
      refine ⟨_, true, rfl, rfl, _, rfl, ifP (by decide +kernel) ?_⟩
      refine ⟨_, _, rfl, by decide +kernel, by decide +kernel, fun e1 e2 H' s' => ?_, fun e1 => absurd e1 (by decide +kernel), fun _ e1 => absurd e1 (by decide +kernel)⟩
      refine ⟨_, true, rfl, rfl, ?_⟩
      rw [decide_eq_true (by decide +kernel)]
      exact q _
end
/-! ### the head -/
abbrev Rw : PySem.W.OpenRow := PySem.W.OpenLaw.row PySem.Challenge.rw_hearken_k01_lines_and_patterns_refused
abbrev hk : PySem.W.Hook := He.hookX 5 fa fn [] tf exB
def ob (s : PySem.W.SharedT) : He.AlX := He.obsX 5 fa fn [] tf exB (HandSHeadRun.getT s)
theorem ob_eq (s : PySem.W.SharedT) : ob s = hk.obs s.abs := He.obsX_eq (HandSHeadRun.getT_eq s)
def loose : List Str := "HearError" :: "Halt" :: "BadLine" :: "BadPattern" :: "BadWord" :: "BadCount" :: "NoListener" :: "Busy" :: "TooDeep" :: "NotHeld" :: "NoWork" :: "BadText" :: "LETTERS" :: "MOST_LETTERS" :: "MOST_WORDS" :: "ANY" :: "REST" :: "is_word" :: "is_line" :: "is_pattern" :: "need_line" :: "need_pattern" :: "of_length" :: "does_fit" :: "fits" :: "narrower" :: "meets" :: "met" :: "_law_mix" :: "_law_next" :: "_law_kind" :: "_law_is_line" :: "_law_text" :: []
theorem run (w : World) : HandSHeadRun.RunEq Rw (PySem.W.view Rw.prog [36]) hk ob 4000 loose w := by
  intro os
  kernel_rfl
end Hk
open PySem PySem.W PySem.Calls PyProof.Rows
theorem PySem.Challenge.cw_hearken_k01_lines_and_patterns_refused_holds : PySem.Challenge.rw_hearken_k01_lines_and_patterns_refused.Holds := by
  w_on; o_law
  refine HandSHeadRun.head_any (r := OpenLaw.row PySem.Challenge.rw_hearken_k01_lines_and_patterns_refused) (q := view (OpenLaw.row PySem.Challenge.rw_hearken_k01_lines_and_patterns_refused).prog [36]) (H := Hk.hk) (ob := Hk.ob) (M := 4000) (loose := Hk.loose) (d := HandSHeadRun.topDef (OpenLaw.row PySem.Challenge.rw_hearken_k01_lines_and_patterns_refused).prog 36) (kwd := []) Hk.ob_eq
    (by kernel_rfl) (fun s => by kernel_rfl) Hk.run (by kernel_rfl) (by kernel_rfl) (by kernel_rfl) (by rfl) (by first | assumption | decide +kernel) (by decide +kernel) ⟨rfl, rfl, rfl, rfl, rfl, by decide +kernel⟩ ?hw ?hc
  case hw => w_witness2
  case hc =>
    refine LamX.walk_ofTsE (l := PySem.Challenge.rw_hearken_k01_lines_and_patterns_refused) (n := 63) (k := 8) (x := "_law_script") (CX := fun _ => L2.CX0) rfl (by decide) (by kernel_rfl) ⟨rfl, by decide, by decide⟩ ?F (fun _ _ _ _ _ z => z)
    intro w mg fa h Y G hmg0
    obtain ⟨K, KX, c⟩ := Y
    have hmg : mg ("law" : PySem.Str) = some (.ref fa) := by
      have e : (HandSHeadRun.topDef (OpenLaw.row PySem.Challenge.rw_hearken_k01_lines_and_patterns_refused).prog 36).name = ("law" : PySem.Str) := by kernel_rfl
      rw [← e]
      exact hmg0
    have T : Hk.Tx K mg := ⟨h, KX, G, c.t.d, c.more⟩
    obtain ⟨fd, F⟩ := T.f_law
    have ef := hmg.symm.trans T.g_law
    cases ef
    have b := L2.FunD.bindsA (ps := ["_law_script"]) F fun _ _ _ _ _ _ us hl => match us, hl with | [_], _ => rfl
    refine ⟨K, KX, fd, Hk.tf.map (He.cT K), Hk.sp_law K, fun p hp => ?_, fun p hp => ?_, fun p hp => ?_, fun s v => b s [v] rfl, fun H a ns hl _ ht hS => ⟨a, ns, rfl, hS, hl, fun P hP => ?_, fun _ => rfl⟩, fun base _ _ hB => Hk.F_law_ok T (fun p hp => hB _ (List.mem_map_of_mem hp)) F⟩
    · obtain ⟨q, hq, rfl⟩ := List.mem_map.mp hp
      exact c.empty q hq
    · obtain ⟨q, hq, rfl⟩ := List.mem_map.mp hp
      exact c.out q hq
    · obtain ⟨q, hq, rfl⟩ := List.mem_map.mp hp
      exact PySem.W.codeHd_of_K KX (c.hd q hq)
    · obtain ⟨q, hq, rfl⟩ := List.mem_map.mp hP
      exact NdefX.TabN.nil (ht _ (List.mem_map_of_mem hq))

