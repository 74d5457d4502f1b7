import PyProof.Rows.All
import Wide.All
import OpenK.AllK
import Wide.FinOn
import HandS.ForMost
import HandS.Style
import HandS.Walk
import HandS.Defaults
import HandS.Exc
import HandS.Flow
import HandS.TryOnly
import HandS.ExcOwn
import HandS.WordsExc
import HandS.TupAny
import HandS.SetFor
import HandS.IsInst
import PyProof.StrBlock2
import HandS.Strs
import HandS.Set
import HandS.TupSets
import KE.DataMinMax
import KE.KDictZip
import HandS.OwnIter
import HandS.HeadHook2
import HandS.HeadEnd
import HandS.Head2
import PySem.Challenge.RW_hearken_k03_whole_patterns_beside_patter
set_option Elab.async false
set_option linter.all false
set_option maxRecDepth 100000
set_option maxHeartbeats 4000000
/-! Common words for all the laws of hearken. -/
namespace Hk
open PySem PySem.Spec PyProof.Rows L2
/-! ### heaps that grow -/
/-- all that was tracked, but where S is, is as it was -/
def Ext (S : Addr → Prop) (H H' : Hp) : Prop := ∀ b o, ¬ S b → H b = some o → H' b = some o
abbrev No : Addr → Prop := fun _ => False
theorem Ext.refl (S : Addr → Prop) (H : Hp) : Ext S H H := fun _ _ _ h => h
theorem Ext.trans {S : Addr → Prop} {H H1 H2 : Hp} (a : Ext S H H1) (b : Ext S H1 H2) : Ext S H H2 := fun c o n h => b c o n (a c o n h)
theorem Ext.of_same {S : Addr → Prop} {H H' : Hp} (s : Same H H') : Ext S H H' := fun b o _ h => s b o h
theorem Ext.same {H H' : Hp} (e : Ext No H H') : Same H H' := fun b o h => e b o (fun z => z) h
theorem Ext.mono {S S' : Addr → Prop} {H H' : Hp} (e : Ext S H H') (h : ∀ b, S b → S' b) : Ext S' H H' := fun b o n q => e b o (fun z => n (h b z)) q
theorem Ext.free {S : Addr → Prop} {H H' : Hp} (e : Ext S H H') {l : Addr} (n : ¬ S l) (h : H' l = none) : H l = none := by
  cases q : H l with
  | none => rfl
  | some o =>
    rw [e l o n q] at h
    cases h
theorem Ext.put {S : Addr → Prop} {H H1 : Hp} {p : Addr} {o : HO} (s : Ext S H H1) (n : H p = none ∨ S p) : Ext S H (upd H1 p o) := fun b u nb h => by
  by_cases e : b = p
  · subst e
    rcases n with n | n
    · rw [h] at n; cases n
    · exact absurd n nb
  · rw [upd_ne e]
    exact s b u nb h
theorem same_put {H H1 : Hp} {p : Addr} {o : HO} (s : Same H H1) (n : H p = none) : Same H (upd H1 p o) := fun b u h => by
  by_cases e : b = p
  · subst e
    rw [h] at n; cases n
  · rw [upd_ne e]
    exact s b u h
theorem same_new {H H1 : Hp} {p : Addr} {o : HO} (s : Same H H1) (n : H1 p = none) : Same H (upd H1 p o) := same_put s (s.free n)
theorem same_tup {K : PySem.W.Frag} {H H' : Hp} {a : Addr} {xs : List V} (e : Same H H') (h : SqT K H a xs) : SqT K H' a xs := by
  rcases h with (h | ⟨o, h⟩) | h
  · exact .inl (.inl (e _ _ h))
  · exact .inl (.inr ⟨o, e _ _ h⟩)
  · exact .inr h
theorem small {n : Nat} (h : n ≤ 100000) : n ≤ sizeLine := Nat.le_trans h (by decide)
theorem smallLt {n : Nat} (h : n ≤ 100000) : n < sizeLine := Nat.lt_of_le_of_lt h (by decide)
theorem sgn_eq {c d : Nat} : ((⟨#[c]⟩ : Str) = ⟨#[d]⟩) = (c = d) := propext ⟨fun e => by
  have e2 : (#[c] : Array Nat) = #[d] := congrArg Str.cps e
  have e3 : [c] = [d] := congrArg Array.toList e2
  exact (List.cons.inj e3).1, fun e => by rw [e]⟩
theorem beq_dec {a b : Str} : (a == b) = decide (b = a) := by
  by_cases h : b = a
  · subst h; simp
  · rw [decide_eq_false h]; exact beq_eq_false_iff_ne.mpr (Ne.symm h)
/-- a text's words -/
def wds (z : Str) : List Str := Txt.split z "."
theorem split_dot {z : Str} : Txt.split z (Str.ofString ".") = wds z := rfl
def sps (z : Str) : List Str := Txt.split z " "
def nls (z : Str) : List Str := Txt.split z "\n"
theorem split_sp {z : Str} : Txt.split z (Str.ofString " ") = sps z := rfl
theorem split_nl {z : Str} : Txt.split z (Str.ofString "\n") = nls z := rfl
theorem dot_len : ((Str.ofString ".").length == 0) = false := by decide +kernel
theorem sp_len : ((Str.ofString " ").length == 0) = false := by decide +kernel
theorem nl_len : ((Str.ofString "\n").length == 0) = false := by decide +kernel
section
variable {CX : CXT} {P : Program} {w : World} {K : PySem.W.Frag} {mg : Str → Option Value} {base : Heap} {N : List Str} {qual : Str} {scope : Scope} {f : Addr} {cd : Value} {A : Around} {outer : List Env} {s : Shared} {H : Hp} {E : XK}
theorem cxOf_K : (cxOf CX P w K mg base N qual scope f cd A outer s H E).K = K := rfl
end
theorem ifP {c A B : Prop} [Decidable c] (h : c) (a : A) : if c then A else B := by rw [if_pos h]; exact a
theorem ifN {c A B : Prop} [Decidable c] (h : ¬ c) (b : B) : if c then A else B := by rw [if_neg h]; exact b
/-! ### a global def with its promise -/
structure Glob (P : Program) (w : World) (K : PySem.W.Frag) (mg : Str → Option Value) (base : Heap) (CX : CXT) (k : Nat) (x : Str) (ps : List Str) (dvs : List V) (sp : Sp) : Prop where
  ex : ∃ f fd ds, FnOk P w K mg base CX k f fd ps sp ∧ mg x = some (.ref f) ∧ PySem.W.keepIn K (.ref f) = true ∧ Vals dvs ds ∧ Binds K fd ps ds
theorem Glob.mono {P : Program} {w : World} {K : PySem.W.Frag} {mg : Str → Option Value} {base : Heap} {CX : CXT} {j k : Nat} {x : Str} {ps : List Str} {dvs : List V} {sp : Sp} (G : Glob P w K mg base CX j x ps dvs sp) (h : j ≤ k) : Glob P w K mg base CX k x ps dvs sp := by
  obtain ⟨f, fd, ds, F, r⟩ := G.ex
  exact ⟨f, fd, ds, F.mono h, r⟩
section
variable {X : Cx} {CX : CXT} {k : Nat} {x : Str} {ps : List Str} {dvs : List V} {sp : Sp} {E : XK} {p pos : Pos} {e : Expr} {es : List Expr} {t : TA}
theorem pe_callG (G : Glob X.prog X.w X.K X.mg X.base CX k x ps dvs sp) (hr : Room k X.A) (hg : Gl X x) (hx : Passes CX X E) (ha : PA X (e :: es) t)
    (hdb : (x == ("__debug__" : Str)) = false := by decide) (he : starEach (e :: es) X.env = (false, eval e X.env) :: starEach es X.env := by rfl) (hpl : (backTo pos (starEach es X.env)).any (·.1) = false := by rfl) :
    PE X (.Call (.Name x p) (e :: es) [] pos) (tCall sp dvs E t) := by
  refine ⟨fun pins s σ H Q I h => ?_⟩
  obtain ⟨f, fd, ds, F, hm, kp, vd, hb⟩ := G.ex
  exact (pe_call F hr hg hm kp hb vd hx ha hdb he hpl).run pins s σ H Q I h
theorem pe_callG0 (G : Glob X.prog X.w X.K X.mg X.base CX k x ps dvs sp) (hr : Room k X.A) (hg : Gl X x) (hx : Passes CX X E) (hdb : (x == ("__debug__" : Str)) = false := by decide) :
    PE X (.Call (.Name x p) [] [] pos) (tCall sp dvs E tNil) := by
  refine ⟨fun pins s σ H Q I h => ?_⟩
  obtain ⟨f, fd, ds, F, hm, kp, vd, hb⟩ := G.ex
  exact (pe_call0 F hr hg hm kp hb vd hx hdb).run pins s σ H Q I h
/-- a def that may raise, called where it does not -/
theorem passN : Passes (L2.CX X.prog X.w) X E0 := fun _ _ _ _ _ _ _ h => by
  obtain ⟨_, _, _, _, _, _, _, _, _, _, _, _, z⟩ := h
  exact z.elim
/-- a module's constant -/
theorem pe_gi {i : Int} (h : ∃ t, X.mg x = some (.int i t)) (hg : Gl X x) (hd : (x == ("__debug__" : Str)) = false := by decide) : PE X (.Name x pos) (tC (.int i)) := by
  obtain ⟨t, h⟩ := h
  exact pe_glob hg h ⟨t, rfl⟩ hd
theorem pe_gs {z : Str} (h : ∃ t, X.mg x = some (.str z t)) (hg : Gl X x) (hd : (x == ("__debug__" : Str)) = false := by decide) : PE X (.Name x pos) (tC (.str z)) := by
  obtain ⟨t, h⟩ := h
  exact pe_glob hg h ⟨t, rfl⟩ hd
end
/-! ### comprehensions: the new list by what has been gathered -/
/-- a comprehension's turns, behind its source -/
def LcG (J : It) (g : TG) (tt : TT) (te : TE) (vs : List Nat) (σ : L2.St) (H1 : Hp) (Q : VK) : Prop := ∀ D, H1 D = none → ∃ W : Nat → Nat → Hp → Prop, (∃ m, W 0 m (upd H1 D (.lst []))) ∧ ∀ i m H, W i m H →
  (J.stop i H ∧ Q (.ref D) H) ∨ (J.go i H ∧ ∃ Nx : Hp → Prop, (∀ H', Nx H' → ∃ m', m' < m ∧ W (i + 1) m' H') ∧ ∀ x H', J.yld i H x H' → g x (wipe σ vs) H' fun σ2 H2 => wipe σ2 vs = wipe σ vs ∧ tt σ2 H2 fun b H3 =>
    if b = true then te σ2 H3 fun y H4 => ∃ acc, H4 D = some (.lst acc) ∧ acc.length < sizeLine ∧ Nx (upd H4 D (.lst (acc ++ [y]))) else Nx H3)
theorem tLc_eq {wi : TI} {g : TG} {tt : TT} {te : TE} {vs : List Nat} {σ : L2.St} {H : Hp} {Q : VK} : tLc wi g tt te vs σ H Q = wi σ H fun J H1 => LcG J g tt te vs σ H1 Q := rfl
/-- a for's turns, behind its source -/
def ForG (J : It) (g : TG) (tb : TS) (D : Ends) (σ : L2.St) (H : Hp) : Prop := ∃ W : Nat → Nat → L2.St → Hp → Prop, (∃ m, W 0 m σ H) ∧ ∀ i m σ H, W i m σ H →
  (J.stop i H ∧ D.nx σ H) ∨ (J.go i H ∧ ∃ N : L2.St → Hp → Prop, (∀ σ' H', N σ' H' → ∃ m', m' < m ∧ W (i + 1) m' σ' H') ∧ ∀ x H', J.yld i H x H' → g x σ H' fun σ2 H2 => tb { D with nx := N, ct := N, bk := D.nx } σ2 H2)
theorem tFor_eq {wi : TI} {g : TG} {tb : TS} {D : Ends} {σ : L2.St} {H : Hp} : tFor wi g tb D σ H = wi σ H fun J H1 => ForG J g tb D σ H1 := rfl
theorem forG {J : It} {n : Nat} {G : Hp → Prop} {Y : Nat → Hp → V → Hp → Prop} (w : Walk J n G Y) {g : TG} {tb : TS} {D : Ends} {σ : L2.St} {H : Hp} (Pv : Nat → L2.St → Hp → Prop) (h0 : Pv 0 σ H) (hG : ∀ i σ H, i ≤ n → Pv i σ H → G H)
    (hs : ∀ i x σ H H', i < n → Pv i σ H → Y i H x H' → g x σ H' fun σ2 H2 => tb { D with nx := Pv (i + 1), ct := Pv (i + 1), bk := D.nx } σ2 H2) (hd : ∀ σ H, Pv n σ H → D.nx σ H) : ForG J g tb D σ H := for_it w Pv h0 hG hs hd
theorem lc_acc {J : It} {n : Nat} {G : Hp → Prop} {Y : Nat → Hp → V → Hp → Prop} (w : Walk J n G Y) {g : TG} {tt : TT} {te : TE} {vs : List Nat} {σ : L2.St} {H1 : Hp} {Q : VK} (S : Addr → Prop) (Iv : Hp → Prop) (Pa : Nat → List V → Prop)
    (hn : n < sizeLine) (nD : ∀ D, H1 D = none → ¬ S D) (h0 : Pa 0 []) (i0 : Iv H1) (hI : ∀ D H o, H1 D = none → Iv H → Iv (upd H D o)) (hG : ∀ H, Ext S H1 H → Iv H → G H)
    (hs : ∀ i x H H' acc (R : Option V → Hp → Prop), i < n → Ext S H1 H → Iv H → Pa i acc → Y i H x H' →
      (∀ H2, Ext S H H2 → Iv H2 → Pa (i + 1) acc → R none H2) → (∀ y H2, Ext S H H2 → Iv H2 → Pa (i + 1) (acc ++ [y]) → R (some y) H2) →
      g x (wipe σ vs) H' fun σ2 H2 => wipe σ2 vs = wipe σ vs ∧ tt σ2 H2 fun b H3 => if b = true then te σ2 H3 (fun y H4 => R (some y) H4) else R none H3)
    (hd : ∀ D acc H, H1 D = none → Pa n acc → acc.length ≤ n → Ext S H1 H → Iv H → H D = some (.lst acc) → Q (.ref D) H) : LcG J g tt te vs σ H1 Q := by
  intro D fD
  have nD := nD D fD
  have hI := fun H o => hI D H o fD
  refine lc_it w (fun i H => ∃ acc, Pa i acc ∧ acc.length ≤ i ∧ Ext S H1 H ∧ Iv H ∧ H D = some (.lst acc)) ⟨[], h0, Nat.le_refl _, (Ext.refl S H1).put (.inl fD), hI _ _ i0, upd_same⟩ (fun i H _ ⟨acc, _, _, e, iv, _⟩ => hG H e iv) (fun i x H H' hi hP hy => ?_)
    (fun H ⟨acc, p, l, e, iv, hD⟩ => hd D acc H fD p l e iv hD)
  obtain ⟨acc, p, l, e, iv, hD⟩ := hP
  refine hs i x H H' acc (fun o H4 => match o with
    | some y => ∃ acc, H4 D = some (.lst acc) ∧ acc.length < sizeLine ∧ ∃ acc', Pa (i + 1) acc' ∧ acc'.length ≤ i + 1 ∧ Ext S H1 (upd H4 D (.lst (acc ++ [y]))) ∧ Iv (upd H4 D (.lst (acc ++ [y]))) ∧ (upd H4 D (.lst (acc ++ [y]))) D = some (.lst acc')
    | none => ∃ acc', Pa (i + 1) acc' ∧ acc'.length ≤ i + 1 ∧ Ext S H1 H4 ∧ Iv H4 ∧ H4 D = some (.lst acc')) hi e iv p hy (fun H2 e2 iv2 p2 => ?_) (fun y H2 e2 iv2 p2 => ?_)
  · exact ⟨acc, p2, Nat.le_succ_of_le l, e.trans e2, iv2, e2 D _ nD hD⟩
  · exact ⟨acc, e2 D _ nD hD, Nat.lt_of_le_of_lt (Nat.le_trans l (Nat.le_of_lt hi)) hn, acc ++ [y], p2, by rw [List.length_append]; exact Nat.succ_le_succ l, (e.trans e2).put (.inl fD), hI _ _ iv2, upd_same⟩
section
variable {K : PySem.W.Frag} {a b : Addr}
theorem walk_listm {α : Type} (xs : List α) (inj : α → V) : Walk (Itl K a) xs.length (fun H => SqL K H a (xs.map inj)) (fun i H x H' => H' = H ∧ ∃ y, xs[i]? = some y ∧ x = inj y) := by
  have w := walk_list (K := K) (a := a) (xs := xs.map inj)
  rw [List.length_map] at w
  refine w.mono (fun H h => h) (fun i H x H' hi _ y => ⟨y.1, ?_⟩)
  have h := y.2
  rw [List.getElem?_map] at h
  cases q : xs[i]? with
  | none => rw [q] at h; cases h
  | some z => rw [q] at h; exact ⟨z, rfl, (Option.some.inj h).symm⟩
theorem walk_tupm {α : Type} (xs : List α) (inj : α → V) : Walk (Itt K a) xs.length (fun H => SqT K H a (xs.map inj)) (fun i H x H' => H' = H ∧ ∃ y, xs[i]? = some y ∧ x = inj y) := by
  have w := walk_tup (K := K) (a := a) (xs := xs.map inj)
  rw [List.length_map] at w
  refine w.mono (fun H h => h) (fun i H x H' hi _ y => ⟨y.1, ?_⟩)
  have h := y.2
  rw [List.getElem?_map] at h
  cases q : xs[i]? with
  | none => rw [q] at h; cases h
  | some z => rw [q] at h; exact ⟨z, rfl, (Option.some.inj h).symm⟩
/-- zip of two lists: a new pair at each turn -/
theorem walk_zipm {α β : Type} (xs : List α) (ys : List β) (f : α → V) (g : β → V) : Walk (Itz K a b) (xs.zip ys).length (fun H => SqL K H a (xs.map f) ∧ SqL K H b (ys.map g))
    (fun i H v H' => ∃ (t : Addr) (q : α × β), v = .ref t ∧ H t = none ∧ H' = upd H t (.tup [f q.1, g q.2]) ∧ (xs.zip ys)[i]? = some q) := by
  have w := walk_zip (K := K) (a := a) (b := b) (xs := xs.map f) (ys := ys.map g) (n := (xs.zip ys).length) (by rw [List.length_zip, List.length_map, List.length_map])
  refine w.mono (fun H h => h) (fun i H x H' hi _ y => ?_)
  obtain ⟨t, x1, x2, e1, e2, e3, e4, e5⟩ := y
  have h1 : (xs.zip ys)[i]? = some (xs.zip ys)[i] := List.getElem?_eq_getElem hi
  have h2 := List.getElem?_zip_eq_some.mp h1
  have e6 : x1 = f (xs.zip ys)[i].1 := by
    have e4 : (xs.map f)[i]? = some x1 := e4
    rw [List.getElem?_map, h2.1] at e4
    exact (Option.some.inj e4).symm
  have e7 : x2 = g (xs.zip ys)[i].2 := by
    have e5 : (ys.map g)[i]? = some x2 := e5
    rw [List.getElem?_map, h2.2] at e5
    exact (Option.some.inj e5).symm
  exact ⟨t, _, e1, e2, by rw [e3, e6, e7], h1⟩
theorem ixN_in {n : Nat} {i : Int} (h0 : 0 ≤ i) (h1 : i < n) : ixN n i = some i.toNat := by
  unfold ixN
  rw [if_pos h0, if_pos h1]
theorem atI_neg1 {xs : List V} (h : xs ≠ []) : atI xs (-1) = xs.getLast? := by
  have e : xs = xs.dropLast ++ [xs.getLast h] := (List.dropLast_concat_getLast h).symm
  rw [e, atI_last]
  simp
end
/-- a comprehension that changes nothing that stood: the new list is F of the items, where it is some -/
theorem lc_fil {α : Type} (xs : List α) (F : α → Option V) {J : It} {G : Hp → Prop} {Y : Nat → Hp → V → Hp → Prop} (w : Walk J xs.length G Y) {g : TG} {tt : TT} {te : TE} {vs : List Nat} {σ : L2.St} {H1 : Hp} {Q : VK}
    (hn : xs.length ≤ 100000) (hG : ∀ H, Same H1 H → G H)
    (hs : ∀ i a x H H' (R : Option V → Hp → Prop), xs[i]? = some a → Same H1 H → Y i H x H' → (∀ H2, Same H H2 → R (F a) H2) →
      g x (wipe σ vs) H' fun σ2 H2 => wipe σ2 vs = wipe σ vs ∧ tt σ2 H2 fun b H3 => if b = true then te σ2 H3 (fun y H4 => R (some y) H4) else R none H3)
    (hd : ∀ D H, H1 D = none → Same H1 H → H D = some (.lst (xs.filterMap F)) → Q (.ref D) H) : LcG J g tt te vs σ H1 Q := by
  refine lc_acc w No (fun _ => True) (fun i acc => acc = (xs.take i).filterMap F) (smallLt hn) (fun _ _ z => z) rfl trivial (fun _ _ _ _ _ => trivial) (fun H e _ => hG H e.same) (fun i x H H' acc R hi e _ p hy r0 r1 => ?_) (fun D acc H fD p _ e _ hD => ?_)
  · have hx : xs[i]? = some xs[i] := List.getElem?_eq_getElem hi
    refine hs i xs[i] x H H' R hx e.same hy (fun H2 s2 => ?_)
    cases q : F xs[i] with
    | none =>
      refine r0 H2 (.of_same s2) trivial ?_
      rw [p, List.take_add_one, hx, List.filterMap_append]
      simp [q]
    | some y =>
      refine r1 y H2 (.of_same s2) trivial ?_
      rw [p, List.take_add_one, hx, List.filterMap_append]
      simp [q]
  · subst p
    refine hd D H fD e.same ?_
    rw [hD, List.take_length]
/-- .. the new list is f of the items -/
theorem lc_map {α : Type} (xs : List α) (f : α → V) {J : It} {G : Hp → Prop} {Y : Nat → Hp → V → Hp → Prop} (w : Walk J xs.length G Y) {g : TG} {te : TE} {vs : List Nat} {σ : L2.St} {H1 : Hp} {Q : VK}
    (hn : xs.length ≤ 100000) (hG : ∀ H, Same H1 H → G H)
    (hs : ∀ i a x H H' (R : VK), xs[i]? = some a → Same H1 H → Y i H x H' → (∀ H2, Same H H2 → R (f a) H2) →
      g x (wipe σ vs) H' fun σ2 H2 => wipe σ2 vs = wipe σ vs ∧ te σ2 H2 R)
    (hd : ∀ D H, H1 D = none → Same H1 H → H D = some (.lst (xs.map f)) → Q (.ref D) H) : LcG J g tYes te vs σ H1 Q := by
  refine lc_fil xs (fun a => some (f a)) w hn hG (fun i a x H H' R hx s1 hy r => ?_) (fun D H fD s1 hD => hd D H fD s1 ?_)
  · simp only [tYes, if_true]
    exact hs i a x H H' (fun v h => R (some v) h) hx s1 hy r
  · rw [hD]
    simp
end Hk

set_option Elab.async false
set_option linter.all false
set_option maxRecDepth 100000
set_option maxHeartbeats 4000000
/-! The rules that speak of X.K, with K told (a comprehension's block has an X of its own). -/
namespace Hk
open PySem PySem.Spec PyProof.Rows L2
section
variable {X : Cx} {K : PySem.W.Frag} (hK : X.K = K)
include hK
theorem ix_listK : IxR X (rIxL K) := by subst hK; exact ix_list
theorem ix_tupK : IxR X (rIxT K) := by subst hK; exact ix_tup
theorem sl_listK : SlR X (rSlL K) := by subst hK; exact sl_list
theorem sl_tupK : SlR X (rSlA K) := by subst hK; exact sl_tupA
theorem op_in_seqK : OpR X (compareOp .In) (rIn K false) := by subst hK; exact op_in_seq
theorem op_notIn_seqK : OpR X (compareOp .NotIn) (rIn K true) := by subst hK; exact op_notIn_seq
def rLenK (K : PySem.W.Frag) : List V → Hp → VK → Prop := fun xs H Q => ∃ p ys, xs = [.ref p] ∧ (SqL K H p ys ∨ SqT K H p ys) ∧ Q (.int ys.length) H
theorem call_len_seqK : CallR X (.builtin "len") (rLenK K) := by subst hK; exact call_len_seq
theorem cr_allK (hc : X.calm = true) : CallR X (.builtin "all") (rAll K) := by subst hK; exact cr_all hc
theorem cr_anyK (hc : X.calm = true) : CallR X (.builtin "any") (rAny K) := by subst hK; exact cr_any hc
def rListOf (K : PySem.W.Frag) : List V → Hp → VK → Prop := fun xs H Q => ∃ p ys, xs = [.ref p] ∧ (SqL K H p ys ∨ SqT K H p ys) ∧ ∀ l, H l = none → Q (.ref l) (upd H l (.lst ys))
theorem call_list_ofK : CallR X (.type "list") (rListOf K) := by subst hK; exact call_list_of
theorem op_eqDK (hu : X.A.units + 64 < cLine) : OpR X (compareOp .Eq) (rEqD K) := by subst hK; exact op_eqD hu
theorem op_neDK (hu : X.A.units + 64 < cLine) : OpR X (compareOp .NotEq) (rNeD K) := by subst hK; exact op_neD hu
theorem op_catAK : OpR X (binaryOp .Add) (rCatA K) := by subst hK; exact op_catA
theorem pi_listK {tg l : Expr} {tl : TE} (hl : PE X l tl) : PI X tg l (iList K tl) := by subst hK; exact pi_list hl
theorem pi_tupK {tg l : Expr} {tl : TE} (hl : PE X l tl) : PI X tg l (iTup K tl) := by subst hK; exact pi_tup hl
theorem pi_zipK {e e2 : Expr} {ta : TA} {p pos tpos : Pos} {elts : List Expr} {kk : Nat} (hg : Gl X "zip") (hm : X.mg "zip" = none) (ha : PA X [e, e2] ta)
    (hs : starEach [e, e2] X.env = (false, eval e X.env) :: starEach [e2] X.env := by rfl) (hpl : (backTo pos (starEach [e2] X.env)).any (·.1) = false := by rfl) :
    PI X (.Tuple elts kk tpos) (.Call (.Name "zip" p) [e, e2] [] pos) (iZip K ta) := by subst hK; exact pi_zip hg hm ha hs hpl
theorem pi_enumK {e : Expr} {ta : TA} {p pos tpos : Pos} {elts : List Expr} {kk : Nat} (hg : Gl X "enumerate") (hm : X.mg "enumerate" = none) (ha : PA X [e] ta) (hs : starEach [e] X.env = [(false, eval e X.env)] := by rfl) :
    PI X (.Tuple elts kk tpos) (.Call (.Name "enumerate" p) [e] [] pos) (iEnum K ta) := by subst hK; exact pi_enum hg hm ha hs
theorem pg_tupK {es : List Expr} {k : Nat} {t : TGs} {n : Nat} {pos : Pos} (hc : X.calm = true) (h : PGs X es t) (hn : (assignEach es X.env).length = n := by rfl) (hst : (assignEach es X.env).findIdx? (·.1) = none := by rfl) :
    PG X (.Tuple es k pos) (gTup K n t) := by subst hK; exact pg_tup hc h hn hst
theorem pe_bm0K {o : Expr} {to : TE} {name : Str} {apos cpos : Pos} {T id : String} {r : V → List V → Hp → VK → Prop} (pa : PlainAttrs T) (slot : Slot T name id) (hty : typeOf (.builtin id) = pure (.type "method_descriptor")) (hm : MtR X id r) (ho : PE X o to)
    (hbase : attributeBase o name X.env (eval o X.env) = eval o X.env := by rfl) (hline : (apos.endLine == cpos.line) = true := by rfl) : PE X (.Call (.Attribute o name apos) [] [] cpos) (tBM0 K T r to) := by
  subst hK; exact pe_bm0 pa slot hty hm ho hbase hline
theorem pe_bmK {o e : Expr} {es : List Expr} {to : TE} {t : TA} {name : Str} {apos cpos : Pos} {T id : String} {r : V → List V → Hp → VK → Prop} (pa : PlainAttrs T) (slot : Slot T name id) (hty : typeOf (.builtin id) = pure (.type "method_descriptor")) (hm : MtR X id r) (ho : PE X o to) (ha : PA X (e :: es) t)
    (hbase : attributeBase o name X.env (eval o X.env) = eval o X.env := by rfl)
    (hfew : ((backTo cpos (starEach (e :: es) X.env)).all (fun x => !x.1) && (backToKw cpos (keywordEach [] X.env)).all (fun x => x.1.isSome)
      && decide ((e :: es).length + ([] : List Keyword).length + (if ([] : List Keyword).isEmpty then 0 else 1) < 30)) = true := by rfl)
    (hline : (apos.endLine == cpos.line) = true := by rfl) (hs : starEach (e :: es) X.env = (false, eval e X.env) :: starEach es X.env := by rfl) (hplain : (backTo cpos (starEach es X.env)).any (·.1) = false := by rfl) :
    PE X (.Call (.Attribute o name apos) (e :: es) [] cpos) (tBM K T r to t) := by subst hK; exact pe_bm pa slot hty hm ho ha hbase hfew hline hs hplain
def rJoin (K : PySem.W.Frag) : V → List V → Hp → VK → Prop := fun x xs H Q => ∃ a p, ∃ ys : List Str, x = .str a ∧ xs = [.ref p] ∧ (SqL K H p (ys.map V.str) ∨ SqT K H p (ys.map V.str)) ∧
      (ys.map (·.length)).sum + ys.length * a.length ≤ 16777216 ∧ Q (.str (Txt.join a ys)) H
theorem pe_joinK {o e : Expr} {to te : TE} {apos pos : Pos} (ho : PE X o to) (he : PE X e te) (hs : starEach [e] X.env = [(false, eval e X.env)] := by rfl) (hbase : attributeBase o "join" X.env (eval o X.env) = eval o X.env := by rfl) (hline : (apos.endLine == pos.line) = true := by rfl) :
    PE X (.Call (.Attribute o "join" apos) [e] [] pos) (tM1 (rJoin K) to te) := by subst hK; exact pe_join ho he hs hbase hline
theorem pt_truthK {a : Expr} {ta : TE} (ha : PE X a ta) (he : ∀ whole, isTrue a X.env whole = (do let v ← whole; standAt a.pos; holding [v] (truthy v))) :
    PT X a (fun σ H Q => ta σ H fun x H' => ∃ k, TruV K x H' k ∧ Q k H') := by subst hK; exact pt_truth ha he
theorem pe_notTK {a : Expr} {ta : TE} {pos : Pos} (ha : PE X a ta) : PE X (.UnaryOp .Not a pos) (tNotT K ta) := by subst hK; exact pe_notT ha
theorem mt_indexK : MtR X "list.index" (rIndex K) := by subst hK; exact mt_index
theorem mt_lcountK : MtR X "list.count" (rCntI K) := by subst hK; exact mt_lcount
theorem pe_fldK {e : Expr} {f : Str} {ta : TE} {pos : Pos} (he : PE X e ta) (hb : attributeBase e f X.env (eval e X.env) = eval e X.env) : PE X (.Attribute e f pos) (tFld K ta f) := by subst hK; exact pe_fld he hb
end
/-! ### words for readings -/
theorem scal_ss {a b : Str} : scal (.str a) (.str b) = true := rfl
theorem scal_ii {a b : Int} : scal (.int a) (.int b) = true := rfl
theorem scal_bb {a b : Bool} : scal (.bl a) (.bl b) = true := rfl
theorem scal_ns {b : Str} : scal .non (.str b) = true := rfl
theorem scal_sn {b : Str} : scal (.str b) .non = true := rfl
theorem scal_nn : scal .non .non = true := rfl
theorem scal_in {a : Int} : scal (.int a) .non = true := rfl
theorem scal_ni {a : Int} : scal .non (.int a) = true := rfl
theorem gCons_cons {t : TG} {u : TGs} {x : V} {xs : List V} {σ : L2.St} {H : Hp} {Q : L2.St → Hp → Prop} : gCons t u (x :: xs) σ H Q = t x σ H fun σ' H' => u xs σ' H' Q := propext ⟨fun ⟨v, r, e, h⟩ => by cases e; exact h, fun h => ⟨x, xs, rfl, h⟩⟩
theorem gNil_nil {σ : L2.St} {H : Hp} {Q : L2.St → Hp → Prop} : gNil [] σ H Q = Q σ H := propext ⟨fun h => h.2, fun h => ⟨rfl, h⟩⟩
theorem gTup_ref {K : PySem.W.Frag} {n : Nat} {t : TGs} {a : Addr} {σ : L2.St} {H : Hp} {Q : L2.St → Hp → Prop} : gTup K n t (.ref a) σ H Q = ∃ xs, SqT K H a xs ∧ xs.length = n ∧ t xs σ H Q := propext ⟨fun ⟨_, xs, e, h⟩ => by cases e; exact ⟨xs, h⟩, fun ⟨xs, h⟩ => ⟨a, xs, rfl, h⟩⟩
theorem rSetL_ref {p : Addr} {k : Int} {v : V} {H : Hp} {Q : Hp → Prop} : rSetL (.ref p) (.int k) v H Q = ∃ xs j, H p = some (.lst xs) ∧ ixN xs.length k = some j ∧ Q (upd H p (.lst (xs.set j v))) := propext ⟨fun ⟨_, xs, _, j, e, e2, h⟩ => by cases e; cases e2; exact ⟨xs, j, h⟩, fun ⟨xs, j, h⟩ => ⟨p, xs, k, j, rfl, rfl, h⟩⟩
theorem rCat_ref {l b : Addr} {H : Hp} {Q : VK} : rCat (.ref l) (.ref b) H Q = ∃ xs zs, H l = some (.lst xs) ∧ H b = some (.lst zs) ∧ xs.length + zs.length ≤ sizeLine ∧ ∀ p, H p = none → Q (.ref p) (upd H p (.lst (xs ++ zs))) := propext ⟨fun ⟨_, _, xs, zs, e, e2, h⟩ => by cases e; cases e2; exact ⟨xs, zs, h⟩, fun ⟨xs, zs, h⟩ => ⟨l, b, xs, zs, rfl, rfl, h⟩⟩
theorem rRep_ref {l : Addr} {k : Int} {H : Hp} {Q : VK} : rRep (.ref l) (.int k) H Q = ∃ xs, H l = some (.lst xs) ∧ -(2 ^ 63) ≤ k ∧ k < 2 ^ 63 ∧ xs.length * k.toNat ≤ sizeLine ∧ ∀ p, H p = none → Q (.ref p) (upd H p (.lst (List.replicate k.toNat xs).flatten)) := propext ⟨fun ⟨_, _, xs, e, e2, h⟩ => by cases e; cases e2; exact ⟨xs, h⟩, fun ⟨xs, h⟩ => ⟨l, k, xs, rfl, rfl, h⟩⟩
theorem rJoin_ref {K : PySem.W.Frag} {a : Str} {p : Addr} {H : Hp} {Q : VK} : rJoin K (.str a) [.ref p] H Q = ∃ ys : List Str, (SqL K H p (ys.map V.str) ∨ SqT K H p (ys.map V.str)) ∧ (ys.map (·.length)).sum + ys.length * a.length ≤ 16777216 ∧ Q (.str (Txt.join a ys)) H := propext ⟨fun ⟨_, _, xs, e, e2, h⟩ => by cases e; cases e2; exact ⟨xs, h⟩, fun ⟨xs, h⟩ => ⟨a, p, xs, rfl, rfl, h⟩⟩
theorem rSlL_ref {K : PySem.W.Frag} {a : Addr} {lo hi : Option Int} {H : Hp} {Q : VK} : rSlL K (.ref a) lo hi H Q = ∃ xs, SqL K H a xs ∧ ∀ p, H p = none → Q (.ref p) (upd H p (.lst (cutV xs lo hi))) := propext ⟨fun ⟨_, xs, e, h⟩ => by cases e; exact ⟨xs, h⟩, fun ⟨xs, h⟩ => ⟨a, xs, rfl, h⟩⟩
theorem rSlS_ref {z : Str} {lo hi : Option Int} {H : Hp} {Q : VK} : rSlS (.str z) lo hi H Q = (z.length ≤ sizeLine ∧ Q (.str (cutS z lo hi)) H) := propext ⟨fun ⟨_, e, h⟩ => by cases e; exact h, fun h => ⟨z, rfl, h⟩⟩
theorem rIxL_ref {K : PySem.W.Frag} {p : Addr} {i : Int} {H : Hp} {Q : VK} : rIxL K (.ref p) (.int i) H Q = ∃ xs v, SqL K H p xs ∧ atI xs i = some v ∧ Q v H := propext ⟨fun ⟨_, xs, _, v, e, e2, h⟩ => by cases e; cases e2; exact ⟨xs, v, h⟩, fun ⟨xs, v, h⟩ => ⟨p, xs, i, v, rfl, rfl, h⟩⟩
theorem rIxT_ref {K : PySem.W.Frag} {p : Addr} {i : Int} {H : Hp} {Q : VK} : rIxT K (.ref p) (.int i) H Q = ∃ xs v, SqT K H p xs ∧ atI xs i = some v ∧ Q v H := propext ⟨fun ⟨_, xs, _, v, e, e2, h⟩ => by cases e; cases e2; exact ⟨xs, v, h⟩, fun ⟨xs, v, h⟩ => ⟨p, xs, i, v, rfl, rfl, h⟩⟩
theorem rLenK_ref {K : PySem.W.Frag} {p : Addr} {H : Hp} {Q : VK} : rLenK K [.ref p] H Q = ∃ ys, (SqL K H p ys ∨ SqT K H p ys) ∧ Q (.int ys.length) H := propext ⟨fun ⟨_, ys, e, h⟩ => by cases e; exact ⟨ys, h⟩, fun ⟨ys, h⟩ => ⟨p, ys, rfl, h⟩⟩
theorem rAll_ref {K : PySem.W.Frag} {p : Addr} {H : Hp} {Q : VK} : rAll K [.ref p] H Q = ∃ bs : List Bool, SqL K H p (bs.map V.bl) ∧ Q (.bl (bs.all id)) H := propext ⟨fun ⟨_, ys, e, h⟩ => by cases e; exact ⟨ys, h⟩, fun ⟨ys, h⟩ => ⟨p, ys, rfl, h⟩⟩
theorem rIn_ref {K : PySem.W.Frag} {b : Bool} {p : Addr} {x : V} {H : Hp} {Q : VK} : rIn K b x (.ref p) H Q = ∃ xs, (SqL K H p xs ∨ SqT K H p xs) ∧ flatV x = true ∧ xs.all flatV = true ∧ Q (.bl (if b then !inV x xs else inV x xs)) H := propext ⟨fun ⟨_, ys, e, h⟩ => by cases e; exact ⟨ys, h⟩, fun ⟨ys, h⟩ => ⟨p, ys, rfl, h⟩⟩
/-! ### a text once or not at all -/
def rMulS : R2 := fun x y H Q => ∃ z n, x = .str z ∧ y = .int n ∧ (n = 0 ∨ n = 1) ∧ Q (.str (if n = 1 then z else Str.empty)) H
theorem op_mulS {X : Cx} : OpR X (binaryOp .Mult) rMulS := by
  intro pins s σ H x y v u Q I rx ry h
  obtain ⟨z, n, rfl, rfl, hn, q⟩ := h
  obtain ⟨t, rfl⟩ := rx
  obtain ⟨t', rfl⟩ := ry
  refine SB.mul ?_ fun t2 k => ⟨.str (Txt.mul z n), H, I.tok _, ⟨_, rfl⟩, ?_⟩
  · rcases hn with rfl | rfl
    · exact ⟨by decide, fun h => absurd (by decide) h, fun h => absurd (by decide) h⟩
    · exact ⟨by decide, fun _ h => by simp at h, fun _ h => by simp at h⟩
  · have e : Txt.mul z n = if n = 1 then z else Str.empty := by
      rcases hn with rfl | rfl
      · rfl
      · rfl
    rw [e]; exact q
theorem rMulS_ref {z : Str} {n : Int} {H : Hp} {Q : VK} : rMulS (.str z) (.int n) H Q = ((n = 0 ∨ n = 1) ∧ Q (.str (if n = 1 then z else Str.empty)) H) := propext ⟨fun ⟨_, _, e, e2, h⟩ => by cases e; cases e2; exact h, fun h => ⟨z, n, rfl, rfl, h⟩⟩
/-! ### isinstance -/
section
variable {X : Cx} {K : PySem.W.Frag} (hK : X.K = K)
include hK
theorem call_isiK1 : CallR X (.builtin "isinstance") (rIsi K) := by subst hK; exact call_isi
theorem call_isiTK : CallR X (.builtin "isinstance") (rIsiT K) := by subst hK; exact call_isiT
theorem ix_seqK : IxR X (rIx K) := by subst hK; exact ix_seq
end
def tyName : PyData → String
  | .none => "NoneType"
  | .bool _ => "bool"
  | .int _ => "int"
  | .str _ => "str"
  | .list _ => "list"
  | .tuple _ => "tuple"
  | .dict _ => "dict"
theorem tyx_dp {K : PySem.W.Frag} {H : Hp} {x : V} {d : PyData} (h : Dp K H x d) : TyX K H x (.type (tyName d)) := by
  cases h with
  | non => exact .base .non
  | bl b => exact .base (.bl b)
  | int i => exact .base (.int i)
  | str x => exact .base (.str x)
  | lst h _ =>
    rcases h with (h | ⟨o, h⟩) | ⟨o, its, n, h, c, _⟩
    · exact .base (.lst h)
    · exact .base (.frz h)
    · exact .kList h c
  | tup h _ =>
    rcases h with (h | ⟨o, h⟩) | ⟨o, its, n, h, c, _⟩
    · exact .base (.tup h)
    · exact .fTuple h
    · exact .kTuple h c
theorem isi_dp {K : PySem.W.Frag} {H : Hp} {x : V} {d : PyData} {n : String} {b : Bool} {Q : VK} (h : Dp K H x d) (e : kitB (tyName d) n = some b) (q : Q (.bl b) H) : rIsi K [x, .ty n] H Q :=
  ⟨x, .ty n, _, _, b, rfl, .ty n, tyx_dp h, kit_ty e, q⟩
theorem isiT_dp {K : PySem.W.Frag} {H : Hp} {x : V} {d : PyData} {tp : Addr} {n m : String} {b c : Bool} {Q : VK} (h : Dp K H x d) (ht : H tp = some (.tup [.ty n, .ty m])) (e : kitB (tyName d) n = some b) (e2 : kitB (tyName d) m = some c) (q : Q (.bl (b || c)) H) : rIsiT K [x, .ref tp] H Q := by
  refine ⟨x, tp, _, _, [.type n, .type m], b || c, rfl, ht, .cons (.ty n) (.cons (.ty m) .nil), tyx_dp h, kitAny_cons (kit_ty e) (fun hb => ?_) (fun hb => by rw [hb]; rfl), q⟩
  subst hb
  exact kitAny_cons (r := c) (kit_ty e2) (fun hc => by rw [hc]; exact kitAny_nil) (fun hc => hc)
theorem kb_NoneType_tuple : kitB "NoneType" "tuple" = some false := by decide +kernel
theorem kb_NoneType_list : kitB "NoneType" "list" = some false := by decide +kernel
theorem kb_NoneType_str : kitB "NoneType" "str" = some false := by decide +kernel
theorem kb_NoneType_int : kitB "NoneType" "int" = some false := by decide +kernel
theorem kb_NoneType_bool : kitB "NoneType" "bool" = some false := by decide +kernel
theorem kb_bool_tuple : kitB "bool" "tuple" = some false := by decide +kernel
theorem kb_bool_list : kitB "bool" "list" = some false := by decide +kernel
theorem kb_bool_str : kitB "bool" "str" = some false := by decide +kernel
theorem kb_bool_int : kitB "bool" "int" = some true := by decide +kernel
theorem kb_bool_bool : kitB "bool" "bool" = some true := by decide +kernel
theorem kb_int_tuple : kitB "int" "tuple" = some false := by decide +kernel
theorem kb_int_list : kitB "int" "list" = some false := by decide +kernel
theorem kb_int_str : kitB "int" "str" = some false := by decide +kernel
theorem kb_int_int : kitB "int" "int" = some true := by decide +kernel
theorem kb_int_bool : kitB "int" "bool" = some false := by decide +kernel
theorem kb_str_tuple : kitB "str" "tuple" = some false := by decide +kernel
theorem kb_str_list : kitB "str" "list" = some false := by decide +kernel
theorem kb_str_str : kitB "str" "str" = some true := by decide +kernel
theorem kb_str_int : kitB "str" "int" = some false := by decide +kernel
theorem kb_str_bool : kitB "str" "bool" = some false := by decide +kernel
theorem kb_list_tuple : kitB "list" "tuple" = some false := by decide +kernel
theorem kb_list_list : kitB "list" "list" = some true := by decide +kernel
theorem kb_list_str : kitB "list" "str" = some false := by decide +kernel
theorem kb_list_int : kitB "list" "int" = some false := by decide +kernel
theorem kb_list_bool : kitB "list" "bool" = some false := by decide +kernel
theorem kb_tuple_tuple : kitB "tuple" "tuple" = some true := by decide +kernel
theorem kb_tuple_list : kitB "tuple" "list" = some false := by decide +kernel
theorem kb_tuple_str : kitB "tuple" "str" = some false := by decide +kernel
theorem kb_tuple_int : kitB "tuple" "int" = some false := by decide +kernel
theorem kb_tuple_bool : kitB "tuple" "bool" = some false := by decide +kernel
mutual
/-- every list and tuple within is of bounded length -/
def smallD : PyData → Bool
  | .list xs => decide (xs.length ≤ 100000) && smallAll xs
  | .tuple xs => decide (xs.length ≤ 100000) && smallAll xs
  | .none => true
  | .bool _ => true
  | .int _ => true
  | .str _ => true
  | .dict _ => true
def smallAll : List PyData → Bool
  | [] => true
  | x :: r => smallD x && smallAll r
end
theorem small_in : ∀ {ds : List PyData}, smallAll ds = true → ∀ d ∈ ds, smallD d = true
  | [], _, _, h => nomatch h
  | x :: r, h, d, hd => by
    simp only [smallAll, Bool.and_eq_true] at h
    rcases List.mem_cons.mp hd with e | e
    · rw [e]; exact h.1
    · exact small_in h.2 d e
theorem smallAll_of : ∀ {ds : List PyData}, (∀ d ∈ ds, smallD d = true) → smallAll ds = true
  | [], _ => by simp only [smallAll]
  | x :: r, h => by
    simp only [smallAll]
    rw [h x (List.mem_cons_self ..), smallAll_of fun d hd => h d (List.mem_cons_of_mem _ hd)]; rfl
theorem smallL_of {ds : List PyData} (hl : ds.length ≤ 100000) (h : ∀ d ∈ ds, smallD d = true) : smallD (.list ds) = true := by
  simp only [smallD]
  rw [decide_eq_true hl, smallAll_of h]; rfl
theorem smallT_of {ds : List PyData} (hl : ds.length ≤ 100000) (h : ∀ d ∈ ds, smallD d = true) : smallD (.tuple ds) = true := by
  simp only [smallD]
  rw [decide_eq_true hl, smallAll_of h]; rfl
/-! ### == of data -/
theorem dpAll_map {K : PySem.W.Frag} {H : Hp} {α : Type} {f : α → V} {g : α → PyData} : ∀ {xs : List α}, (∀ a ∈ xs, Dp K H (f a) (g a)) → DpAll K H (xs.map f) (xs.map g)
  | [], _ => .nil
  | a :: r, h => .cons (h a (List.mem_cons_self ..)) (dpAll_map fun b hb => h b (List.mem_cons_of_mem _ hb))
mutual
theorem dp_same {K : PySem.W.Frag} {H H' : Hp} (s : Same H H') : ∀ {v : V} {d : PyData}, Dp K H v d → Dp K H' v d
  | _, _, .non => .non
  | _, _, .bl b => .bl b
  | _, _, .int i => .int i
  | _, _, .str x => .str x
  | _, _, .lst h a => .lst (s.seq h) (dpAll_same s a)
  | _, _, .tup h a => .tup (same_tup s h) (dpAll_same s a)
theorem dpAll_same {K : PySem.W.Frag} {H H' : Hp} (s : Same H H') : ∀ {vs : List V} {ds : List PyData}, DpAll K H vs ds → DpAll K H' vs ds
  | _, _, .nil => .nil
  | _, _, .cons h a => .cons (dp_same s h) (dpAll_same s a)
end
theorem dpAll_len {K : PySem.W.Frag} {H : Hp} : ∀ {vs : List V} {ds : List PyData}, DpAll K H vs ds → vs.length = ds.length
  | _, _, .nil => rfl
  | _, _, .cons _ a => by rw [List.length_cons, List.length_cons, dpAll_len a]
theorem dpAll_get {K : PySem.W.Frag} {H : Hp} : ∀ {vs : List V} {ds : List PyData} {i : Nat} {d : PyData}, DpAll K H vs ds → ds[i]? = some d → ∃ v, vs[i]? = some v ∧ Dp K H v d
  | _, _, _, _, .nil, e => by simp at e
  | _, _, 0, _, .cons h _, e => by simp at e; subst e; exact ⟨_, rfl, h⟩
  | _, _, i + 1, _, .cons _ a, e => by
    obtain ⟨v, e1, e2⟩ := dpAll_get (i := i) a (by simpa using e)
    exact ⟨v, by simpa using e1, e2⟩
theorem depth_in : ∀ {ds : List PyData} {d : PyData}, d ∈ ds → d.depth ≤ PyData.depthAll ds
  | [], _, h => nomatch h
  | x :: r, d, h => by
    simp only [PyData.depthAll]
    rcases List.mem_cons.mp h with e | e
    · rw [e]; exact Nat.le_max_left _ _
    · exact Nat.le_trans (depth_in e) (Nat.le_max_right _ _)
theorem canAll_of : ∀ {ds : List PyData}, (∀ d ∈ ds, d.canLay0 = true) → PyData.canLayAll0 ds = true
  | [], _ => by simp only [PyData.canLayAll0]
  | d :: r, h => by
    simp only [PyData.canLayAll0]
    rw [h d (List.mem_cons_self ..), canAll_of fun b hb => h b (List.mem_cons_of_mem _ hb)]; rfl
theorem depthAll_of {k : Nat} : ∀ {ds : List PyData}, (∀ d ∈ ds, d.depth ≤ k) → PyData.depthAll ds ≤ k
  | [], _ => by simp only [PyData.depthAll]; omega
  | d :: r, h => by
    simp only [PyData.depthAll]
    exact Nat.max_le.mpr ⟨h d (List.mem_cons_self ..), depthAll_of fun b hb => h b (List.mem_cons_of_mem _ hb)⟩
theorem shaped_list {ds : List PyData} (k : Nat) (hk : k ≤ 63) (h : ∀ d ∈ ds, d.canLay0 = true ∧ d.depth ≤ k) : SeqAt.shaped (.list ds) = true := by
  unfold SeqAt.shaped
  refine Bool.and_eq_true_iff.mpr ⟨?_, decide_eq_true ?_⟩
  · simp only [PyData.canLay0]
    exact canAll_of fun d hd => (h d hd).1
  · have := depthAll_of fun d hd => (h d hd).2
    simp only [PyData.depth]
    omega
theorem shaped_tuple {ds : List PyData} (k : Nat) (hk : k ≤ 63) (h : ∀ d ∈ ds, d.canLay0 = true ∧ d.depth ≤ k) : SeqAt.shaped (.tuple ds) = true := by
  unfold SeqAt.shaped
  refine Bool.and_eq_true_iff.mpr ⟨?_, decide_eq_true ?_⟩
  · simp only [PyData.canLay0]
    exact canAll_of fun d hd => (h d hd).1
  · have := depthAll_of fun d hd => (h d hd).2
    simp only [PyData.depth]
    omega
theorem shaped_ints (ns : List Int) : SeqAt.shaped (.list (ns.map PyData.int)) = true := shaped_list 0 (by decide) fun d hd => by
  obtain ⟨n, _, rfl⟩ := List.mem_map.mp hd
  exact ⟨by simp only [PyData.canLay0], by simp only [PyData.depth]; omega⟩
theorem eqv_nil (ds : List PyData) : PyData.eqv (.list ds) (.list []) = ds.isEmpty := by
  cases ds with
  | nil => simp only [PyData.eqv, PyData.eqvAll]; rfl
  | cons d r => simp only [PyData.eqv, PyData.eqvAll]; rfl
theorem cut_last {xs : List V} : cutV xs none (some (-1)) = xs.dropLast := by
  unfold cutV
  rw [HT.sIx_none]
  have e : HT.sIx xs.length xs.length (some (-1)) = xs.length - 1 := by
    unfold HT.sIx
    simp only
    rw [if_pos (show (-1 : Int) < 0 by decide)]
    omega
  rw [e, List.drop_zero, Nat.sub_zero, List.dropLast_eq_take]
/-! ### texts of signs -/
theorem joinL_nil : ∀ ps : List (List Nat), TL.joinL [] ps = ps.flatten
  | [] => rfl
  | [p] => by simp [TL.joinL]
  | p :: q :: r => by
    show p ++ ([] ++ TL.joinL [] (q :: r)) = _
    rw [joinL_nil (q :: r)]; simp
theorem tl_signs (cs : List Nat) : TL.tl (Txt.join (Str.ofString "") (cs.map fun c => (⟨#[c]⟩ : Str))) = cs := by
  rw [TL.join_eq, TL.tl_join, show TL.tl (Str.ofString "") = [] by decide +kernel, joinL_nil, List.map_map]
  induction cs with
  | nil => rfl
  | cons c r ih =>
    show [c] ++ _ = _
    rw [ih]; rfl
/-! ### a block cut in two: R is what is known between -/
def tCutE (t u : TS) : TS := fun D σ H => ∃ R : L2.St → Hp → Prop, t { D with nx := R } σ H ∧ ∀ σ' H', R σ' H' → u D σ' H'
theorem pss_cutE {X : Cx} {st : Stmt} {rest : List Stmt} {t u : TS} (h1 : PS X st t) (h2 : PSs X rest u) : PSs X (st :: rest) (tCutE t u) := by
  refine ⟨fun pins s σ H D I ⟨R, h, hr⟩ => ?_⟩
  refine wpAny_execs_cons (thn (h1.run pins s σ H { D with nx := R } I h) fun f s1 q => ?_)
  cases f with
  | next =>
    obtain ⟨σ', H', I', q⟩ := q
    exact h2.run pins s1 σ' H' D I' (hr σ' H' q)
  | ret v => exact q
  | brk => exact q
  | cont => exact q
theorem newF {H H3 : Hp} {p : Addr} {o : HO} (hH : upd H p o = H3) (hp : H p = none) : Same H H3 ∧ H3 p = some o := by
  subst hH
  exact ⟨same_put (Same.refl _) hp, upd_same⟩
/-! ### a heap without one object -/
def offA (p : Addr) (H : Hp) : Hp := fun b => if b = p then none else H b
theorem offA_ne {p b : Addr} {H : Hp} (h : b ≠ p) : offA p H b = H b := if_neg h
theorem offA_upd {p : Addr} {H : Hp} {o : HO} : offA p (upd H p o) = offA p H := by
  funext b; unfold offA upd
  split <;> rfl
theorem offA_same {p : Addr} {H : Hp} : Same (offA p H) H := fun b o h => by
  unfold offA at h
  split at h
  · cases h
  · exact h
theorem offA_mono {p : Addr} {H H' : Hp} (s : Same H H') : Same (offA p H) (offA p H') := fun b o h => by
  unfold offA at h ⊢
  split at h
  · cases h
  · rename_i n; rw [if_neg n]; exact s b o h
theorem dpAll_snoc {K : PySem.W.Frag} {H : Hp} {v : V} {d : PyData} (h1 : Dp K H v d) : ∀ {vs : List V} {ds : List PyData}, DpAll K H vs ds → DpAll K H (vs ++ [v]) (ds ++ [d])
  | _, _, .nil => .cons h1 .nil
  | _, _, .cons a b => .cons a (dpAll_snoc h1 b)
theorem ext_off {S : Addr → Prop} {p : Addr} {H H' : Hp} (s : Ext S H H') : Ext S (offA p H) (offA p H') := fun b o n h => by
  unfold offA at h ⊢
  split at h
  · cases h
  · rename_i z; rw [if_neg z]; exact s b o n h
/-- a comprehension: what is known of the heap without the new list goes with what is gathered -/
theorem lc_accH {J : It} {n : Nat} {G : Hp → Prop} {Y : Nat → Hp → V → Hp → Prop} (w : Walk J n G Y) {g : TG} {tt : TT} {te : TE} {vs : List Nat} {σ : L2.St} {H1 : Hp} {Q : VK} (S : Addr → Prop) (Jv : Nat → List V → Hp → Prop)
    (hn : n < sizeLine) (nD : ∀ D, H1 D = none → ¬ S D) (h0 : Jv 0 [] H1) (hG : ∀ H D i acc, H1 D = none → Ext S H1 H → Jv i acc (offA D H) → G H)
    (hs : ∀ D i x H H' acc (R : Option V → Hp → Prop), H1 D = none → H D = some (.lst acc) → i < n → Ext S H1 H → Jv i acc (offA D H) → Y i H x H' →
      (∀ H2, Ext S H H2 → Jv (i + 1) acc (offA D H2) → R none H2) → (∀ y H2, Ext S H H2 → Jv (i + 1) (acc ++ [y]) (offA D H2) → R (some y) H2) →
      g x (wipe σ vs) H' fun σ2 H2 => wipe σ2 vs = wipe σ vs ∧ tt σ2 H2 fun b H3 => if b = true then te σ2 H3 (fun y H4 => R (some y) H4) else R none H3)
    (hd : ∀ D acc H, H1 D = none → acc.length ≤ n → Ext S H1 H → Jv n acc (offA D H) → H D = some (.lst acc) → Q (.ref D) H) : LcG J g tt te vs σ H1 Q := by
  intro D fD
  have nD := nD D fD
  have e0 : offA D (upd H1 D (.lst [])) = H1 := by
    rw [offA_upd]; funext b; unfold offA
    split
    · rename_i e; rw [e, fD]
    · rfl
  refine lc_it w (fun i H => ∃ acc, Jv i acc (offA D H) ∧ acc.length ≤ i ∧ Ext S H1 H ∧ H D = some (.lst acc)) ⟨[], by rw [e0]; exact h0, Nat.le_refl _, (Ext.refl S H1).put (.inl fD), upd_same⟩ (fun i H _ ⟨acc, j, _, e, _⟩ => hG H D i acc fD e j) (fun i x H H' hi hP hy => ?_)
    (fun H ⟨acc, p, l, e, hD⟩ => hd D acc H fD l e p hD)
  obtain ⟨acc, p, l, e, hD⟩ := hP
  refine hs D i x H H' acc (fun o H4 => match o with
    | some y => ∃ acc, H4 D = some (.lst acc) ∧ acc.length < sizeLine ∧ ∃ acc', Jv (i + 1) acc' (offA D (upd H4 D (.lst (acc ++ [y])))) ∧ acc'.length ≤ i + 1 ∧ Ext S H1 (upd H4 D (.lst (acc ++ [y]))) ∧ (upd H4 D (.lst (acc ++ [y]))) D = some (.lst acc')
    | none => ∃ acc', Jv (i + 1) acc' (offA D H4) ∧ acc'.length ≤ i + 1 ∧ Ext S H1 H4 ∧ H4 D = some (.lst acc')) fD hD hi e p hy (fun H2 e2 p2 => ?_) (fun y H2 e2 p2 => ?_)
  · exact ⟨acc, p2, Nat.le_succ_of_le l, e.trans e2, e2 D _ nD hD⟩
  · exact ⟨acc, e2 D _ nD hD, Nat.lt_of_le_of_lt (Nat.le_trans l (Nat.le_of_lt hi)) hn, acc ++ [y], by rw [offA_upd]; exact p2, by rw [List.length_append]; exact Nat.succ_le_succ l, (e.trans e2).put (.inl fD), upd_same⟩
/-! ### tuples at addresses -/
def TupsAt (H : Hp) : List Addr → List (List V) → Prop
  | [], [] => True
  | t :: ts, x :: xs => H t = some (.tup x) ∧ TupsAt H ts xs
  | _, _ => False
theorem TupsAt.mono {H H' : Hp} (e : ∀ t x, H t = some (.tup x) → H' t = some (.tup x)) : ∀ {ts : List Addr} {xs : List (List V)}, TupsAt H ts xs → TupsAt H' ts xs
  | [], [], _ => trivial
  | _ :: _, _ :: _, h => ⟨e _ _ h.1, TupsAt.mono e h.2⟩
  | [], _ :: _, h => h.elim
  | _ :: _, [], h => h.elim
theorem TupsAt.snoc {H : Hp} {t : Addr} {x : List V} (h1 : H t = some (.tup x)) : ∀ {ts : List Addr} {xs : List (List V)}, TupsAt H ts xs → TupsAt H (ts ++ [t]) (xs ++ [x])
  | [], [], _ => ⟨h1, trivial⟩
  | _ :: _, _ :: _, h => ⟨h.1, TupsAt.snoc h1 h.2⟩
  | [], _ :: _, h => h.elim
  | _ :: _, [], h => h.elim
theorem TupsAt.len {H : Hp} : ∀ {ts : List Addr} {xs : List (List V)}, TupsAt H ts xs → ts.length = xs.length
  | [], [], _ => rfl
  | _ :: _, _ :: _, h => by rw [List.length_cons, List.length_cons, TupsAt.len h.2]
  | [], _ :: _, h => h.elim
  | _ :: _, [], h => h.elim
theorem TupsAt.get {H : Hp} : ∀ {ts : List Addr} {xs : List (List V)} {i : Nat} {t : Addr}, TupsAt H ts xs → ts[i]? = some t → ∃ x, xs[i]? = some x ∧ H t = some (.tup x)
  | [], [], _, _, _, e => by simp at e
  | _ :: _, x :: _, 0, _, h, e => by simp at e; subst e; exact ⟨x, rfl, h.1⟩
  | _ :: _, _ :: _, i + 1, _, h, e => by
    obtain ⟨x, e1, e2⟩ := TupsAt.get (i := i) h.2 (by simpa using e)
    exact ⟨x, by simpa using e1, e2⟩
  | [], _ :: _, _, _, h, _ => h.elim
  | _ :: _, [], _, _, h, _ => h.elim
theorem TupsAt.dp {K : PySem.W.Frag} {H : Hp} {α : Type} {f : α → List V} {d : α → PyData} (hf : ∀ t a, H t = some (.tup (f a)) → Dp K H (.ref t) (d a)) : ∀ {ts : List Addr} {as : List α}, TupsAt H ts (as.map f) → DpAll K H (ts.map V.ref) (as.map d)
  | [], [], _ => .nil
  | _ :: _, _ :: _, h => .cons (hf _ _ h.1) (TupsAt.dp hf h.2)
  | [], _ :: _, h => h.elim
  | _ :: _, [], h => h.elim
theorem walk_tups {K : PySem.W.Frag} {D : Addr} {α : Type} {us : List Addr} {as : List α} (hl : us.length = as.length) : Walk (Itl K D) (us.zip as).length (fun H => SqL K H D (us.map V.ref)) (fun j H x H' => H' = H ∧ ∃ y, (us.zip as)[j]? = some y ∧ x = .ref y.1) := by
  have w := walk_listm (K := K) (a := D) us V.ref
  have el : (us.zip as).length = us.length := by rw [List.length_zip]; omega
  rw [el]
  refine w.mono (fun H h => h) (fun i H x H' hi _ y => ⟨y.1, ?_⟩)
  obtain ⟨t, e1, e2⟩ := y.2
  have hi2 : i < as.length := by omega
  refine ⟨(t, as[i]), List.getElem?_zip_eq_some.mpr ⟨e1, List.getElem?_eq_getElem hi2⟩, e2⟩
theorem TupsAt.zat {H : Hp} {α : Type} {f : α → List V} {us : List Addr} {as : List α} {j : Nat} {y : Addr × α} (h : TupsAt H us (as.map f)) (hy : (us.zip as)[j]? = some y) : H y.1 = some (.tup (f y.2)) ∧ y.2 ∈ as := by
  obtain ⟨h1, h2⟩ := List.getElem?_zip_eq_some.mp hy
  obtain ⟨x, e1, e2⟩ := h.get h1
  rw [List.getElem?_map, h2] at e1
  cases e1
  exact ⟨e2, List.mem_of_getElem? h2⟩
theorem zip_snd_map {α β : Type} {us : List Addr} {as : List α} (hl : us.length = as.length) (f : α → β) : (us.zip as).map (fun q => f q.2) = as.map f := by
  have : as = (us.zip as).map Prod.snd := by rw [List.map_snd_zip (by omega)]
  conv => rhs; rw [this, List.map_map]
  rfl
end Hk

set_option Elab.async false
set_option linter.all false
set_option maxRecDepth 100000
set_option maxHeartbeats 4000000
/-! Lines and patterns, in plain Lean. -/
namespace Hk
open PySem PySem.Spec PyProof.Rows L2 TL
abbrev letters : Str := "abcdefghijklmnopqrstuvwxyz"
def isWord (z : Str) : Bool := decide (1 ≤ z.length) && (decide (z.length ≤ 4) && (tl z).all fun c => decide (c ∈ tl letters))
def isLine (z : Str) : Bool := decide ((wds z).length ≤ 6) && (wds z).all isWord
/-- without the last one, if that is # -/
def cut (ws : List Str) : List Str := if ws.getLast? = some ("#" : Str) then ws.dropLast else ws
def starOr (z : Str) : Bool := decide (z = ("*" : Str)) || isWord z
def isPat (z : Str) : Bool := decide ((cut (wds z)).length ≤ 6) && (cut (wds z)).all starOr
/-- a pattern's words for lines of n -/
def ofLen (p : Str) (n : Int) : Option (List Str) :=
  let ws := wds p
  let us := if ws.getLast? = some ("#" : Str) then ws.dropLast ++ List.replicate (n - ws.dropLast.length).toNat ("*" : Str) else ws
  if (us.length : Int) = n then some us else none
def fit1 (q : Str × Str) : Bool := decide (q.1 = ("*" : Str)) || decide (q.1 = q.2)
def doesFit (p l : Str) : Bool := match ofLen p (wds l).length with
  | none => false
  | some ws => (ws.zip (wds l)).all fit1
theorem wds_ne (z : Str) : wds z ≠ [] := by
  intro h
  have e := split_spl z "." (by decide +kernel) (kind_ok (by decide +kernel))
  have h2 : (Txt.split z (".": Str)).map tl = [] := by
    show (wds z).map tl = []
    rw [h]; rfl
  rw [h2] at e
  have : ∀ (acc l : List Nat), spl (tl (".": Str)) 0 acc l ≠ [] := by
    intro acc l
    induction l generalizing acc with
    | nil => rw [spl_nil]; simp
    | cons c r ih =>
      cases q : pre (tl (".": Str)) (c :: r) with
      | true => rw [spl_hit q]; simp
      | false => rw [spl_miss q]; exact ih _
  exact this _ _ e.symm
theorem split_len_le (z y : Str) (hy : tl y ≠ []) (hk : ¬ Builtin.Str.strKind z < Builtin.Str.strKind y) : (Txt.split z y).length ≤ z.length + 1 := by
  have e := congrArg List.length (split_spl z y hy hk)
  rw [List.length_map] at e
  rw [e]
  have main : ∀ (k : Nat) (l acc : List Nat), l.length ≤ k → (spl (tl y) 0 acc l).length ≤ l.length + 1 := by
    intro k
    induction k with
    | zero =>
      intro l acc h
      have : l = [] := List.eq_nil_of_length_eq_zero (by omega)
      subst this
      rw [spl_nil]; simp
    | succ k ih =>
      intro l acc h
      cases l with
      | nil => rw [spl_nil]; simp
      | cons c r =>
        cases q : pre (tl y) (c :: r) with
        | true =>
          rw [spl_hit q, spl_pass]
          have := ih (r.drop ((tl y).length - 1)) [] (by simp at h; rw [List.length_drop]; omega)
          rw [List.length_drop] at this
          simp only [List.length_cons]
          omega
        | false =>
          rw [spl_miss q]
          have := ih r (acc ++ [c]) (by simpa using h)
          simp only [List.length_cons]
          omega
  have := main _ (tl z) [] (Nat.le_refl _)
  rw [len_tl]; exact this
theorem wds_len (z : Str) : (wds z).length ≤ z.length + 1 := split_len_le z "." (by decide +kernel) (kind_ok (by decide +kernel))
theorem wds_join {ws : List Str} (hne : ws ≠ []) (h : ∀ p ∈ ws, 46 ∉ tl p) : wds (Txt.join "." ws) = ws :=
  split_join (y := ".") (s := 46) (S := []) (by decide +kernel) (by decide +kernel) hne h
/-- every word that a text is cut into is as long as the text at most -/
theorem split_each_le (z y : Str) (hy : tl y ≠ []) (hk : ¬ Builtin.Str.strKind z < Builtin.Str.strKind y) : ∀ w ∈ Txt.split z y, w.length ≤ z.length := by
  intro w hw
  have e := split_spl z y hy hk
  have hm : tl w ∈ spl (tl y) 0 [] (tl z) := by
    rw [← e]; exact List.mem_map.mpr ⟨w, hw, rfl⟩
  have main : ∀ (k : Nat) (l acc : List Nat), l.length ≤ k → ∀ x ∈ spl (tl y) 0 acc l, x.length ≤ acc.length + l.length := by
    intro k
    induction k with
    | zero =>
      intro l acc h x hx
      have : l = [] := List.eq_nil_of_length_eq_zero (by omega)
      subst this
      rw [spl_nil] at hx
      simp at hx; subst hx; simp
    | succ k ih =>
      intro l acc h x hx
      cases l with
      | nil => rw [spl_nil] at hx; simp at hx; subst hx; simp
      | cons c r =>
        cases q : pre (tl y) (c :: r) with
        | true =>
          rw [spl_hit q, spl_pass] at hx
          rcases List.mem_cons.mp hx with rfl | hx
          · simp
          · have := ih (r.drop ((tl y).length - 1)) [] (by simp at h; rw [List.length_drop]; omega) x hx
            rw [List.length_drop] at this
            simp only [List.length_cons, List.length_nil] at this ⊢
            omega
        | false =>
          rw [spl_miss q] at hx
          have := ih r (acc ++ [c]) (by simpa using h) x hx
          simp only [List.length_cons, List.length_append, List.length_nil] at this ⊢
          omega
  have := main _ (tl z) [] (Nat.le_refl _) _ hm
  rw [len_tl w, len_tl z]
  simpa using this
theorem wds_each (z : Str) : ∀ w ∈ wds z, w.length ≤ z.length := split_each_le z "." (by decide +kernel) (kind_ok (by decide +kernel))
/-- .. and of its signs -/
theorem split_mem (z y : Str) (hy : tl y ≠ []) (hk : ¬ Builtin.Str.strKind z < Builtin.Str.strKind y) : ∀ w ∈ Txt.split z y, ∀ c ∈ tl w, c ∈ tl z := by
  intro w hw
  have e := split_spl z y hy hk
  have hm : tl w ∈ spl (tl y) 0 [] (tl z) := by
    rw [← e]; exact List.mem_map.mpr ⟨w, hw, rfl⟩
  have main : ∀ (k : Nat) (l acc : List Nat), l.length ≤ k → ∀ x ∈ spl (tl y) 0 acc l, ∀ c ∈ x, c ∈ acc ∨ c ∈ l := by
    intro k
    induction k with
    | zero =>
      intro l acc h x hx
      have : l = [] := List.eq_nil_of_length_eq_zero (by omega)
      subst this
      rw [spl_nil] at hx
      simp at hx; subst hx; exact fun c hc => .inl hc
    | succ k ih =>
      intro l acc h x hx
      cases l with
      | nil => rw [spl_nil] at hx; simp at hx; subst hx; exact fun c hc => .inl hc
      | cons c r =>
        cases q : pre (tl y) (c :: r) with
        | true =>
          rw [spl_hit q, spl_pass] at hx
          rcases List.mem_cons.mp hx with rfl | hx
          · exact fun c hc => .inl hc
          · have := ih (r.drop ((tl y).length - 1)) [] (by simp at h; rw [List.length_drop]; omega) x hx
            intro d hd
            rcases this d hd with z | z
            · cases z
            · exact .inr (List.mem_cons_of_mem _ (List.mem_of_mem_drop z))
        | false =>
          rw [spl_miss q] at hx
          have := ih r (acc ++ [c]) (by simpa using h) x hx
          intro d hd
          rcases this d hd with z | z
          · rcases List.mem_append.mp z with z | z
            · exact .inl z
            · rw [List.mem_singleton.mp z]; exact .inr (List.mem_cons_self ..)
          · exact .inr (List.mem_cons_of_mem _ z)
  intro c hc
  rcases main _ (tl z) [] (Nat.le_refl _) _ hm c hc with z | z
  · cases z
  · exact z
theorem strOk_iff {z : Str} : PyData.strOk z = true ↔ ∀ c ∈ tl z, c < 1114112 := by
  unfold PyData.strOk
  rw [Array.all_eq_true_iff_forall_mem]
  constructor
  · intro h c hc
    have := h c (Array.mem_toList_iff.mp hc)
    simpa using this
  · intro h c hc
    have := h c (Array.mem_toList_iff.mpr hc)
    simpa using this
theorem split_ok {z y : Str} (hy : tl y ≠ []) (hk : ¬ Builtin.Str.strKind z < Builtin.Str.strKind y) (h : PyData.strOk z = true) : ∀ w ∈ Txt.split z y, PyData.strOk w = true := fun w hw =>
  strOk_iff.mpr fun c hc => strOk_iff.mp h c (split_mem z y hy hk w hw c hc)
theorem shaped_strs {us : List Str} (h : ∀ z ∈ us, PyData.strOk z = true) : SeqAt.shaped (.list (us.map PyData.str)) = true := by
  unfold SeqAt.shaped
  refine Bool.and_eq_true_iff.mpr ⟨?_, decide_eq_true ?_⟩
  · simp only [PyData.canLay0]
    rw [canLayAll_strs', List.all_eq_true]; exact h
  · have : ∀ us : List Str, PyData.depthAll (us.map PyData.str) ≤ 0 := fun us => by
      induction us with
      | nil => simp only [List.map_nil, PyData.depthAll]; omega
      | cons a r ih =>
        simp only [List.map_cons, PyData.depthAll, PyData.depth]
        exact Nat.max_le.mpr ⟨Nat.le_refl _, ih⟩
    have := this us
    simp only [PyData.depth]
    omega
theorem sum_le {ws : List Str} {k : Nat} (h : ∀ w ∈ ws, w.length ≤ k) : (ws.map (·.length)).sum ≤ ws.length * k := by
  induction ws with
  | nil => simp
  | cons a r ih =>
    have h1 := h a (List.mem_cons_self ..)
    have h2 := ih fun w hw => h w (List.mem_cons_of_mem _ hw)
    simp only [List.map_cons, List.sum_cons, List.length_cons]
    rw [Nat.add_mul]; omega
theorem sum_one (cs : List Nat) : ((cs.map fun c => (⟨#[c]⟩ : Str)).map (·.length)).sum = cs.length := by
  induction cs with
  | nil => rfl
  | cons a r ih =>
    simp only [List.map_cons, List.sum_cons, List.length_cons]
    rw [ih]
    show 1 + r.length = _
    omega
theorem joinL_len (S : List Nat) : ∀ ps : List (List Nat), (joinL S ps).length ≤ (ps.map List.length).sum + ps.length * S.length
  | [] => by simp [joinL]
  | [p] => by simp [joinL]
  | p :: q :: r => by
    have := joinL_len S (q :: r)
    show (p ++ (S ++ joinL S (q :: r))).length ≤ _
    simp only [List.length_append, List.map_cons, List.sum_cons, List.length_cons] at this ⊢
    rw [Nat.add_mul _ 1, Nat.one_mul]
    omega
theorem join_len (s : Str) (ws : List Str) : (Txt.join s ws).length ≤ (ws.map (·.length)).sum + ws.length * s.length := by
  have := joinL_len (tl s) (ws.map tl)
  rw [len_tl (Txt.join s ws), join_eq, tl_join, len_tl s]
  rw [List.map_map, List.length_map] at this
  have e : (ws.map (List.length ∘ tl)) = ws.map (·.length) := List.map_congr_left fun w _ => (len_tl w).symm
  rw [e] at this
  exact this
theorem joinD_len {ws : List Str} {k : Nat} (h : ∀ w ∈ ws, w.length ≤ k) : (Txt.join "." ws).length ≤ ws.length * (k + 1) := by
  have h1 := join_len "." ws
  have h2 := sum_le h
  have e : ("." : Str).length = 1 := by decide +kernel
  rw [e] at h1
  rw [Nat.mul_add]
  omega
theorem letters_in : ∀ c ∈ tl letters, 97 ≤ c ∧ c ≤ 122 := by decide +kernel
theorem word_signs {z : Str} (h : isWord z = true) : 1 ≤ z.length ∧ z.length ≤ 4 ∧ ∀ c ∈ tl z, 97 ≤ c ∧ c ≤ 122 := by
  unfold isWord at h
  simp only [Bool.and_eq_true, decide_eq_true_eq, List.all_eq_true] at h
  exact ⟨h.1, h.2.1, fun c hc => letters_in c (h.2.2 c hc)⟩
theorem star_signs {z : Str} (h : starOr z = true) : z.length ≤ 4 ∧ (∀ c ∈ tl z, c = 42 ∨ (97 ≤ c ∧ c ≤ 122)) ∧ z ≠ ("#" : Str) := by
  unfold starOr at h
  rcases Bool.or_eq_true_iff.mp h with h | h
  · have e := of_decide_eq_true h
    subst e
    refine ⟨by decide +kernel, ?_, by decide +kernel⟩
    have : tl ("*" : Str) = [42] := by decide +kernel
    rw [this]
    intro c hc; left; simpa using hc
  · obtain ⟨h1, h2, h3⟩ := word_signs h
    refine ⟨h2, fun c hc => .inr (h3 c hc), fun e => ?_⟩
    subst e
    have := h3 35 (by decide +kernel)
    omega
theorem word_star {z : Str} (h : isWord z = true) : starOr z = true := by unfold starOr; rw [h]; simp
theorem star_nodot {z : Str} (h : starOr z = true) : 46 ∉ tl z := fun hc => by
  rcases (star_signs h).2.1 46 hc with e | e
  · cases e
  · omega
/-- a pattern of such words; with # behind -/
theorem isPat_join {us : List Str} (hne : us ≠ []) (hl : us.length ≤ 6) (h : ∀ u ∈ us, starOr u = true) : isPat (Txt.join "." us) = true := by
  have e : wds (Txt.join "." us) = us := wds_join hne fun p hp => star_nodot (h p hp)
  unfold isPat
  rw [e]
  have ec : cut us = us := by
    unfold cut
    refine if_neg fun z => ?_
    have := List.mem_of_getLast? z
    exact (star_signs (h _ this)).2.2 rfl
  rw [ec, decide_eq_true hl, List.all_eq_true.mpr h]; rfl
theorem isPat_hash {us : List Str} (hl : us.length ≤ 6) (h : ∀ u ∈ us, starOr u = true) : isPat (Txt.join "." (us ++ [("#" : Str)])) = true := by
  have e : wds (Txt.join "." (us ++ [("#" : Str)])) = us ++ [("#" : Str)] := wds_join (by simp) fun p hp => by
    rcases List.mem_append.mp hp with hp | hp
    · exact star_nodot (h p hp)
    · rw [List.mem_singleton.mp hp]; decide +kernel
  unfold isPat
  rw [e]
  have ec : cut (us ++ [("#" : Str)]) = us := by
    unfold cut
    rw [if_pos (by simp)]
    simp
  rw [ec, decide_eq_true hl, List.all_eq_true.mpr h]; rfl
theorem isLine_join {us : List Str} (hne : us ≠ []) (hl : us.length ≤ 6) (h : ∀ u ∈ us, isWord u = true) : isLine (Txt.join "." us) = true := by
  have e : wds (Txt.join "." us) = us := wds_join hne fun p hp => star_nodot (word_star (h p hp))
  unfold isLine
  rw [e, decide_eq_true hl, List.all_eq_true.mpr h]; rfl
/-- words of few letters, one to four of them each -/
def fewWord (z : Str) : Prop := 1 ≤ z.length ∧ z.length ≤ 4 ∧ ∀ c ∈ tl z, c = 97 ∨ c = 98 ∨ c = 122
theorem few_word {z : Str} (h : fewWord z) : isWord z = true := by
  unfold isWord
  rw [decide_eq_true h.1, decide_eq_true h.2.1, Bool.true_and, Bool.true_and, List.all_eq_true]
  intro c hc
  refine decide_eq_true ?_
  rcases h.2.2 c hc with e | e | e
  · rw [e]; decide +kernel
  · rw [e]; decide +kernel
  · rw [e]; decide +kernel
end Hk

set_option Elab.async false
set_option linter.all false
set_option maxRecDepth 100000
set_option maxHeartbeats 4000000
/-! Patterns beside patterns, in plain Lean. -/
namespace Hk
open PySem PySem.Spec PyProof.Rows L2 TL
def nar1 (p q : Str) (k : Nat) : Bool := match ofLen p ((k : Int) + 1) with
  | none => true
  | some ms => match ofLen q ((k : Int) + 1) with
    | none => false
    | some ts => (ms.zip ts).all fun x => decide (x.2 = ("*" : Str)) || decide (x.2 = x.1)
def narrowerM (p q : Str) : Bool := (List.range 6).all (nar1 p q)
def met1 (x : Str × Str) : Str := if x.1 = ("*" : Str) ∧ x.2 = ("*" : Str) then ("a" : Str) else if x.1 = ("*" : Str) then x.2 else x.1
def can1 (x : Str × Str) : Bool := decide (x.1 = ("*" : Str)) || (decide (x.2 = ("*" : Str)) || decide (x.1 = x.2))
def mee1 (p q : Str) (k : Nat) : Option Str := match ofLen p ((k : Int) + 1) with
  | none => none
  | some ms => match ofLen q ((k : Int) + 1) with
    | none => none
    | some ts => if (ms.zip ts).all can1 = true then some (Txt.join "." ((ms.zip ts).map met1)) else none
def meetsM (p q : Str) : Option Str := (List.range 6).findSome? (mee1 p q)
theorem range_all {f : Nat → Bool} {i n : Nat} (h : (List.range i).all f = true) (hf : f i = true) : (List.range (i + 1)).all f = true := by
  rw [List.range_succ, List.all_append, h]; simp [hf]
theorem range_not {f : Nat → Bool} {i n : Nat} (hi : i < n) (hf : f i = false) : (List.range n).all f = false := by
  rw [Bool.eq_false_iff]
  intro h
  have := List.all_eq_true.mp h i (List.mem_range.mpr hi)
  rw [hf] at this; cases this
theorem range_none {α : Type} {f : Nat → Option α} {i : Nat} (h : (List.range i).findSome? f = none) (hf : f i = none) : (List.range (i + 1)).findSome? f = none := by
  rw [List.range_succ, List.findSome?_append, h]; simp [hf]
theorem range_some {α : Type} {f : Nat → Option α} {i n : Nat} {a : α} (hi : i < n) (h : (List.range i).findSome? f = none) (hf : f i = some a) : (List.range n).findSome? f = some a := by
  have e : List.range n = List.range i ++ (i :: (List.range (n - i - 1)).map (fun k => i + 1 + k)) := by
    apply List.ext_getElem
    · simp; omega
    · intro j h1 h2
      simp only [List.getElem_range]
      rw [List.getElem_append]
      split
      · simp
      · rename_i hj
        simp at hj h1
        rw [List.getElem_cons]
        split
        · rename_i e; simp at e; omega
        · rename_i e; simp at e ⊢; omega
  rw [e, List.findSome?_append, h]
  simp [hf]
def meetV (o : Option Str) : V := match o with | none => .non | some z => .str z
end Hk

set_option Elab.async false
set_option linter.all false
set_option maxRecDepth 100000
set_option maxHeartbeats 4000000
/-! The first line of two patterns, in plain Lean. -/
namespace Hk
open PySem PySem.Spec PyProof.Rows L2 TL
theorem joinL_snoc (S : List Nat) : ∀ (ps : List (List Nat)) (w : List Nat), ps ≠ [] → joinL S (ps ++ [w]) = joinL S ps ++ (S ++ w)
  | [], _, h => absurd rfl h
  | [p], w, _ => rfl
  | p :: q :: r, w, _ => by
    have ih := joinL_snoc S (q :: r) w (by simp)
    show p ++ (S ++ joinL S ((q :: r) ++ [w])) = (p ++ (S ++ joinL S (q :: r))) ++ (S ++ w)
    rw [ih]; simp only [List.append_assoc]
theorem join_snoc {l : List Str} (h : l ≠ []) (w : Str) : Txt.join "." (l ++ [w]) = Txt.join "." l ++ ("." : Str) ++ w := by
  apply ext_tl
  rw [tl_append, tl_append, join_eq, join_eq, tl_join, tl_join, List.map_append, List.map_cons, List.map_nil, joinL_snoc _ _ _ (by simpa using h), List.append_assoc]
theorem join_one (w : Str) : Txt.join "." [w] = w := by
  apply ext_tl
  rw [join_eq, tl_join]; rfl
theorem nodup_len {α : Type} [DecidableEq α] : ∀ (l D : List α), l.Nodup → (∀ x ∈ l, x ∈ D) → l.length ≤ D.length
  | [], _, _, _ => Nat.zero_le _
  | x :: l, D, h, hs => by
    obtain ⟨h1, h2⟩ := List.nodup_cons.mp h
    have hx := hs x (List.mem_cons_self ..)
    have := nodup_len l (D.erase x) h2 fun y hy => by
      have hne : y ≠ x := fun e => h1 (e ▸ hy)
      exact (List.mem_erase_of_ne hne).mpr (hs y (List.mem_cons_of_mem _ hy))
    rw [List.length_erase_of_mem hx] at this
    have := List.length_pos_of_mem hx
    simp only [List.length_cons]; omega
theorem nodup_map {α β : Type} {f : α → β} (hf : ∀ a b, f a = f b → a = b) {l : List α} (h : l.Nodup) : (l.map f).Nodup :=
  List.Pairwise.map f (fun a b hab e => hab (hf a b e)) h
theorem filterMap_one {α β : Type} {F : α → Option β} {m : α} {b : β} : ∀ {L : List α}, L.Nodup → m ∈ L → F m = some b → (∀ l ∈ L, l ≠ m → F l = none) → L.filterMap F = [b]
  | [], _, h, _, _ => nomatch h
  | a :: L, hn, hm, hF, ho => by
    obtain ⟨h1, h2⟩ := List.nodup_cons.mp hn
    by_cases e : a = m
    · subst e
      have : L.filterMap F = [] := List.filterMap_eq_nil_iff.mpr fun l hl => ho l (List.mem_cons_of_mem _ hl) fun z => h1 (z ▸ hl)
      rw [List.filterMap_cons, hF, this]
    · rw [List.filterMap_cons, ho a (List.mem_cons_self ..) e]
      refine filterMap_one h2 ?_ hF fun l hl => ho l (List.mem_cons_of_mem _ hl)
      rcases List.mem_cons.mp hm with z | z
      · exact absurd z.symm e
      · exact z
/-! ### the candidates -/
def Cand (x : Str × Str) (w : Str) : Prop := w = ("a" : Str) ∨ ((w = x.1 ∨ w = x.2) ∧ w ≠ ("*" : Str))
structure FInv (zs : List (Str × Str)) (i : Nat) (L : List (List Str)) : Prop where
  nd : L.Nodup
  len : L.length ≤ 3 ^ i
  has : (zs.take i).map met1 ∈ L
  each : ∀ l ∈ L, l.length = i ∧ ∀ (k : Nat) (w : Str) (x : Str × Str), l[k]? = some w → zs[k]? = some x → Cand x w
theorem FInv.zero (zs : List (Str × Str)) : FInv zs 0 [[]] := ⟨by simp, by simp, by simp, fun l hl => by
  rw [List.mem_singleton.mp hl]; exact ⟨rfl, fun k w x h => by simp at h⟩⟩
theorem met_cand (x : Str × Str) : Cand x (met1 x) := by
  unfold met1 Cand
  by_cases e1 : x.1 = ("*" : Str) <;> by_cases e2 : x.2 = ("*" : Str) <;> simp [e1, e2]
theorem len_flat {α β : Type} {f : α → List β} {k : Nat} : ∀ {L : List α}, (∀ l ∈ L, (f l).length ≤ k) → (L.flatMap f).length ≤ L.length * k
  | [], _ => by simp
  | a :: L, h => by
    have h1 := h a (List.mem_cons_self ..)
    have h2 := len_flat (L := L) fun l hl => h l (List.mem_cons_of_mem _ hl)
    rw [List.flatMap_cons, List.length_append, List.length_cons, Nat.succ_mul]; omega
theorem snoc_inj {α : Type} {a b : List α} {x y : α} (h : a ++ [x] = b ++ [y]) : a = b ∧ x = y := by
  have h1 := List.append_inj' h rfl
  exact ⟨h1.1, by simpa using h1.2⟩
theorem FInv.step {zs : List (Str × Str)} {i : Nat} {L : List (List Str)} {x : Str × Str} {S : List Str} (F : FInv zs i L) (hx : zs[i]? = some x) (hS : S.Nodup) (hm : ∀ w, w ∈ S ↔ Cand x w) : FInv zs (i + 1) (L.flatMap fun l => S.map fun w => l ++ [w]) := by
  have h3 : S.length ≤ 3 := nodup_len S [("a" : Str), x.1, x.2] hS fun w hw => by
    rcases (hm w).mp hw with e | ⟨e | e, _⟩ <;> simp [e]
  refine ⟨?_, ?_, ?_, fun l hl => ?_⟩
  · refine List.pairwise_flatMap.mpr ⟨fun l _ => nodup_map (fun a b e => (snoc_inj e).2) hS, F.nd.imp fun {a b} hab => ?_⟩
    intro u hu v hv e
    obtain ⟨w1, _, rfl⟩ := List.mem_map.mp hu
    obtain ⟨w2, _, rfl⟩ := List.mem_map.mp hv
    exact hab (snoc_inj e).1
  · have := len_flat (L := L) (f := fun l => S.map fun w => l ++ [w]) (k := 3) fun l _ => by rw [List.length_map]; exact h3
    have hl := F.len
    rw [Nat.pow_succ]
    exact Nat.le_trans this (Nat.mul_le_mul_right 3 hl)
  · rw [List.mem_flatMap]
    refine ⟨_, F.has, List.mem_map.mpr ⟨met1 x, (hm _).mpr (met_cand x), ?_⟩⟩
    rw [List.take_add_one, hx]; simp
  · obtain ⟨l0, h0, hw⟩ := List.mem_flatMap.mp hl
    obtain ⟨w, hwS, rfl⟩ := List.mem_map.mp hw
    obtain ⟨e1, e2⟩ := F.each l0 h0
    refine ⟨by simp [e1], fun k w' x' hk hz => ?_⟩
    by_cases hki : k < i
    · rw [List.getElem?_append_left (by omega)] at hk
      exact e2 k w' x' hk hz
    · have : k = i := by
        have := (List.getElem?_eq_some_iff.mp hk).1
        simp at this; omega
      subst this
      rw [List.getElem?_append_right (by omega), e1] at hk
      simp at hk
      rw [hx] at hz; cases hz
      exact (hm _).mp (hk ▸ hwS)
/-! ### a pattern's words -/
theorem ofLen_us {p : Str} {n : Int} {ws : List Str} (h : ofLen p n = some ws) : (ws.length : Int) = n ∧ ws = if (wds p).getLast? = some ("#" : Str) then (wds p).dropLast ++ List.replicate (n - (wds p).dropLast.length).toNat ("*" : Str) else wds p := by
  have h : (fun us : List Str => if (us.length : Int) = n then some us else none) (if (wds p).getLast? = some ("#" : Str) then (wds p).dropLast ++ List.replicate (n - (wds p).dropLast.length).toNat ("*" : Str) else wds p) = some ws := h
  generalize (if (wds p).getLast? = some ("#" : Str) then (wds p).dropLast ++ List.replicate (n - (wds p).dropLast.length).toNat ("*" : Str) else wds p) = us at h ⊢
  have h : (if (us.length : Int) = n then some us else none) = some ws := h
  by_cases e : (us.length : Int) = n
  · rw [if_pos e] at h; cases h; exact ⟨e, rfl⟩
  · rw [if_neg e] at h; cases h
theorem ofLen_mem {p : Str} {n : Int} {ws : List Str} (h : ofLen p n = some ws) : ∀ u ∈ ws, u = ("*" : Str) ∨ u ∈ Hk.cut (wds p) := by
  obtain ⟨_, e⟩ := ofLen_us h
  intro u hu
  rw [e] at hu
  unfold Hk.cut
  by_cases e2 : (wds p).getLast? = some ("#" : Str)
  · rw [if_pos e2] at hu ⊢
    rcases List.mem_append.mp hu with hu | hu
    · exact .inr hu
    · exact .inl (List.eq_of_mem_replicate hu)
  · rw [if_neg e2] at hu ⊢; exact .inr hu
theorem ofLen_star {p : Str} {n : Int} {ws : List Str} (hp : isPat p = true) (h : ofLen p n = some ws) : ∀ u ∈ ws, starOr u = true := fun u hu => by
  rcases ofLen_mem h u hu with e | e
  · rw [e]; decide +kernel
  · unfold isPat at hp
    exact List.all_eq_true.mp (Bool.and_eq_true_iff.mp hp).2 u e
theorem star_word {z : Str} (h : starOr z = true) (hn : z ≠ ("*" : Str)) : isWord z = true := by
  unfold starOr at h
  simpa [hn] using h
theorem cand_word {x : Str × Str} {w : Str} (h1 : starOr x.1 = true) (h2 : starOr x.2 = true) (h : Cand x w) : isWord w = true := by
  rcases h with e | ⟨e | e, n⟩
  · rw [e]; decide +kernel
  · rw [e] at n ⊢; exact star_word h1 n
  · rw [e] at n ⊢; exact star_word h2 n
theorem wds_words {l : List Str} (hne : l ≠ []) (h : ∀ w ∈ l, isWord w = true) : wds (Txt.join "." l) = l := wds_join hne fun p hp => star_nodot (word_star (h p hp))
theorem doesFit_join {p : Str} {l xs : List Str} (hne : l ≠ []) (h : ∀ w ∈ l, isWord w = true) (e : ofLen p l.length = some xs) : doesFit p (Txt.join "." l) = (xs.zip l).all fit1 := by
  unfold doesFit
  rw [wds_words hne h, e]
theorem all_zip {α β : Type} {xs : List α} {ys : List β} {f : α × β → Bool} : (xs.zip ys).all f = true ↔ ∀ (k : Nat) (x : α) (y : β), xs[k]? = some x → ys[k]? = some y → f (x, y) = true := by
  rw [List.all_eq_true]
  constructor
  · intro h k x y hx hy
    refine h (x, y) (List.mem_iff_getElem?.mpr ⟨k, ?_⟩)
    rw [List.getElem?_zip_eq_some]; exact ⟨hx, hy⟩
  · rintro h ⟨x, y⟩ hm
    obtain ⟨k, hk⟩ := List.mem_iff_getElem?.mp hm
    obtain ⟨h1, h2⟩ := List.getElem?_zip_eq_some.mp hk
    exact h k x y h1 h2
/-! ### the first line of all that are made of both -/
theorem can_iff {x y : Str} : can1 (x, y) = true ↔ x = ("*" : Str) ∨ y = ("*" : Str) ∨ x = y := by
  unfold can1; simp
theorem fit_iff {x y : Str} : fit1 (x, y) = true ↔ x = ("*" : Str) ∨ x = y := by
  unfold fit1; simp
theorem zipAt {xs ys : List Str} (h : xs.length = ys.length) {k : Nat} (hk : k < xs.length) : ∃ x y, xs[k]? = some x ∧ ys[k]? = some y ∧ (xs.zip ys)[k]? = some (x, y) := by
  refine ⟨xs[k], ys[k]'(by omega), List.getElem?_eq_getElem hk, List.getElem?_eq_getElem (by omega), ?_⟩
  rw [List.getElem?_zip_eq_some]
  exact ⟨List.getElem?_eq_getElem hk, List.getElem?_eq_getElem (by omega)⟩
theorem met_word {x y : Str} (hx : starOr x = true) (hy : starOr y = true) : isWord (met1 (x, y)) = true := cand_word hx hy (met_cand (x, y))
theorem met_words {p q : Str} {n : Int} {xs ys : List Str} (hp : isPat p = true) (hq : isPat q = true) (ex : ofLen p n = some xs) (ey : ofLen q n = some ys) : ∀ w ∈ (xs.zip ys).map met1, isWord w = true := fun w hw => by
  obtain ⟨⟨x, y⟩, hm, rfl⟩ := List.mem_map.mp hw
  have hz := List.of_mem_zip hm
  exact met_word (ofLen_star hp ex x hz.1) (ofLen_star hq ey y hz.2)
theorem fit_met {xs ys : List Str} (hl : xs.length = ys.length) (hc : (xs.zip ys).all can1 = true) : (xs.zip ((xs.zip ys).map met1)).all fit1 = true ∧ (ys.zip ((xs.zip ys).map met1)).all fit1 = true := by
  have hc := all_zip.mp hc
  constructor
  · refine all_zip.mpr fun k x w hx hw => fit_iff.mpr ?_
    obtain ⟨x', y, h1, h2, h3⟩ := zipAt hl (List.getElem?_eq_some_iff.mp hx).1
    rw [h1] at hx; cases hx
    rw [List.getElem?_map, h3] at hw
    cases hw
    unfold met1
    by_cases e1 : x = ("*" : Str)
    · exact .inl e1
    · right; simp [e1]
  · refine all_zip.mpr fun k y w hy hw => fit_iff.mpr ?_
    obtain ⟨x, y', h1, h2, h3⟩ := zipAt hl (by have := (List.getElem?_eq_some_iff.mp hy).1; omega : k < xs.length)
    rw [h2] at hy; cases hy
    rw [List.getElem?_map, h3] at hw
    cases hw
    unfold met1
    rcases can_iff.mp (hc k x y h1 h2) with e | e | e
    · by_cases e2 : y = ("*" : Str)
      · exact .inl e2
      · right; simp [e, e2]
    · exact .inl e
    · by_cases e2 : y = ("*" : Str)
      · exact .inl e2
      · right; subst e; simp [e2]
theorem fit_both {xs ys l : List Str} {zs : List (Str × Str)} (hz : zs = xs.zip ys) (hl : xs.length = ys.length) (hll : l.length = xs.length) (hC : ∀ (k : Nat) (w : Str) (x : Str × Str), l[k]? = some w → zs[k]? = some x → Cand x w)
    (h1 : (xs.zip l).all fit1 = true) (h2 : (ys.zip l).all fit1 = true) : (xs.zip ys).all can1 = true ∧ l = (xs.zip ys).map met1 := by
  have h1 := all_zip.mp h1
  have h2 := all_zip.mp h2
  constructor
  · refine all_zip.mpr fun k x y hx hy => can_iff.mpr ?_
    have hk : k < l.length := by have := (List.getElem?_eq_some_iff.mp hx).1; omega
    have hw := List.getElem?_eq_getElem hk
    rcases fit_iff.mp (h1 k x _ hx hw) with e | e
    · exact .inl e
    · rcases fit_iff.mp (h2 k y _ hy hw) with e' | e'
      · exact .inr (.inl e')
      · exact .inr (.inr (e.trans e'.symm))
  · refine List.ext_getElem? fun k => ?_
    by_cases hk : k < xs.length
    · obtain ⟨x, y, hx, hy, h3⟩ := zipAt hl hk
      have hw := List.getElem?_eq_getElem (l := l) (i := k) (by omega)
      rw [List.getElem?_map, h3, hw]
      have c := hC k _ _ hw (by rw [hz]; exact h3)
      have a1 := fit_iff.mp (h1 k x _ hx hw)
      have a2 := fit_iff.mp (h2 k y _ hy hw)
      generalize l[k] = w at c a1 a2
      show some w = some (met1 (x, y))
      congr 1
      unfold met1
      by_cases e1 : x = ("*" : Str) <;> by_cases e2 : y = ("*" : Str)
      · simp only [e1, e2, and_self, if_true]
        rcases c with c | ⟨c | c, n⟩
        · exact c
        · exact absurd (c.trans e1) n
        · exact absurd (c.trans e2) n
      · simp only [e1, e2, and_false, if_false, if_true]
        rcases a2 with a | a
        · exact absurd a e2
        · exact a.symm
      · simp only [e1, false_and, if_false]
        rcases a1 with a | a
        · exact absurd a e1
        · exact a.symm
      · simp only [e1, false_and, if_false]
        rcases a1 with a | a
        · exact absurd a e1
        · exact a.symm
    · rw [List.getElem?_eq_none (by omega), List.getElem?_eq_none (by simp; omega)]
theorem first_fil {p q : Str} {n : Nat} {xs ys : List Str} {L : List (List Str)} (hp : isPat p = true) (hq : isPat q = true) (hn : 1 ≤ n) (ex : ofLen p n = some xs) (ey : ofLen q n = some ys) (F : FInv (xs.zip ys) n L) :
    L.filterMap (fun l => if (doesFit p (Txt.join "." l) && doesFit q (Txt.join "." l)) = true then some (V.str (Txt.join "." l)) else none) = if (xs.zip ys).all can1 = true then [V.str (Txt.join "." ((xs.zip ys).map met1))] else [] := by
  have lx : xs.length = n := by have := (ofLen_us ex).1; omega
  have ly : ys.length = n := by have := (ofLen_us ey).1; omega
  have word : ∀ l ∈ L, l ≠ [] ∧ l.length = n ∧ ∀ w ∈ l, isWord w = true := fun l hl => by
    obtain ⟨e1, e2⟩ := F.each l hl
    refine ⟨fun z => by rw [z] at e1; simp at e1; omega, e1, fun w hw => ?_⟩
    obtain ⟨k, hk⟩ := List.mem_iff_getElem?.mp hw
    have hk' := (List.getElem?_eq_some_iff.mp hk).1
    obtain ⟨x, y, h1, h2, h3⟩ := zipAt (xs := xs) (ys := ys) (by omega) (k := k) (by omega)
    exact cand_word (ofLen_star hp ex x (List.mem_of_getElem? h1)) (ofLen_star hq ey y (List.mem_of_getElem? h2)) (e2 k w _ hk h3)
  have key : ∀ l ∈ L, (doesFit p (Txt.join "." l) && doesFit q (Txt.join "." l)) = true → (xs.zip ys).all can1 = true ∧ l = (xs.zip ys).map met1 := fun l hl h => by
    obtain ⟨w1, w2, w3⟩ := word l hl
    rw [doesFit_join w1 w3 (by rw [w2]; exact ex), doesFit_join w1 w3 (by rw [w2]; exact ey)] at h
    obtain ⟨h1, h2⟩ := Bool.and_eq_true_iff.mp h
    exact fit_both rfl (by omega) (by omega) (F.each l hl).2 h1 h2
  by_cases hc : (xs.zip ys).all can1 = true
  · rw [if_pos hc]
    have hm : (xs.zip ys).map met1 ∈ L := by
      have := F.has
      rwa [List.take_of_length_le (by rw [List.length_zip]; omega)] at this
    refine filterMap_one F.nd hm ?_ fun l hl hne => if_neg fun h => hne (key l hl h).2
    obtain ⟨w1, w2, w3⟩ := word _ hm
    obtain ⟨f1, f2⟩ := fit_met (xs := xs) (ys := ys) (by omega) hc
    rw [if_pos (by rw [doesFit_join w1 w3 (by rw [w2]; exact ex), doesFit_join w1 w3 (by rw [w2]; exact ey), f1, f2]; rfl)]
  · rw [if_neg hc]
    exact List.filterMap_eq_nil_iff.mpr fun l hl => if_neg fun h => hc (key l hl h).1
theorem sep_join {l : List Str} {i : Nat} (h : l.length = i) (w : Str) : (Txt.join "." l ++ (if (if (0 : Int) < 0 + (i : Int) then (1 : Int) else 0) = 1 then ("." : Str) else Str.empty)) ++ w = Txt.join "." (l ++ [w]) := by
  by_cases e : i = 0
  · subst e
    have : l = [] := List.eq_nil_of_length_eq_zero h
    subst this
    rw [if_neg (by decide)]
    apply ext_tl
    rw [List.nil_append, join_one, tl_append, tl_append, join_eq, tl_join]; rfl
  · rw [if_pos (by rw [if_pos (by omega)]), join_snoc (fun z => e (by rw [← h, z]; rfl))]
theorem FInv.words {xs ys : List Str} {i : Nat} {L : List (List Str)} (F : FInv (xs.zip ys) i L) (hl : xs.length = ys.length) (hi : i ≤ xs.length) (hx : ∀ u ∈ xs, starOr u = true) (hy : ∀ u ∈ ys, starOr u = true) : ∀ l ∈ L, ∀ w ∈ l, isWord w = true := fun l hm w hw => by
  obtain ⟨e1, e2⟩ := F.each l hm
  obtain ⟨k, hk⟩ := List.mem_iff_getElem?.mp hw
  have hk' := (List.getElem?_eq_some_iff.mp hk).1
  obtain ⟨x, y, h1, h2, h3⟩ := zipAt (xs := xs) (ys := ys) hl (k := k) (by omega)
  exact cand_word (hx x (List.mem_of_getElem? h1)) (hy y (List.mem_of_getElem? h2)) (e2 k w _ hk h3)
theorem join_small {l : List Str} (h : ∀ w ∈ l, isWord w = true) (hl : l.length ≤ 6) : (Txt.join "." l).length ≤ 30 := by
  have := joinD_len (ws := l) (k := 4) fun w hw => (word_signs (h w hw)).2.1
  omega
theorem cand_len {x : Str × Str} {S : List Str} (hS : S.Nodup) (hm : ∀ w, w ∈ S ↔ Cand x w) : S.length ≤ 3 := nodup_len S [("a" : Str), x.1, x.2] hS fun w hw => by
  rcases (hm w).mp hw with e | ⟨e | e, _⟩ <;> simp [e]
theorem mem_joinLF {S : List Nat} {c : Nat} : ∀ {ps : List (List Nat)}, c ∈ joinL S ps → c ∈ S ∨ ∃ p ∈ ps, c ∈ p
  | [], h => by cases h
  | [p], h => .inr ⟨p, by simp, h⟩
  | p :: q :: r, h => by
    have h : c ∈ p ++ (S ++ joinL S (q :: r)) := h
    rcases List.mem_append.mp h with h | h
    · exact .inr ⟨p, by simp, h⟩
    · rcases List.mem_append.mp h with h | h
      · exact .inl h
      · rcases mem_joinLF h with h | ⟨p', h1, h2⟩
        · exact .inl h
        · exact .inr ⟨p', List.mem_cons_of_mem _ h1, h2⟩
theorem join_ok {l : List Str} (h : ∀ w ∈ l, isWord w = true) : PyData.strOk (Txt.join "." l) = true := strOk_iff.mpr fun c hc => by
  rw [join_eq, tl_join] at hc
  rcases mem_joinLF hc with h1 | ⟨p, h1, h2⟩
  · have : tl ("." : Str) = [46] := by decide +kernel
    rw [this] at h1
    have := List.mem_singleton.mp h1
    omega
  · obtain ⟨w, hw, rfl⟩ := List.mem_map.mp h1
    have := (word_signs (h w hw)).2.2 c h2
    omega
end Hk

set_option Elab.async false
set_option linter.all false
set_option maxRecDepth 100000
set_option maxHeartbeats 4000000
/-! The law of patterns beside patterns, in plain Lean. -/
namespace Hk
open PySem PySem.Spec PyProof.Rows L2 TL
def qw (m : Str) : Str := if m = ("*" : Str) then ("q" : Str) else m
def line1 (p : Str) (k : Nat) : Option Str := (ofLen p ((k : Int) + 1)).map fun ms => Txt.join "." (ms.map qw)
theorem qw_word {m : Str} (h : starOr m = true) : isWord (qw m) = true := by
  unfold qw
  split
  · decide +kernel
  · rename_i e; exact star_word h e
theorem qw_words {p : Str} {n : Int} {ms : List Str} (hp : isPat p = true) (h : ofLen p n = some ms) : ∀ w ∈ ms.map qw, isWord w = true := fun w hw => by
  obtain ⟨m, hm, rfl⟩ := List.mem_map.mp hw
  exact qw_word (ofLen_star hp h m hm)
theorem line1_small {p : Str} {k : Nat} {z : Str} (hp : isPat p = true) (hk : k < 6) (h : line1 p k = some z) : z.length ≤ 30 ∧ PyData.strOk z = true := by
  unfold line1 at h
  cases e : ofLen p ((k : Int) + 1) with
  | none => rw [e] at h; cases h
  | some ms =>
    rw [e] at h
    have h := Option.some.inj h
    rw [← h]
    have := (ofLen_us e).1
    exact ⟨join_small (qw_words hp e) (by rw [List.length_map]; omega), join_ok (qw_words hp e)⟩
theorem few_q {u : Str} (h : u = ("*" : Str) ∨ fewWord u) : u ≠ ("q" : Str) := fun e => by
  rw [e] at h
  rcases h with h | h
  · exact absurd h (by decide +kernel)
  · have := h.2.2 113 (by decide +kernel)
    omega
theorem nar_line {p q : Str} {k : Nat} (hp : isPat p = true) (hf : ∀ u ∈ Hk.cut (wds q), u = ("*" : Str) ∨ fewWord u) : nar1 p q k = match line1 p k with | none => true | some z => doesFit q z := by
  unfold nar1 line1
  cases e : ofLen p ((k : Int) + 1) with
  | none => rfl
  | some ms =>
    have hl := (ofLen_us e).1
    have hne : ms.map qw ≠ [] := fun z => by
      have := congrArg List.length z
      rw [List.length_map, List.length_nil] at this; omega
    show (match ofLen q ((k : Int) + 1) with | none => false | some ts => _) = doesFit q (Txt.join "." (ms.map qw))
    unfold doesFit
    rw [wds_words hne (qw_words hp e)]
    have el : (((ms.map qw).length : Nat) : Int) = (k : Int) + 1 := by rw [List.length_map]; exact hl
    rw [el]
    cases e2 : ofLen q ((k : Int) + 1) with
    | none => rfl
    | some ts =>
      show (ms.zip ts).all _ = (ts.zip (ms.map qw)).all fit1
      rw [Bool.eq_iff_iff, all_zip, all_zip]
      have tq : ∀ t ∈ ts, t ≠ ("q" : Str) := fun t ht => by
        rcases ofLen_mem e2 t ht with h | h
        · exact few_q (.inl h)
        · exact few_q (hf t h)
      constructor
      · intro h j t w ht hw
        rw [List.getElem?_map] at hw
        cases em : ms[j]? with
        | none => rw [em] at hw; cases hw
        | some m =>
          rw [em] at hw
          have hw := Option.some.inj hw
          have := h j m t em ht
          simp only [Bool.or_eq_true, decide_eq_true_eq] at this
          rw [fit_iff, ← hw]
          unfold qw
          rcases this with a | a
          · exact .inl a
          · by_cases e3 : m = ("*" : Str)
            · exact .inl (a.trans e3)
            · rw [if_neg e3]; exact .inr a
      · intro h j m t hm ht
        have := h j t (qw m) ht (by rw [List.getElem?_map, hm]; rfl)
        simp only [Bool.or_eq_true, decide_eq_true_eq]
        rcases fit_iff.mp this with a | a
        · exact .inl a
        · unfold qw at a
          split at a
          · exact absurd a (tq t (List.mem_of_getElem? ht))
          · exact .inr a
theorem nar_lines {p q : Str} (hp : isPat p = true) (hf : ∀ u ∈ Hk.cut (wds q), u = ("*" : Str) ∨ fewWord u) : ∀ R : List Nat, R.all (nar1 p q) = ((R.filterMap (line1 p)).filterMap fun z => if (!doesFit q z) = true then some z else none).isEmpty
  | [] => rfl
  | k :: R => by
    have ih := nar_lines hp hf R
    rw [List.all_cons, ih, nar_line hp hf]
    cases e : line1 p k with
    | none => rw [List.filterMap_cons_none e]; simp
    | some z =>
      rw [List.filterMap_cons_some e]
      cases e2 : doesFit q z with
      | true => rw [List.filterMap_cons_none (by simp [e2])]; simp [e2]
      | false => rw [List.filterMap_cons_some (b := z) (by simp [e2])]; simp [e2]
/-! ### meets -/
theorem mee_some {p q : Str} {k : Nat} {z : Str} (h : mee1 p q k = some z) : ∃ ms ts, ofLen p ((k : Int) + 1) = some ms ∧ ofLen q ((k : Int) + 1) = some ts ∧ (ms.zip ts).all can1 = true ∧ z = Txt.join "." ((ms.zip ts).map met1) := by
  unfold mee1 at h
  cases e : ofLen p ((k : Int) + 1) with
  | none => rw [e] at h; cases h
  | some ms =>
    rw [e] at h
    cases e2 : ofLen q ((k : Int) + 1) with
    | none => rw [e2] at h; cases h
    | some ts =>
      rw [e2] at h
      have h : (if (ms.zip ts).all can1 = true then some (Txt.join "." ((ms.zip ts).map met1)) else none) = some z := h
      by_cases hc : (ms.zip ts).all can1 = true
      · rw [if_pos hc] at h
        exact ⟨ms, ts, rfl, rfl, hc, (Option.some.inj h).symm⟩
      · rw [if_neg hc] at h; cases h
theorem mee_fits {p q : Str} {k : Nat} {z : Str} (hp : isPat p = true) (hq : isPat q = true) (hk : k < 6) (h : mee1 p q k = some z) : isLine z = true ∧ doesFit p z = true ∧ doesFit q z = true ∧ z.length ≤ 30 := by
  obtain ⟨ms, ts, e1, e2, hc, rfl⟩ := mee_some h
  have l1 := (ofLen_us e1).1
  have l2 := (ofLen_us e2).1
  have hw := met_words hp hq e1 e2
  have hl : ((ms.zip ts).map met1).length = k + 1 := by rw [List.length_map, List.length_zip]; omega
  have hne : (ms.zip ts).map met1 ≠ [] := fun z => by rw [z] at hl; simp at hl
  obtain ⟨f1, f2⟩ := fit_met (xs := ms) (ys := ts) (by omega) hc
  refine ⟨isLine_join hne (by omega) hw, ?_, ?_, join_small hw (by omega)⟩
  · rw [doesFit_join hne hw (by rw [hl]; exact e1)]; exact f1
  · rw [doesFit_join hne hw (by rw [hl]; exact e2)]; exact f2
theorem mee_sym {p q : Str} {k : Nat} : mee1 p q k = mee1 q p k := by
  unfold mee1
  cases e1 : ofLen p ((k : Int) + 1) with
  | none => cases e2 : ofLen q ((k : Int) + 1) <;> rfl
  | some ms =>
    cases e2 : ofLen q ((k : Int) + 1) with
    | none => rfl
    | some ts =>
      have l1 := (ofLen_us e1).1
      have l2 := (ofLen_us e2).1
      show (if (ms.zip ts).all can1 = true then some (Txt.join "." ((ms.zip ts).map met1)) else none) = (if (ts.zip ms).all can1 = true then some (Txt.join "." ((ts.zip ms).map met1)) else none)
      have hc : ((ms.zip ts).all can1 = true) ↔ ((ts.zip ms).all can1 = true) := by
        rw [all_zip, all_zip]
        constructor
        · intro h j x y hx hy
          have := can_iff.mp (h j y x hy hx)
          exact can_iff.mpr (by rcases this with a | a | a <;> simp [a])
        · intro h j x y hx hy
          have := can_iff.mp (h j y x hy hx)
          exact can_iff.mpr (by rcases this with a | a | a <;> simp [a])
      by_cases h : (ms.zip ts).all can1 = true
      · rw [if_pos h, if_pos (hc.mp h)]
        congr 2
        refine List.ext_getElem? fun j => ?_
        by_cases hj : j < ms.length
        · obtain ⟨x, y, hx, hy, h3⟩ := zipAt (xs := ms) (ys := ts) (by omega) hj
          obtain ⟨y', x', hy', hx', h4⟩ := zipAt (xs := ts) (ys := ms) (by omega) (k := j) (by omega)
          rw [hx] at hx'; rw [hy] at hy'; cases hx'; cases hy'
          rw [List.getElem?_map, List.getElem?_map, h3, h4]
          show some (met1 (x, y)) = some (met1 (y, x))
          have := can_iff.mp (all_zip.mp h j x y hx hy)
          unfold met1
          by_cases a1 : x = ("*" : Str) <;> by_cases a2 : y = ("*" : Str)
          · simp [a1, a2]
          · simp [a1, a2]
          · simp [a1, a2]
          · rcases this with a | a | a
            · exact absurd a a1
            · exact absurd a a2
            · simp [a1, a2, a]
        · rw [List.getElem?_eq_none (by rw [List.length_map, List.length_zip]; omega), List.getElem?_eq_none (by rw [List.length_map, List.length_zip]; omega)]
      · rw [if_neg h, if_neg fun z => h (hc.mpr z)]
theorem meets_sym {p q : Str} : meetsM p q = meetsM q p := by
  unfold meetsM
  congr 1
  funext k
  exact mee_sym
theorem meets_at {p q z : Str} (h : meetsM p q = some z) : ∃ k, k < 6 ∧ mee1 p q k = some z := by
  unfold meetsM at h
  obtain ⟨k, hk, e⟩ := List.exists_of_findSome?_eq_some h
  exact ⟨k, List.mem_range.mp hk, e⟩
theorem firsts {p q : Str} (hp : isPat p = true) (hq : isPat q = true) : ∀ R : List Nat, (∀ k ∈ R, k < 6) → (((R.map fun k => (mee1 p q k).getD "").filterMap fun z => if z ≠ ("" : Str) then some (V.str z) else none) ++ [V.non])[0]? = some (meetV (R.findSome? (mee1 p q)))
  | [], _ => rfl
  | k :: R, h => by
    have ih := firsts hp hq R fun j hj => h j (List.mem_cons_of_mem _ hj)
    cases e : mee1 p q k with
    | none =>
      rw [List.map_cons, e, List.filterMap_cons_none (by simp), List.findSome?_cons, e]
      exact ih
    | some z =>
      have hz : z ≠ ("" : Str) := fun z0 => by
        have := (mee_fits hp hq (h k (List.mem_cons_self ..)) e).1
        rw [z0] at this
        exact absurd this (by decide +kernel)
      rw [List.map_cons, e, List.filterMap_cons_some (b := V.str z) (by simp [hz]), List.findSome?_cons, e]
      rfl
/-! ### beside itself, beside # -/
theorem nar_self (p : Str) : narrowerM p p = true := by
  unfold narrowerM
  refine List.all_eq_true.mpr fun k _ => ?_
  unfold nar1
  cases e : ofLen p ((k : Int) + 1) with
  | none => rfl
  | some ms =>
    refine all_zip.mpr fun j x y hx hy => ?_
    rw [hx] at hy; cases hy; simp
theorem ofLen_hash (k : Nat) : ofLen ("#" : Str) ((k : Int) + 1) = some (List.replicate (k + 1) ("*" : Str)) := by
  unfold ofLen
  have e : wds ("#" : Str) = [("#" : Str)] := by decide +kernel
  have e2 : (wds ("#" : Str)).getLast? = some ("#" : Str) := by rw [e]; rfl
  simp only [e2, if_true]
  rw [e]
  have e3 : (((k : Int) + 1) - (([("#" : Str)] : List Str).dropLast.length : Int)).toNat = k + 1 := by simp
  rw [e3]
  simp
theorem nar_hash (p : Str) : narrowerM p "#" = true := by
  unfold narrowerM
  refine List.all_eq_true.mpr fun k _ => ?_
  unfold nar1
  cases e : ofLen p ((k : Int) + 1) with
  | none => rfl
  | some ms =>
    rw [ofLen_hash]
    refine all_zip.mpr fun j x y hx hy => ?_
    have := List.eq_of_mem_replicate (List.mem_of_getElem? hy)
    simp [this]
theorem ofLen_some {p : Str} (hp : isPat p = true) : ∃ k : Nat, k < 6 ∧ ∃ ms, ofLen p ((k : Int) + 1) = some ms := by
  have h6 : (Hk.cut (wds p)).length ≤ 6 := by
    unfold isPat at hp
    exact of_decide_eq_true (Bool.and_eq_true_iff.mp hp).1
  have hne := wds_ne p
  by_cases e : (wds p).getLast? = some ("#" : Str)
  · have hc : Hk.cut (wds p) = (wds p).dropLast := by unfold Hk.cut; rw [if_pos e]
    rw [hc] at h6
    by_cases h0 : (wds p).dropLast.length = 0
    · refine ⟨0, by decide, (wds p).dropLast ++ List.replicate ((((0 : Nat) : Int) + 1) - (wds p).dropLast.length).toNat ("*" : Str), ?_⟩
      unfold ofLen
      simp only [e, if_true]
      exact if_pos (by rw [List.length_append, List.length_replicate]; omega)
    · refine ⟨(wds p).dropLast.length - 1, by omega, (wds p).dropLast ++ List.replicate (((((wds p).dropLast.length - 1 : Nat) : Int) + 1) - (wds p).dropLast.length).toNat ("*" : Str), ?_⟩
      unfold ofLen
      simp only [e, if_true]
      exact if_pos (by rw [List.length_append, List.length_replicate]; omega)
  · have hc : Hk.cut (wds p) = wds p := by unfold Hk.cut; rw [if_neg e]
    rw [hc] at h6
    have h0 : 0 < (wds p).length := List.length_pos_iff.mpr hne
    refine ⟨(wds p).length - 1, by omega, wds p, ?_⟩
    unfold ofLen
    simp only [e, if_false]
    exact if_pos (by omega)
theorem meets_hash {p : Str} (hp : isPat p = true) : meetsM p "#" ≠ none := fun h => by
  obtain ⟨k, hk, ms, e⟩ := ofLen_some hp
  unfold meetsM at h
  have := List.findSome?_eq_none_iff.mp h k (List.mem_range.mpr hk)
  unfold mee1 at this
  rw [e, ofLen_hash] at this
  have this : (if (ms.zip (List.replicate (k + 1) ("*" : Str))).all can1 = true then some _ else none) = none := this
  rw [if_pos] at this
  · cases this
  · refine all_zip.mpr fun j x y hx hy => can_iff.mpr ?_
    exact .inr (.inl (List.eq_of_mem_replicate (List.mem_of_getElem? hy)))
theorem isPat_hash1 : isPat ("#" : Str) = true := by decide +kernel
end Hk

set_option Elab.async false
set_option linter.all false
set_option maxRecDepth 100000
/-! sets of texts, walked: set(xs), sorted(set); min(xs) of one text.
The proofs of add and of set(xs) are those of the hand layer's ints and tuples, turned to texts. -/
namespace SetS
open PySem PySem.Spec PyProof.Rows L2

theorem strs_atS : ∀ {us : List Value} {xs : List Str}, StrsAre us xs → ∀ (i : Nat) (v : Value), us[i]? = some v → ∃ k t, xs[i]? = some k ∧ v = .str k t
  | _, _, .nil, i, v, h => by simp at h
  | _, _, .cons n t hr, 0, v, h => by simp at h; exact ⟨n, t, rfl, h.symm⟩
  | _, _, .cons n t hr, i + 1, v, h => by
    simp only [List.getElem?_cons_succ] at h
    exact strs_atS hr i v h
def keyS (e : Int × Value) : Str := match e.2 with | .str k _ => k | _ => Str.empty
def GoodS (w : World) (e : Int × Value) : Prop := ∃ k tk, e.2 = Value.str k tk ∧ e.1 = hashStr w k
/-- the set of texts at a: S its members, n their number -/
def SetRS (P : Program) (w : World) (h : Heap) (a : Addr) (S : Str → Bool) (n : Nat) : Prop :=
  ∃ o es ep t, h.get? a = some o ∧ o.ExactSet ∧ o.data = .set es ep t ∧ (∀ e ∈ es.toList, GoodS w e) ∧ (es.toList.map keyS).Nodup ∧ (∀ k, S k = true ↔ k ∈ es.toList.map keyS) ∧
    es.size < scanBound ∧ t.fits es.size = true ∧ es.size = n ∧ Ris t.place.toList ∧ (w.params.followText "set-order" = true ∨ t.led = true)
section
variable {P : Program} {w : World} {h h' : Heap} {a : Addr} {S : Str → Bool} {n : Nat}
theorem SetRS.at (R : SetRS P w h a S n) (k : ∀ o, h.get? a = some o → h'.get? a = some o) : SetRS P w h' a S n := by
  obtain ⟨o, es, ep, t, ho, r⟩ := R
  exact ⟨o, es, ep, t, k o ho, r⟩
theorem SetRS.congr {S' : Str → Bool} (R : SetRS P w h a S n) (e : ∀ k, S' k = S k) : SetRS P w h a S' n := by
  have q : S' = S := funext e
  rw [q]; exact R
theorem goodS_elems {l : List (Int × Value)} (g : ∀ e ∈ l, GoodS w e) : ElemsOf (PySem.strKind P w) l := fun e he => by
  obtain ⟨k, tk, h1, h2⟩ := g e he
  exact ⟨⟨k, by rw [h1]; exact strKind_is P w k tk, h2⟩, by rw [h1] <;> rfl⟩
theorem goodS_is {e : Int × Value} (g : GoodS w e) (k : Str) : (PySem.strKind P w).is k e.2 = true ↔ keyS e = k := by
  obtain ⟨k0, tk, h1, _⟩ := g
  unfold keyS
  rw [h1]
  constructor
  · intro z
    exact (PySem.strKind P w).inj (.str k0 tk) k0 k (strKind_is P w k0 tk) z
  · intro z
    subst z
    exact strKind_is P w _ tk
theorem goodS_mem {l : List (Int × Value)} (g : ∀ e ∈ l, GoodS w e) (k : Str) : k ∈ l.map keyS ↔ ∃ e ∈ l, (PySem.strKind P w).is k e.2 = true := by
  rw [List.mem_map]
  constructor
  · rintro ⟨e, he, q⟩
    exact ⟨e, he, (goodS_is (g e he) k).2 q⟩
  · rintro ⟨e, he, q⟩
    exact ⟨e, he, (goodS_is (g e he) k).1 q⟩
theorem setRS_fresh {h : Heap} {a : Addr} (ho : h.get? a = some { cls := .type "set", dict := none, data := .set #[] 0 (.fresh 0 0 (!w.params.followText "set-order")) }) : SetRS P w h a (fun _ => false) 0 :=
  ⟨_, #[], 0, _, ho, ⟨rfl, rfl, rfl⟩, rfl, (fun e he => by simp at he), (by simp), (fun k => by simp), (by decide), (by rfl), rfl, List.Pairwise.nil, by
    show _ ∨ (!w.params.followText "set-order") = true
    cases w.params.followText "set-order"
    · exact .inr rfl
    · exact .inl rfl⟩
end
section
variable {P : Program} {w : World} {A : Around} {E : Value → Shared → Prop} {s : Shared} {a : Addr} {S : Str → Bool} {n : Nat}
theorem setS_add_tail {g : Bool → Sem Unit} (hg : ∀ (b : Bool) (s₁ : Shared) (Q' : Unit → Shared → Prop), Q' () s₁ → wpAny (model P w) A (g b) Q' E s₁)
    {o : Obj} {es : Array (Int × Value)} {ep : Nat} {t : SetTable} (ho : s.heap.get? a = some o) (hex : o.ExactSet) (hd : o.data = .set es ep t)
    {es1 : Array (Int × Value)} {t2 : SetTable} {S' : Str → Bool} (g1 : ∀ e ∈ es1.toList, GoodS w e) (nd1 : (es1.toList.map keyS).Nodup) (m1 : ∀ k, S' k = true ↔ k ∈ es1.toList.map keyS)
    (hb1 : es1.size < scanBound) (hf2 : t2.fits es1.size = true) (hr : Ris t2.place.toList) (hl : w.params.followText "set-order" = true ∨ t2.led = true) {wasDummy : Bool} {R : Option Bool → Shared → Prop}
    (hR : ∀ h', Heap.SameBut a s.heap h' → SetRS P w h' a S' es1.size → R (some true) { s with heap := h' }) :
    wpAny (model P w) A (do
        storeSet a es1 t2
        if (!wasDummy && t2.tooFull) = true then do
            g (relayAll t2 es1 (SetTable.grown es1.size)).2.2
            storeSet a (relayAll t2 es1 (SetTable.grown es1.size)).1 (relayAll t2 es1 (SetTable.grown es1.size)).2.1
            pure (some true)
          else pure (some true)) R E s := by
  refine wpAny_bind (wpAny_storeSet_of ho hd ?_ (fits_of_scanBound hb1))
  have ho1 := store_at (es' := es1) (t' := t2) ho hd
  have sb1 := Heap.SameBut.update s.heap a (Obj.putSet es1 t2)
  split
  · have pm := relayAll_perm t2 es1 (SetTable.grown es1.size)
    have hf3 := relayAll_fits t2 es1 (SetTable.grown es1.size)
    have hr3 := relayAll_ris t2 es1 (SetTable.grown es1.size)
    have hl3 := relayAll_led t2 es1 (SetTable.grown es1.size)
    generalize relayAll t2 es1 (SetTable.grown es1.size) = Z at pm hf3 hr3 hl3 ⊢
    obtain ⟨es2, t3, gave⟩ := Z
    dsimp only at pm hf3 hr3 hl3 ⊢
    have hsz : es2.size = es1.size := by rw [← Array.length_toList, pm.length_eq, Array.length_toList]
    have hb2 : es2.size < scanBound := by rw [hsz]; exact hb1
    refine wpAny_bind (hg _ _ _ ?_)
    refine wpAny_bind (wpAny_storeSet_of ho1 rfl ?_ (fits_of_scanBound hb2))
    have ho2 := store_at (es' := es2) (t' := t3) ho1 rfl
    refine wpAny_pure (hR _ (sb1.trans (Heap.SameBut.update _ a _)) ?_)
    exact ⟨_, es2, _, t3, ho2, hex, rfl, fun e he => g1 e (pm.mem_iff.mp he), (pm.map keyS).nodup_iff.mpr nd1, fun k => (m1 k).trans (pm.map keyS).mem_iff.symm, hb2, hf3, hsz, hr3,
      hl.imp id fun z => by rw [hl3]; exact z⟩
  · exact wpAny_pure (hR _ sb1 ⟨_, es1, _, t2, ho1, hex, rfl, g1, nd1, m1, hb1, hf2, rfl, hr, hl⟩)

theorem setS_add_hashed {k : Str} {tk : Tok} {Q : Bool → Shared → Prop} (R : SetRS P w s.heap a S n) (room : n + 1 < scanBound)
    (hQ : ∀ h', Heap.SameBut a s.heap h' → SetRS P w h' a (fun j => S j || decide (j = k)) (if S k = true then n else n + 1) → Q (!S k) { s with heap := h' }) :
    wpAny (model P w) A (setAddHashed a (.str k tk) ((PySem.strKind P w).hash k)) Q E s := by
  obtain ⟨o, es, ep, t, ho, hex, hd, g, nd, hm, hb, hf, hn, hr, hl⟩ := R
  have hkey : (PySem.strKind P w).is k (.str k tk) = true := strKind_is P w k tk
  have hsc : (Value.str k tk).scannable = true := rfl
  have hel : ElemsOf (PySem.strKind P w) es.toList := goodS_elems g
  unfold setAddHashed setAddHashedIn
  refine wpAny_holding (wpAny_bind (wpAny_setState_of ho hd hf ?_))
  dsimp only
  rw [byScan_of hsc hb hel]
  simp only [↓reduceIte]
  unfold setAddByScan
  refine wpAny_bind ?_
  refine wpAny_bind (wpAny_rule ?_)
  refine wpAny_bind (wpAny_setScan_of hkey ho hd hf hel ?_)
  cases hfi : List.findIdx? (fun e => (PySem.strKind P w).is k e.2) es.toList with
  | some j =>
    dsimp only
    obtain ⟨hj, pj, _⟩ := List.findIdx?_eq_some_iff_getElem.mp hfi
    have hSk : S k = true := (hm k).2 ((goodS_mem (P := P) (w := w) g k).2 ⟨es.toList[j], List.getElem_mem hj, pj⟩)
    refine wpAny_pure (wpAny_pure ?_)
    have q := hQ s.heap (Heap.SameBut.refl a s.heap) ⟨o, es, ep, t, ho, hex, hd, g, nd, fun i => by
      rw [Bool.or_eq_true, decide_eq_true_eq, ← hm i]
      exact ⟨fun z => z.elim id (fun e => e ▸ hSk), .inl⟩, hb, hf, by rw [if_pos hSk]; exact hn, hr, hl⟩
    rw [hSk] at q
    exact q
  | none =>
    dsimp only
    have hnk : k ∉ es.toList.map keyS := fun z => by
      obtain ⟨e, he, q⟩ := (goodS_mem (P := P) (w := w) g k).1 z
      have c := List.findIdx?_eq_none_iff.mp hfi e he
      rw [q] at c
      cases c
    have hSk : S k = false := by
      cases q : S k with
      | false => rfl
      | true => exact absurd ((hm k).1 q) hnk
    have hgw : ∀ (b : Bool) {s₁ : Shared} {Q' : Unit → Shared → Prop}, Q' () s₁ → wpAny (model P w) A (match b with | true => rule "set.scan.the-table-gave-way" | false => pure ()) Q' E s₁ :=
      fun b s₁ Q' q => by cases b <;> first | exact wpAny_pure q | exact wpAny_rule q
    have pm := layNew_perm t es ((PySem.strKind P w).hash k) (.str k tk)
    have hf1 := layNew_fits t es ((PySem.strKind P w).hash k) (.str k tk)
    have hr1 := layNew_ris t es ((PySem.strKind P w).hash k) (.str k tk) hr
    have hl1 := layNew_led t es ((PySem.strKind P w).hash k) (.str k tk)
    generalize layNew t es ((PySem.strKind P w).hash k) (.str k tk) = Z at pm hf1 hr1 hl1 ⊢
    obtain ⟨es1, t1, wasDummy, gave⟩ := Z
    dsimp only at pm hf1 hr1 hl1 ⊢
    rw [Array.toList_push] at pm
    have pc : es1.toList.Perm (((PySem.strKind P w).hash k, Value.str k tk) :: es.toList) := pm.trans (List.perm_append_singleton _ _)
    have pk : (es1.toList.map keyS).Perm (k :: es.toList.map keyS) := pc.map keyS
    have g1 : ∀ e ∈ es1.toList, GoodS w e := fun e he => by
      rcases List.mem_cons.mp (pc.mem_iff.mp he) with z | z
      · rw [z]; exact ⟨k, tk, rfl, rfl⟩
      · exact g e z
    have nd1 : (es1.toList.map keyS).Nodup := pk.nodup_iff.mpr (List.nodup_cons.mpr ⟨hnk, nd⟩)
    have m1 : ∀ i, (S i || decide (i = k)) = true ↔ i ∈ es1.toList.map keyS := fun i => by
      rw [Bool.or_eq_true, decide_eq_true_eq, hm i, pk.mem_iff, List.mem_cons]
      exact Or.comm
    have hsz : es1.size = n + 1 := by rw [← Array.length_toList, pc.length_eq, List.length_cons, Array.length_toList, hn]
    have hb1 : es1.size < scanBound := by rw [hsz]; exact room
    have hled : w.params.followText "set-order" = true ∨ t1.led = true := hl.imp id fun z => by rw [hl1]; exact z
    have fin : ∀ h', Heap.SameBut a s.heap h' → SetRS P w h' a (fun j => S j || decide (j = k)) es1.size → Q true { s with heap := h' } := fun h' sb r => by
      have q := hQ h' sb
      rw [hSk] at q
      rw [hsz] at r
      exact q r
    refine wpAny_bind (hgw _ ?_)
    split
    · refine wpAny_bind ?_
      rw [hashByValue_scannable 8 hsc]
      refine wpAny_pure ?_
      refine setS_add_tail ?_ ho hex hd g1 nd1 m1 hb1 ?_ ?_ ?_ ?_
      · intro b s₁ Q' q; cases b <;> first | exact wpAny_pure q | exact wpAny_rule q
      · first | (split <;> first | exact hf1 | exact SetTable.fits_plain_off hf1) | exact hf1
      · first | (split <;> exact hr1) | exact hr1
      · first | (split <;> exact hled) | exact hled
      · intro h' sb r; dsimp only; exact wpAny_pure (fin h' sb r)
    · refine wpAny_bind (wpAny_pure ?_)
      simp only [↓reduceIte]
      refine setS_add_tail ?_ ho hex hd g1 nd1 m1 hb1 hf1 hr1 hled ?_
      · intro b s₁ Q' q; cases b <;> first | exact wpAny_pure q | exact wpAny_rule q
      · intro h' sb r; dsimp only; exact wpAny_pure (fin h' sb r)



theorem set_update_strs {I : Addr} {fp wr : List Addr} {G : Array GenState → Array GenState → Prop} {n : Nat} {Pv : Nat → Value → Prop} {St : Nat → Shared → Prop} {R : Result → Shared → Prop}
    (W : WalksS P w A.in1 I fp wr G n Pv St) (S : Addr) (hSf : S ∉ fp) (ks : List Str) (hn : n = ks.length) (hfew : ks.length < 64) (hval : ∀ i v, Pv i v → ∃ k t, ks[i]? = some k ∧ v = .str k t) :
    ∀ (k i : Nat) (s : Shared), n - i = k → i ≤ n → St i s → ∀ m, m ≤ i → SetRS P w s.heap S (fun k => decide (k ∈ ks.take i)) m →
      (∀ s' m, Moved (S :: wr) G s s' → m ≤ n → SetRS P w s'.heap S (fun k => decide (k ∈ ks)) m → R (.ok (.ret .none)) s') →
      codeAny (model P w) A (.builtin "set.update.loop" ⟨[.ref S, .ref I], []⟩) R s := by
  have hSw : S ∉ wr := fun h => hSf (W.sub _ h)
  have hsub : ∀ b ∈ wr, b ∈ S :: wr := fun b hb => List.mem_cons_of_mem _ hb
  intro k
  induction k with
  | zero =>
    intro i s hk' hi hst m hm0 hS hR
    have hin : i = n := by omega
    subst hin
    refine codeAny_builtin F.entry_set_update_loop ?_
    rw [Around.under_plainId F.plain_set_update_loop _]
    show wpAny _ A.in1 (pyNext (.ref I) >>= _) _ _ s
    refine wpAny_bind (W.done s _ _ hst fun s' hm => ?_)
    show wpAny _ A.in1 (ret Value.none) _ _ s'
    refine wpAny_pure (hR s' m (hm.mono hsub) hm0 ?_)
    rw [hn, List.take_length] at hS
    exact hS.at fun o e => hm.heap S o hSw e
  | succ k ih =>
    intro i s hk' hi hst m hm0 hS hR
    have hlt : i < n := by omega
    refine codeAny_builtin F.entry_set_update_loop ?_
    rw [Around.under_plainId F.plain_set_update_loop _]
    show wpAny _ A.in1 (pyNext (.ref I) >>= _) _ _ s
    refine wpAny_bind (W.item i s _ _ hlt hst fun v s' hP hst' hm => ?_)
    obtain ⟨x, t, hp, rfl⟩ := hval i v hP
    have hS' : SetRS P w s'.heap S (fun k => decide (k ∈ ks.take i)) m := hS.at fun o e => hm.heap S o hSw e
    show wpAny _ A.in1 (holding [Value.str x t] (setAdd S (.str x t)) >>= _) _ _ s'
    refine wpAny_bind (wpAny_holding ?_)
    unfold setAdd
    refine wpAny_holding ?_
    refine wpAny_bind ((PySem.strKind P w).pyHash (k := x) (strKind_is _ _ _ _) ?_)
    refine setS_add_hashed (s := { s' with toks := s'.toks + 1 }) hS' (by unfold scanBound; omega) fun h' hsb hS2 => ?_
    have hS3 : SetRS P w h' S (fun k => decide (k ∈ ks.take (i + 1))) (if decide (x ∈ ks.take i) = true then m else m + 1) := hS2.congr fun j => by
      rw [L2.take_next hp]
      by_cases e1 : j ∈ ks.take i <;> by_cases e2 : j = x <;> simp [e1, e2]
    refine wpAny_pure ⟨plainId_quiet F.plain_set_update_loop _, ih (i + 1) _ (by omega) hlt (W.frame _ s' _ _ hst' (Nat.le_add_right _ _) fun b hb o e => ?_) _ (by split <;> omega) hS3 fun s'' m2 hm'' hm2 hS'' => ?_⟩
    · rw [hsb.2 b (fun h : b = S => hSf (by rw [← h]; exact hb))]; exact e
    · refine hR s'' m2 (Moved.trans W.gtrans ((hm.mono hsub).then_heap (Nat.le_add_right _ _) fun b o hb e => ?_) hm'') hm2 hS''
      rw [hsb.2 b (fun h : b = S => hb (by rw [h]; exact List.mem_cons_self))]; exact e

set_option maxRecDepth 100000 in
set_option maxHeartbeats 3200000 in
/-- set(xs) -/
theorem call_set_strs {l : Addr} {items : Array Value} (ks : List Str) {Q : Value → Shared → Prop} (hh : A.handled = none) (hl : s.heap.IsList l items) (hit : PyProof.Rows.StrsAre items.toList ks) (hfew : ks.length < 64)
    (h : ∀ (h' : Heap) (tk n : Nat), SetRS P w h' s.heap.objs.size (fun k => decide (k ∈ ks)) n → n ≤ ks.length → (∀ b o, s.heap.get? b = some o → h'.get? b = some o) → Q (.ref s.heap.objs.size) { s with heap := h', toks := tk }) :
    wpAny (model P w) A (call (.type "set") [.ref l]) Q E s := by
  have hisz : items.size = ks.length := by
    rw [← PyProof.Rows.StrsAre.len_eq hit, Array.length_toList]
  obtain ⟨c, tl, hmro⟩ := F.called_set.mro
  have hmade := F.called_set.made
  have hsub := F.called_set.sub
  refine wpAny_call (codeAny_of_tree ?_)
  show wpAny _ _ (callAny (.type "set") _) _ _ _
  refine wpAny_pure ⟨Code.quiet_builtin _ (by decide +kernel), codeAny_builtin F.entry_type_call ?_⟩
  rw [Around.under_plain (weight_type_call_type "set" [.ref l] []) rfl]
  have h1 := F.called_set.notType
  have h2 := F.called_set.canCreate
  have hct := F.typeCall_set_1 (.ref l)
  repeat (any_goals (first | assumption | wp_step))

  refine codeAny_mono (code_set_led1 (.ref l) (E := E) (Q₁ := fun obj s₁ => obj = .ref s.heap.objs.size ∧ s₁ = { s with heap := s.heap.push { cls := .type "set", dict := none, data := .set #[] 0 (.fresh 0 0 (!w.params.followText "set-order")) } }) ⟨rfl, rfl⟩) fun r s₁ hr => ?_
  cases r with
  | error e => exact hr
  | ok fl =>
    cases fl with
    | ret obj =>
      obtain ⟨rfl, rfl⟩ := hr
      have hS : (s.heap.push { cls := .type "set", dict := none, data := .set #[] 0 (.fresh 0 0 (!w.params.followText "set-order")) }).get? s.heap.objs.size = some { cls := .type "set", dict := none, data := .set #[] 0 (.fresh 0 0 (!w.params.followText "set-order")) } := Heap.get?_push_size _ rfl
      have hT : Shared.TypeIs { s with heap := s.heap.push { cls := .type "set", dict := none, data := .set #[] 0 (.fresh 0 0 (!w.params.followText "set-order")) } } (.ref s.heap.objs.size) "set" := ⟨_, hS, rfl⟩
      have hli := F.called_set.init.lookup
      have hbi := F.called_set.init.bind (.ref s.heap.objs.size)
      repeat (any_goals (first | assumption | wp_step))

      refine codeAny_mono (codeAny_call_builtin (R := wants (fun r s₂ => r = .none ∧ ∃ h' tk n, s₂ = { s with heap := h', toks := tk } ∧ SetRS P w h' s.heap.objs.size (fun k => decide (k ∈ ks)) n ∧ n ≤ ks.length ∧
          (∀ b o, s.heap.get? b = some o → h'.get? b = some o)) E) F.called_set.init.plain F.entry_set_init (check_set_init_1 hT ?_)) fun r₂ s₂ hr₂ => ?_
      · obtain ⟨ol, hol, hcl, nl, hdl⟩ := hl
        obtain ⟨ocls, odict, odata, oslots⟩ := ol
        simp only at hcl hdl
        subst hcl; subst hdl
        have hol' : (s.heap.push { cls := .type "set", dict := none, data := .set #[] 0 (.fresh 0 0 (!w.params.followText "set-order")) }).get? l = some { cls := .type "list", dict := odict, data := .seq items nl, slots := oslots } := Heap.get?_push_of_some _ hol
        have hsls := F.sub_list_set
        have hslf := F.sub_list_frozenset
        have hne : (Value.type "list" == Value.type "dict") = false := by decide
        have hl1 : (s.heap.push { cls := .type "set", dict := none, data := .set #[] 0 (.fresh 0 0 (!w.params.followText "set-order")) }).IsList l items := ⟨_, hol', rfl, nl, rfl⟩
        unfold Builtin.«set.__init__» noKeywords Builtin.Frozenset.updateFrom
        generalize hPI : pyIter = PI
        wp_walk
        subst hPI

        refine wpAny_pyIter_list hl1 ?_
        refine wpAny_bind (wpAny_runValue ?_)
        have hlS : l < s.heap.objs.size := Heap.lt_size hol
        have hh3 : A.in1.in1.in1.handled = none := by simp [hh]
        have hz1 : (s.heap.push { cls := .type "set", dict := none, data := .set #[] 0 (.fresh 0 0 (!w.params.followText "set-order")) }).objs.size = s.heap.objs.size + 1 := Heap.size_push ..
        have hneI : l ≠ (s.heap.push { cls := .type "set", dict := none, data := .set #[] 0 (.fresh 0 0 (!w.params.followText "set-order")) }).objs.size := by
          rw [Heap.size_push]; exact Nat.ne_of_lt (Nat.lt_succ_of_lt hlS)
        have hSf : s.heap.objs.size ∉ [(s.heap.push { cls := .type "set", dict := none, data := .set #[] 0 (.fresh 0 0 (!w.params.followText "set-order")) }).objs.size, l] := by
          rw [Heap.size_push]; simp only [List.mem_cons, List.mem_singleton, List.not_mem_nil, or_false, not_or]
          exact ⟨Nat.ne_of_lt (Nat.lt_succ_self _), Nat.ne_of_gt hlS⟩
        have hval : ∀ (i : Nat) (v : Value), items[i]? = some v → ∃ k t, ks[i]? = some k ∧ v = .str k t := fun i v hv => strs_atS hit i v (by rw [Array.getElem?_toList]; exact hv)
        refine set_update_strs ((Walks.list hh3 _ l hneI items).toS) s.heap.objs.size hSf ks hisz hfew hval (items.size - 0) 0 _ (by omega) (Nat.zero_le _)
          ⟨⟨_, Heap.get?_push_size _ rfl, rfl, rfl⟩, (hl1.push _)⟩ 0 (Nat.le_refl _) ?hS0 ?hR
        case hS0 =>
          have hget : ((s.heap.push { cls := .type "set", dict := none, data := .set #[] 0 (.fresh 0 0 (!w.params.followText "set-order")) }).push { cls := .type "list_iterator", data := .fields #[.ref l, .int 0 0] }).get? s.heap.objs.size
              = some { cls := .type "set", dict := none, data := .set #[] 0 (.fresh 0 0 (!w.params.followText "set-order")) } := Heap.get?_push_of_some _ hS
          exact setRS_fresh hget
        case hR =>
          intro s' n' hm hn' hS'
          obtain ⟨h', g2, d', tk', os'⟩ := s'
          have eg : g2 = s.gens := hm.gens
          have ed : d' = s.drawn := hm.drawn
          have eo : os' = s.os := hm.os
          subst eg; subst ed; subst eo
          show wpAny _ _ _ _ _ _
          refine wpAny_pure ?_
          show wpAny _ _ (ret Value.none) _ _ _
          refine wpAny_pure ⟨rfl, h', tk', n', rfl, hS', by omega, fun b o e => ?_⟩
          have hb := Heap.lt_size e
          have hb1 : b ≠ s.heap.objs.size := Nat.ne_of_lt hb
          have hb2 : b ≠ (s.heap.push { cls := .type "set", dict := none, data := .set #[] 0 (.fresh 0 0 (!w.params.followText "set-order")) }).objs.size := by
            rw [Heap.size_push]; exact Nat.ne_of_lt (Nat.lt_succ_of_lt hb)
          exact hm.heap b o (by simp only [List.mem_cons, List.mem_singleton, List.not_mem_nil, or_false, not_or]; exact ⟨hb1, hb2⟩) (Heap.get?_push_of_some _ (Heap.get?_push_of_some _ e))

      · cases r₂ with
        | error e => exact hr₂
        | ok fl₂ =>
          cases fl₂ with
          | ret r =>
            obtain ⟨rfl, h', tk, n', rfl, hS', hn', hk'⟩ := hr₂
            repeat (any_goals (first | assumption | wp_step))
            exact h _ _ _ hS' hn' hk'
          | _ => exact hr₂.elim
    | _ => exact hr.elim

/-- sorted(set) -/
theorem sorted_setS {Q : Value → Shared → Prop} (R : SetRS P w s.heap a S n) (hh : A.handled = none) (h64 : n < 64)
    (hQ : ∀ s' p (out : Array Value) (c : Nat) (ys : List Str), (∀ b o, s.heap.get? b = some o → s'.heap.get? b = some o) → s'.gens = s.gens → s'.os = s.os → s.heap.objs.size ≤ p →
      s'.heap.get? p = some (seqObj "list" out c) → StrsAre out.toList ys → sortedS ys = true → ys.Nodup → (∀ k, k ∈ ys ↔ S k = true) → ys.length = n → Q (.ref p) s') :
    wpAny (model P w) A (call (.builtin "sorted") [.ref a]) Q E s := by
  obtain ⟨o, es, ep, t, ho, hex, hd, g, nd, hm, hb, hf, hn, hr, hl⟩ := R
  refine Calls.call_function_entry kind_sorted plain_sorted entry_sorted (args_sorted1 _) ?_
  unfold Builtin.«sorted»
  refine wpAny_bind (m := checkCount "sorted" 1 1 _) (wpAny_pure ?_)
  refine wpAny_bind (collect_set (A := A.in1) hh ⟨o, ho, hex.1, hd⟩ hf hb hr hl fun s1 vs k1 hz g1 o1 pm => ?_)
  have hvl : vs.length = n := by rw [pm.length_eq, List.length_map, Array.length_toList]; exact hn
  have hI : StrsAre vs (vs.map strOf) := strsAre_map vs fun v hv => by
    obtain ⟨e, he, q⟩ := List.mem_map.mp (pm.mem_iff.mp hv)
    obtain ⟨k, tk, h1, _⟩ := g e he
    exact ⟨k, tk, by rw [← q]; exact h1⟩
  have pk : (vs.map strOf).Perm (es.toList.map keyS) := by
    have q := pm.map strOf
    rw [List.map_map] at q
    exact q
  refine wpAny_bind (wpAny_newList ?_ (by rw [hvl, sizeLine_eq]; omega))
  have hoL : (s1.heap.push (seqObj "list" vs.toArray 0)).get? s1.heap.objs.size = some (seqObj "list" vs.toArray 0) := Heap.get?_push_size _ rfl
  refine wpAny_bind (wpAny_holding (wpAny_call_entry slot_list_sort ⟨_, hoL, rfl⟩ entry_list_sort (list_sort_treeK strKind_oneLt hoL hI.keysOf (fun v₁ v₂ rest e => keyKind_strs (by rw [← e]; exact hI)) (by rw [hvl]; exact h64) fun st' hp hs => ⟨_, rfl, ?_⟩) (args_list_sort _)))
  obtain ⟨ys, a1, a2, a3⟩ := sorted_out_str hI hp hs
  obtain ⟨c, hc⟩ := sortedHeap_at (vs := vs) (out := (arrOf st').map (·.2)) hoL
  have pn : ys.Perm (es.toList.map keyS) := a2.trans pk
  refine wpAny_pure ⟨_, rfl, hQ _ s1.heap.objs.size _ c ys (fun b u e => ?_) g1 o1 hz hc a1 a3 (pn.nodup_iff.mpr nd) (fun k => by rw [pn.mem_iff, ← hm k]) (by rw [pn.length_eq, List.length_map, Array.length_toList]; exact hn)⟩
  have q := k1 b u e
  have hlt := Heap.lt_size q
  show (sortedHeap (s1.heap.push (seqObj "list" vs.toArray 0)) s1.heap.objs.size vs _).get? b = some u
  rw [sortedHeap_old (Nat.ne_of_lt hlt) (by rw [size_push']; exact Nat.lt_succ_of_lt hlt)]
  exact Heap.get?_push_of_some _ q
end
/-! ### the rules -/
def SetSO (P : Program) (w : World) (a : Addr) (S : Str → Bool) (n : Nat) : HO := .ext fun h => SetRS P w h a S n
section
variable {X : Cx} {P : Program} {w : World} {K : PySem.W.Frag}
theorem setSO_new {H : Hp} {h : Heap} {a : Addr} {S : Str → Bool} {n : Nat} (R : SetRS P w h a S n) : ObjOk P w H h a (SetSO P w a S n) := by
  obtain ⟨o, es, ep, t, ho, r⟩ := id R
  exact ⟨R, ⟨o, ho⟩, fun h1 h2 p k => SetRS.at p k⟩
/-- set(xs), xs a list of texts -/
def rSetOfS (K : PySem.W.Frag) (P : Program) (w : World) : List V → Hp → VK → Prop := fun xs H Q => ∃ (l : Addr) (ks : List Str), xs = [V.ref l] ∧ SqL K H l (ks.map V.str) ∧ ks.length < 64 ∧
  ∀ a n, H a = none → n < 64 → Q (.ref a) (upd H a (SetSO P w a (fun k => decide (k ∈ ks)) n))
theorem cr_setOfS (hK : X.K = K) (hP : X.prog = P) (hw : X.w = w) (hc : X.calm = true) : CallR X (.type "set") (rSetOfS K P w) := by
  subst hK hP hw
  intro pins s σ H xs us Q I r h
  obtain ⟨l, ks, rfl, hl, hf, q⟩ := h
  rw [Vals.ref1 r]
  obtain ⟨its, rv, pl, hz⟩ := I.list hl
  have hn : H s.heap.objs.size = none := I.hok.fresh (Nat.le_refl _)
  refine call_set_strs (P := X.prog) (w := X.w) ks (I.ok.hd hc) pl.isList (by simpa using rv.strs) hf fun h' tk n R g k => ?_
  exact ⟨.ref s.heap.objs.size, upd H s.heap.objs.size (SetSO X.prog X.w s.heap.objs.size _ n), I.laid (t' := tk) k (Nat.le_refl _) (setSO_new R), rfl, q _ n hn (by omega)⟩
/-- sorted(set), a set of texts -/
def rSortedSetS (P : Program) (w : World) : List V → Hp → VK → Prop := fun vs H Q => ∃ (a : Addr) (S : Str → Bool) (n : Nat), vs = [V.ref a] ∧ H a = some (SetSO P w a S n) ∧ n < 64 ∧
  ∀ (ys : List Str) (p : Addr), sortedS ys = true → ys.Nodup → (∀ k, k ∈ ys ↔ S k = true) → H p = none → Q (.ref p) (upd H p (.lst (ys.map V.str)))
theorem cr_sortedSetS (hP : X.prog = P) (hw : X.w = w) (hc : X.calm = true) : CallR X (.builtin "sorted") (rSortedSetS P w) := by
  subst hP hw
  intro pins s σ H vs us Q I r h
  obtain ⟨a, S, n, rfl, ha, h64, q⟩ := h
  have R : SetRS X.prog X.w s.heap a S n := (I.hok a _ ha).1
  rw [Vals.ref1 r]
  refine sorted_setS R (I.ok.hd hc) h64 fun s' p out c ys k g' o' hp hg hi hs hnd hmm hys => ?_
  have hlen : (ys.map V.str).length ≤ sizeLine := by rw [List.length_map, sizeLine_eq]; omega
  have hn : H p = none := I.hok.fresh hp
  have J : Inv X pins σ (upd H p (.lst (ys.map V.str))) { s with heap := s'.heap, gens := s'.gens, drawn := s'.drawn, toks := s'.toks } :=
    I.call (ch := []) (Un.laid k hp hn) (I.hok.laid k hp ⟨hlen, out.toList, c, vals_of_strs hi, hg⟩) (by rw [g']; exact I.bare) (fun _ z => nomatch z)
  have e : s' = { s with heap := s'.heap, gens := s'.gens, drawn := s'.drawn, toks := s'.toks } := by
    cases s'
    cases s
    cases o'
    rfl
  rw [e]
  exact ⟨.ref p, _, J, rfl, q ys p hs hnd hmm hn⟩
/-- min(xs), xs a list of one text -/
def rMinS1 (K : PySem.W.Frag) : List V → Hp → VK → Prop := fun vs H Q => ∃ (a : Addr) (x : Str), vs = [.ref a] ∧ SqL K H a [.str x] ∧ Q (.str x) H
theorem cr_minS1 (hK : X.K = K) (hc : X.calm = true) (hu : X.A.units + 64 < cLine) : CallR X (.builtin "min") (rMinS1 K) := by
  subst hK
  intro pins s σ H vs us Q I r h
  obtain ⟨a, x, rfl, hs, q⟩ := h
  obtain ⟨its, rv, hl, _⟩ := I.list hs
  rw [Vals.ref1 r]
  obtain ⟨u, rfl, t, rfl⟩ := vals1 rv
  refine PySem.W.min_list_data (x := .str x) (xs := []) (as := []) (I.ok.hd hc) hl.isList (.cons (.str x t) .nil) ⟨fun a ha b hb => ?_, fun a ha => ?_⟩ ?_ fun i v h' tk bs hv hr k => ⟨.str x, H, I.kept k, ?_, q⟩
  · rw [List.mem_singleton.mp ha, List.mem_singleton.mp hb]; rfl
  · rw [List.mem_singleton.mp ha]; intro z; cases z
  · show X.A.units + 1 + _ < _
    simp only [PyData.depthAll, PyData.depth]
    omega
  · match i, hv with
    | 0, hv => cases hv; exact ⟨_, rfl⟩
end
end SetS

set_option Elab.async false
set_option linter.all false
set_option maxRecDepth 100000
set_option maxHeartbeats 4000000
/-! list(zip(xs, ys)) of two lists. -/
namespace PySem.F
theorem zip_no_len : typeLookup (.type "zip") "__len__" = pure none := by rw [typeLookup_type, builtinLookup_eq_fast]; kernel_rfl
theorem zip_no_hint : typeLookup (.type "zip") "__length_hint__" = pure none := by rw [typeLookup_type, builtinLookup_eq_fast]; kernel_rfl
end PySem.F
namespace Hk
open PySem PySem.Spec PyProof.Rows L2 PySem.W PySem.Calls
def pr2 (q : V × V) : List V := [q.1, q.2]
section
variable {X : Cx} {pins : List (Addr × Obj)} {σ : L2.St} {z TI TO i1 i2 a b q : Addr} {xs ys : List V} {H1 : Hp} {A1 : Around}
/-- what is known of the zip, between the draws -/
structure ZS (X : Cx) (pins : List (Addr × Obj)) (H : Hp) (h : Heap) (z TI TO i1 i2 a b : Addr) (i : Nat) : Prop where
  zz : (IsZip h z TI TO .none ∧ ∃ x y, IsPair h TO x y) ∨ ∃ T f u, IsZipHeld h z TI TO T f ∧ H T = some (.tup u)
  ti : IsPair h TI (.ref i1) (.ref i2)
  h1 : h.IsListIter i1 a i
  h2 : h.IsListIter i2 b i
  fp : ∀ c ∈ [z, TI, TO, i1, i2], FpOk X pins H c
  lt : ∀ c ∈ [z, TI, TO, i1, i2], c < h.objs.size
theorem fp_up {H : Hp} {c T : Addr} {o : HO} (f : FpOk X pins H c) (n : c ≠ T) : FpOk X pins (upd H T o) c := ⟨by rw [upd_ne n]; exact f.1, f.2⟩
theorem zl_loop {Rs : Result → Shared → Prop} (D : ZipApart z TI TO i1 i2 a b) (hd : A1.in1.handled = none) (hxs : SqL X.K H1 a xs) (hys : SqL X.K H1 b ys) (hle : (xs.zip ys).length < sizeLine)
    (hdone : ∀ ts H s, Inv X pins σ H s → Same H1 H → H q = some (.lst (ts.map V.ref)) → TupsAt H ts ((xs.zip ys).map pr2) → Rs (.ok (.ret .none)) s) :
    ∀ (m i : Nat) (ts : List Addr) (H : Hp) (s : Shared), i + m = (xs.zip ys).length → Inv X pins σ H s → ZS X pins H s.heap z TI TO i1 i2 a b i → Same H1 H → H1 q = none → H q = some (.lst (ts.map V.ref)) → TupsAt H ts (((xs.zip ys).take i).map pr2) →
      codeAny (model X.prog X.w) A1 (.builtin "list.extend.loop" ⟨[.ref q, .ref z, .none], []⟩) Rs s := by
  intro m
  induction m with
  | zero =>
    intro i ts H s hi I Z sH hq0 hq hts
    refine codeAny_builtin PySem.F.entry_extend_loop ?_
    rw [Around.under_plainId PySem.F.plain_extend_loop _]
    show wpAny _ A1.in1 (pyNext (.ref z) >>= _) _ _ s
    obtain ⟨its, rv, p, _⟩ := I.list (sH.seq hxs)
    obtain ⟨its2, rv2, p2, _⟩ := I.list (sH.seq hys)
    have l1 := rv.length
    have l2 := rv2.length
    have hz : (xs.zip ys).length = min xs.length ys.length := List.length_zip
    have he : its.toArray[i]? = none ∨ its2.toArray[i]? = none := by
      by_cases hc : xs.length ≤ ys.length
      · exact .inl (by simp; omega)
      · exact .inr (by simp; omega)
    have hts' : TupsAt H ts ((xs.zip ys).map pr2) := by
      rw [List.take_of_length_le (by omega)] at hts; exact hts
    refine wpAny_bind ?_
    rcases Z.zz with ⟨hz, x0, y0, hTO⟩ | ⟨T, f, u, hz, hT⟩
    · exact wpAny_pyNext_zip_end hd D hz Z.ti hTO Z.h1 Z.h2 p.isList p2.isList he fun h' hk => wpAny_pure (hdone ts H _ (I.turnedL (t' := s.toks) (ch := [z, TI, TO, i1, i2]) (fun c o hb e =>
        hk c o (fun q' => hb (by simp [q'])) (fun q' => hb (by simp [q'])) (fun q' => hb (by simp [q'])) (fun q' => hb (by simp [q'])) e) Z.fp) sH hq hts')
    · obtain ⟨_, _, _, oT, hoT, _⟩ := I.hok T _ hT
      exact wpAny_pyNext_zip_end_held hd D hz hoT Z.ti Z.h1 Z.h2 p.isList p2.isList he fun h' hk => wpAny_pure (hdone ts H _ (I.turnedL (t' := s.toks) (ch := [z, TI, TO, i1, i2]) (fun c o hb e =>
        hk c o (fun q' => hb (by simp [q'])) (fun q' => hb (by simp [q'])) (fun q' => hb (by simp [q'])) e) Z.fp) sH hq hts')
  | succ m ih =>
    intro i ts H s hi I Z sH hq0 hq hts
    refine codeAny_builtin PySem.F.entry_extend_loop ?_
    rw [Around.under_plainId PySem.F.plain_extend_loop _]
    show wpAny _ A1.in1 (pyNext (.ref z) >>= _) _ _ s
    have hsx := sH.seq hxs
    have hsy := sH.seq hys
    obtain ⟨its, rv, p, _⟩ := I.list hsx
    obtain ⟨its2, rv2, p2, _⟩ := I.list hsy
    have hlt : i < (xs.zip ys).length := by omega
    have hpq : (xs.zip ys)[i]? = some (xs.zip ys)[i] := List.getElem?_eq_getElem hlt
    obtain ⟨hx, hy⟩ := List.getElem?_zip_eq_some.mp hpq
    obtain ⟨u, hu, ru⟩ := rv.get hx
    obtain ⟨u2, hu2, ru2⟩ := rv2.get hy
    have nT : H s.heap.objs.size = none := I.hok.fresh (Nat.le_refl _)
    have nqT : q ≠ s.heap.objs.size := ne_of_none hq nT
    have tl : ts.length = i := by
      have := hts.len
      rw [List.length_map, List.length_take] at this
      omega
    /- behind the draw -/
    have fin : ∀ (h' : Heap), IsPair h' s.heap.objs.size u u2 → (∀ c o, c ∉ [z, TI, TO, i1, i2] → s.heap.get? c = some o → h'.get? c = some o) → (∃ T f w, IsZipHeld h' z TI TO T f ∧ (T = s.heap.objs.size ∨ H T = some (.tup w))) → IsPair h' TI (.ref i1) (.ref i2) → h'.IsListIter i1 a (i + 1) → h'.IsListIter i2 b (i + 1) → h'.objs.size = s.heap.objs.size + 1 →
        wpAny (model X.prog X.w) A1.in1 (updateSeq q (·.push (Value.ref s.heap.objs.size)) >>= fun _ => again (.builtin "list.extend.loop" ⟨[.ref q, .ref z, .none], []⟩))
          (fun fin s' => match fin with | .done f => Rs (.ok f) s' | .again c' => c'.quiet = true ∧ codeAny (model X.prog X.w) A1 c' Rs s') (fun e s' => Rs (.error e) s') { s with heap := h' } := by
      intro h' hp' hk hzz hti hh1 hh2 hsz
      have new : ObjOk X.prog X.w (upd H s.heap.objs.size (.tup (pr2 (xs.zip ys)[i]))) h' s.heap.objs.size (.tup (pr2 (xs.zip ys)[i])) :=
        ⟨by show 2 ≤ sizeLine; decide, [u, u2], .cons ru (.cons ru2 .nil), ⟨_, hp', rfl, _, rfl⟩⟩
      have I1 : Inv X pins σ (upd H s.heap.objs.size (.tup (pr2 (xs.zip ys)[i]))) { s with heap := h' } := I.turnedNew (t' := s.toks) (ch := [z, TI, TO, i1, i2]) hk Z.fp (Nat.le_refl _) new
      have hq1 : upd H s.heap.objs.size (.tup (pr2 (xs.zip ys)[i])) q = some (.lst (ts.map V.ref)) := by rw [upd_ne nqT]; exact hq
      obtain ⟨zz, its3, k3, r3, hl3, e3⟩ := I1.lstM hq1
      have hl4 : its3.length = i := by rw [← hl3, List.length_map, tl]
      refine wpAny_bind (wpAny_updateSeq e3 rfl (wpAny_pure ⟨plainId_quiet PySem.F.plain_extend_loop _, ?_⟩) (by rw [List.size_toArray]; omega) (by show (its3.toArray.push _).size ≤ sizeLine + 1; rw [Array.size_push, List.size_toArray]; omega))
      have I2 := I1.lset (f := (·.push (Value.ref s.heap.objs.size))) (its' := its3 ++ [Value.ref s.heap.objs.size]) (ys := ts.map V.ref ++ [V.ref s.heap.objs.size]) (t' := s.toks) hq1 e3 (by simp) (r3.append (.cons rfl .nil)) (by rw [List.length_append, List.length_map, List.length_singleton]; omega)
      have ztl : ∀ c ∈ [z, TI, TO, i1, i2], c ≠ s.heap.objs.size ∧ c ≠ q := fun c hc => ⟨Nat.ne_of_lt (Z.lt c hc), fun e => by rw [← e, (Z.fp c hc).1] at hq; cases hq⟩
      have kq : ∀ c o, c ≠ q → h'.get? c = some o → (h'.update q (Obj.mapSeq (·.push (Value.ref s.heap.objs.size)))).get? c = some o := fun c o hc e => (Heap.get?_update_other h' _ (Ne.symm hc)).trans e
      have eqT : ts.map V.ref ++ [V.ref s.heap.objs.size] = (ts ++ [s.heap.objs.size]).map V.ref := by rw [List.map_append]; rfl
      rw [eqT] at I2
      have sH2 : Same H1 (upd (upd H s.heap.objs.size (.tup (pr2 (xs.zip ys)[i]))) q (.lst ((ts ++ [s.heap.objs.size]).map V.ref))) := same_put (same_put sH (sH.free nT)) hq0
      refine ih (i + 1) (ts ++ [s.heap.objs.size]) _ _ (by omega) I2 ?_ sH2 hq0 upd_same ?_
      · refine ⟨.inr ?_, ?_, hh1.at fun o e => kq _ o (ztl _ (by simp)).2 e, hh2.at fun o e => kq _ o (ztl _ (by simp)).2 e, fun c hc => fp_up (fp_up (Z.fp c hc) (ztl c hc).1) (ztl c hc).2, fun c hc => ?_⟩
        · obtain ⟨T, f, w, e1, e2⟩ := hzz
          rcases e2 with e2 | e2
          · refine ⟨T, f, pr2 (xs.zip ys)[i], kq _ _ (ztl z (by simp)).2 e1, ?_⟩
            rw [e2, upd_ne nqT.symm]; exact upd_same
          · refine ⟨T, f, w, kq _ _ (ztl z (by simp)).2 e1, ?_⟩
            have n1 : T ≠ s.heap.objs.size := ne_of_none e2 nT
            have n2 : T ≠ q := ne_of e2 hq (fun z => by cases z)
            rw [upd_ne n2, upd_ne n1]; exact e2
        · exact kq _ _ (ztl TI (by simp)).2 hti
        · show c < (h'.update q _).objs.size
          rw [Heap.size_update, hsz]
          exact Nat.lt_succ_of_lt (Z.lt c hc)
      · have et : ((xs.zip ys).take (i + 1)).map pr2 = ((xs.zip ys).take i).map pr2 ++ [pr2 (xs.zip ys)[i]] := by rw [List.take_add_one, hpq, List.map_append]; rfl
        have hn : upd (upd H s.heap.objs.size (.tup (pr2 (xs.zip ys)[i]))) q (.lst ((ts ++ [s.heap.objs.size]).map V.ref)) s.heap.objs.size = some (.tup (pr2 (xs.zip ys)[i])) := by rw [upd_ne nqT.symm]; exact upd_same
        rw [et]
        refine TupsAt.snoc hn (hts.mono fun t x e => ?_)
        have n1 : t ≠ s.heap.objs.size := ne_of_none e nT
        have n2 : t ≠ q := ne_of e hq (fun z => by cases z)
        rw [upd_ne n2, upd_ne n1]; exact e
    refine wpAny_bind ?_
    rcases Z.zz with ⟨hz, x0, y0, hTO⟩ | ⟨T, f, w, hz, hT⟩
    · refine wpAny_pyNext_zip_item D hz Z.ti hTO Z.h1 Z.h2 p.isList p2.isList (x := u) (y := u2) (by simpa using hu) (by simpa using hu2) fun h' z' TO' h1' h2' hT' hsz hk => ?_
      exact fin h' hT' (fun c o hb e => hk c o (fun q' => hb (by simp [q'])) (fun q' => hb (by simp [q'])) (fun q' => hb (by simp [q'])) (fun q' => hb (by simp [q'])) e) ⟨s.heap.objs.size, false, [], z', .inl rfl⟩ (hk _ _ D.TIz D.TITO D.TIi1 D.TIi2 Z.ti) h1' h2' hsz
    · obtain ⟨_, _, _, oT, hoT, _⟩ := I.hok T _ hT
      refine wpAny_pyNext_zip_item_held D hz hoT Z.ti Z.h1 Z.h2 p.isList p2.isList (x := u) (y := u2) (by simpa using hu) (by simpa using hu2) fun h' z' h1' h2' hT' hsz hk => ?_
      exact fin h' hT' (fun c o hb e => hk c o (fun q' => hb (by simp [q'])) (fun q' => hb (by simp [q'])) (fun q' => hb (by simp [q'])) e) ⟨T, true, w, z', .inr hT⟩ (hk _ _ D.TIz D.TIi1 D.TIi2 Z.ti) h1' h2' hsz
/-- list(z), z a zip just made -/
theorem zl_list {Q : VK} {H : Hp} {s : Shared} (hc : X.calm = true) (D : ZipApart z TI TO i1 i2 a b) (I : Inv X pins σ H s) (Z : ZS X pins H s.heap z TI TO i1 i2 a b 0) (hz0 : IsZip s.heap z TI TO .none) (hxs : SqL X.K H a xs) (hys : SqL X.K H b ys) (hle : (xs.zip ys).length < sizeLine)
    (h : ∀ q ts H', H q = none → Same H H' → H' q = some (.lst (ts.map V.ref)) → TupsAt H' ts ((xs.zip ys).map pr2) → Q (.ref q) H') :
    wpAny (model X.prog X.w) X.A (call (.type "list") [.ref z]) (EP X pins σ Q) X.xe s := by
  have hd0 : X.A.handled = none := I.ok.hd hc
  refine callType_codes (Q₁ := fun obj s₁ => obj = .ref s.heap.objs.size ∧ s₁ = { s with heap := s.heap.push { cls := .type "list", data := .seq #[] } }) PySem.F.called_list (PySem.F.typeCall_list_1 _) PySem.F.entry_list_init
    (code_list_new _ ⟨rfl, rfl⟩) fun obj s₁ h₁ => ?_
  obtain ⟨rfl, rfl⟩ := h₁
  have hS : (s.heap.push { cls := .type "list", data := .seq #[] }).get? s.heap.objs.size = some { cls := .type "list", data := .seq #[] } := Heap.get?_push_size _ rfl
  refine ⟨⟨_, hS, rfl⟩, PySem.F.args_list_init_2 _ _, ?_⟩
  have fr : H s.heap.objs.size = none := I.hok.fresh (Nat.le_refl _)
  have I1 : Inv X pins σ (upd H s.heap.objs.size (.lst [])) { s with heap := s.heap.push { cls := .type "list", data := .seq #[] } } := I.lnew (its := []) (t' := s.toks) .nil (Nat.zero_le _)
  show wpAny _ _ (do let old ← Builtin.List.listItems (.ref s.heap.objs.size); Builtin.List.listUpdate (.ref s.heap.objs.size) (fun _ => #[]); letGo old.toList.reverse; Builtin.List.listExtendWith (.ref s.heap.objs.size) (.ref z) .none) _ _ _
  refine wpAny_bind ?_
  unfold Builtin.List.listItems
  refine wpAny_bind (wpAny_seqItems hS rfl (wpAny_pure ?_))
  show wpAny _ _ (updateSeq s.heap.objs.size (fun _ => #[]) >>= fun _ => letGo (#[] : Array Value).toList.reverse >>= fun _ => Builtin.List.listExtendWith (.ref s.heap.objs.size) (.ref z) .none) _ _ _
  refine wpAny_bind (wpAny_updateSeq hS rfl ?_)
  have I2 := I1.lset (f := fun _ => #[]) (its := []) (its' := []) (ys := []) (t' := s.toks) upd_same hS rfl .nil (Nat.zero_le _)
  rw [upd_upd] at I2
  refine wpAny_bind (wpAny_letGo ?_)
  have nzS : s.heap.objs.size ≠ z := Nat.ne_of_gt (Z.lt z (by simp))
  have nS : ∀ c ∈ [z, TI, TO, i1, i2], c ≠ s.heap.objs.size := fun c hc => Nat.ne_of_lt (Z.lt c hc)
  have sH : Same H (upd H s.heap.objs.size (.lst [])) := same_put (Same.refl _) fr
  generalize hs2 : ({ s with heap := (s.heap.push { cls := .type "list", data := .seq #[] }).update s.heap.objs.size (Obj.mapSeq fun _ => (#[] : Array Value)) } : Shared) = s2
  have kz : ∀ c o, c ≠ s.heap.objs.size → s.heap.get? c = some o → s2.heap.get? c = some o := fun c o hc e => by
    rw [← hs2]
    exact (Heap.get?_update_other _ _ (Ne.symm hc)).trans (Heap.get?_push_of_some _ e)
  have I2' : Inv X pins σ (upd H s.heap.objs.size (.lst [])) s2 := by rw [← hs2]; exact I2
  have sz2 : s2.heap.objs.size = s.heap.objs.size + 1 := by rw [← hs2]; show (Heap.update _ _ _).objs.size = _; rw [Heap.size_update, Heap.size_push]
  have hz2 : IsZip s2.heap z TI TO .none := kz _ _ (nS z (by simp)) hz0
  have hTy : s2.TypeIs (.ref z) "zip" := ⟨_, hz2, rfl⟩
  clear hs2 I2 I1
  unfold Builtin.List.listExtendWith
  refine wpAny_bind (wpAny_typeOf hTy ?_)
  have h1 : Builtin.List.listSameRef (.ref s.heap.objs.size) (.ref z) = false := by simp [Builtin.List.listSameRef, nzS]
  have h2 : (Value.type "zip" == Value.type "list") = false := by decide
  have h3 : (Value.type "zip" == Value.type "tuple") = false := by decide
  simp only [h1, h2, h3, Bool.or_false, Bool.false_eq_true, if_false]
  refine wpAny_bind (wpAny_pyIter_zip hz2 ?_)
  refine wpAny_bind (wpAny_holding ?_)
  unfold Builtin.List.listLengthHint
  refine wpAny_bind (wpAny_specialOf hTy PySem.F.zip_no_len ?_)
  show wpAny _ _ (specialOf (Value.ref z) (Str.ofString "__length_hint__") >>= _) _ _ _
  refine wpAny_bind (wpAny_specialOf hTy PySem.F.zip_no_hint ?_)
  refine wpAny_pure ?_
  show wpAny _ _ (rule "list.extend.makes-room" >>= fun _ => Builtin.List.listTouch (.ref s.heap.objs.size) >>= fun _ =>
    again (.builtin "list.extend.loop" ⟨[.ref s.heap.objs.size, .ref z, .none], []⟩)) _ _ _
  refine wpAny_bind (wpAny_rule ?_)
  refine wpAny_bind ?_
  show wpAny _ _ (updateSeq s.heap.objs.size (·.push .none) >>= fun _ => updateSeq s.heap.objs.size (·.pop)) _ _ _
  obtain ⟨z3, its3, k3, r3, hl3, e3⟩ := I2'.lstM upd_same
  cases r3
  refine wpAny_bind (wpAny_updateSeq e3 rfl ?_)
  have I3 := I2'.lset (f := (·.push Value.none)) (its' := [Value.none]) (ys := [.non]) (t' := s2.toks) upd_same e3 (by simp) (.cons rfl .nil) (by rw [List.length_singleton, sizeLine_eq]; decide)
  rw [upd_upd] at I3
  obtain ⟨z4, its4, k4, r4, hl4, e4⟩ := I3.lstM upd_same
  obtain ⟨u4, rfl, ru4⟩ := r4.one
  refine wpAny_updateSeq e4 rfl ?_ (by show 1 ≤ sizeLine; rw [sizeLine_eq]; decide) (by show 0 ≤ sizeLine + 1; exact Nat.zero_le _)
  have I4 := I3.lset (f := (·.pop)) (its := [u4]) (its' := []) (ys := []) (t' := s2.toks) upd_same e4 (by rfl) .nil (Nat.zero_le _)
  rw [upd_upd] at I4
  have kz2 : ∀ c o, c ≠ s.heap.objs.size → s.heap.get? c = some o → ((s2.heap.update s.heap.objs.size (Obj.mapSeq (·.push Value.none))).update s.heap.objs.size (Obj.mapSeq (·.pop))).get? c = some o := fun c o hc e =>
    (Heap.get?_update_other _ _ (Ne.symm hc)).trans ((Heap.get?_update_other _ _ (Ne.symm hc)).trans (kz c o hc e))
  have hTO : ∃ x y, IsPair s.heap TO x y := by
    rcases Z.zz with ⟨_, h⟩ | ⟨T, f, u, h1, _⟩
    · exact h
    · have e := (show s.heap.get? z = _ from hz0).symm.trans (show s.heap.get? z = _ from h1)
      simp [rawInt] at e
  obtain ⟨x0, y0, hTO⟩ := hTO
  refine wpAny_pure ⟨plainId_quiet PySem.F.plain_extend_loop _, ?_⟩
  refine zl_loop (A1 := X.A.in1) (q := s.heap.objs.size) (H1 := H) (xs := xs) (ys := ys) D hd0 hxs hys hle (fun ts H' s' I' sH' hq' ht' => ⟨rfl, .ref s.heap.objs.size, H', I', rfl, h _ ts H' fr sH' hq' ht'⟩) (xs.zip ys).length 0 [] _ _ (Nat.zero_add _) I4 ?_ sH fr upd_same trivial
  refine ⟨.inl ⟨kz2 _ _ (nS z (by simp)) hz0, x0, y0, kz2 _ _ (nS TO (by simp)) hTO⟩, kz2 _ _ (nS TI (by simp)) Z.ti, Z.h1.at fun o e => kz2 _ o (nS i1 (by simp)) e, Z.h2.at fun o e => kz2 _ o (nS i2 (by simp)) e, fun c hc => fp_up (Z.fp c hc) (nS c hc), fun c hc => ?_⟩
  show c < (Heap.update _ _ _).objs.size
  rw [Heap.size_update, Heap.size_update, sz2]
  exact Nat.lt_succ_of_lt (Z.lt c hc)
end
/-- list(zip(e, e2)) -/
def tListZip (K : PySem.W.Frag) (ta : TA) : TE := fun σ H Q => ta σ H fun vs H1 => ∃ a b xs ys, vs = [.ref a, .ref b] ∧ SqL K H1 a xs ∧ SqL K H1 b ys ∧ (xs.zip ys).length < sizeLine ∧
  ∀ q ts H', H1 q = none → Same H1 H' → H' q = some (.lst (ts.map V.ref)) → TupsAt H' ts ((xs.zip ys).map pr2) → Q (.ref q) H'
theorem pe_listZip {X : Cx} {K : PySem.W.Frag} {e e2 : Expr} {ta : TA} {p pos p' pos' : Pos} (hK : X.K = K) (hc : X.calm = true) (hgl : Gl X "list") (hml : X.mg "list" = none) (hg : Gl X "zip") (hm : X.mg "zip" = none) (ha : PA X [e, e2] ta)
    (hs : starEach [e, e2] X.env = (false, eval e X.env) :: starEach [e2] X.env := by rfl) (hpl : (backTo pos (starEach [e2] X.env)).any (·.1) = false := by rfl)
    (hs2 : starEach [.Call (.Name "zip" p) [e, e2] [] pos] X.env = [(false, eval (.Call (.Name "zip" p) [e, e2] [] pos) X.env)] := by rfl) :
    PE X (.Call (.Name "list" p') [.Call (.Name "zip" p) [e, e2] [] pos] [] pos') (tListZip K ta) := by
  subst hK
  refine ⟨fun pins s σ H Q I h => ?_⟩
  have hbl : bootBuiltins (Str.ofString "list") = some (.type "list") := by decide +kernel
  refine wpAny_Call_Name_kw (ld_blt I hgl hml hbl (PyProof.Rows.callWith_type1 (rest := []) ?_ hs2 rfl))
  rw [hs2]
  show wpAny _ _ (spliced [(false, eval (.Call (.Name "zip" p) [e, e2] [] pos) X.env)]) _ _ _
  refine spliced_cons ?_
  refine Call_ (ld_blt I hg hm PyProof.Rows.boot_zip (PyProof.Rows.callWith_type1 (thn (ha.run pos pins s σ H _ I h) fun us s1 ⟨vs, H1, I1, r1, q1⟩ => ?_) hs hpl))
  obtain ⟨a, b, xs, ys, ex, hqx, hqy, hle, q⟩ := q1
  subst ex
  cases r1 with
  | cons r rr =>
    cases rr with
    | cons r' rr =>
      cases rr
      cases r
      cases r'
      obtain ⟨its, rv, p1, _⟩ := I1.list hqx
      obtain ⟨its2, rv2, p2, _⟩ := I1.list hqy
      have la : a < s1.heap.objs.size := p1.lt
      have lb : b < s1.heap.objs.size := p2.lt
      refine call_zip_2 p1.isList p2.isList fun h' hz hTI hTO h1 h2 hsz hk => ?_
      have I2 : Inv X pins σ H1 { s1 with heap := h' } := I1.kept (t' := s1.toks) hk
      refine spliced_nil ?_
      refine zl_list (z := s1.heap.objs.size + 4) (TI := s1.heap.objs.size + 2) (TO := s1.heap.objs.size + 3) (i1 := s1.heap.objs.size) (i2 := s1.heap.objs.size + 1) hc (PySem.W.ktu_apart s1.heap.objs.size a b la lb) I2 ⟨.inl ⟨hz, _, _, hTO⟩, hTI, h1, h2, fun c hcm => ?_, fun c hcm => ?_⟩ hz hqx hqy hle q
      · have e' : c = s1.heap.objs.size + 4 ∨ c = s1.heap.objs.size + 2 ∨ c = s1.heap.objs.size + 3 ∨ c = s1.heap.objs.size ∨ c = s1.heap.objs.size + 1 := by simpa using hcm
        have hle : s1.heap.objs.size ≤ c := by
          rcases e' with z | z | z | z | z <;> rw [z] <;> first | exact Nat.le_add_right _ _ | exact Nat.le_refl _
        exact I1.fpOk hle (I1.hok.fresh hle)
      · have e' : c = s1.heap.objs.size + 4 ∨ c = s1.heap.objs.size + 2 ∨ c = s1.heap.objs.size + 3 ∨ c = s1.heap.objs.size ∨ c = s1.heap.objs.size + 1 := by simpa using hcm
        show c < h'.objs.size
        rw [hsz]
        rcases e' with z | z | z | z | z <;> rw [z] <;> exact Nat.lt_of_lt_of_le (Nat.lt_succ_self _) (by omega)
end Hk

set_option Elab.async false
set_option linter.all false
set_option maxRecDepth 100000
set_option maxHeartbeats 4000000
namespace Hk
open PySem PySem.Spec PyProof.Rows L2
def topS (i : Nat) : Stmt := PySem.Challenge.pw_hearken_k03_whole_patterns_beside_patter.main.body.getD i (.Pass ⟨0, 0, 0, 0⟩)
abbrev s_is_word : Stmt := topS 10
abbrev N_is_word : List Str := ["part", "sign"]
abbrev p_is_word : List Str := ["part"]
theorem sc_is_word : FnScope N_is_word p_is_word (defScope s_is_word) := ⟨rfl, rfl, rfl, by decide +kernel, rfl, by decide +kernel, by decide +kernel⟩
def d_is_word : He.DefD := ⟨("is_word", none), "is_word", "is_word", defArgs s_is_word, defBody s_is_word, defScope s_is_word, [], []⟩
abbrev F_is_word (K : PySem.W.Frag) (f : Addr) (fd : FuncData) : Prop := FunD K "is_word" "is_word" (defArgs s_is_word) (defBody s_is_word) (defScope s_is_word) [] [] f fd
abbrev s_is_line : Stmt := topS 11
abbrev N_is_line : List Str := ["text", "words", "word"]
abbrev p_is_line : List Str := ["text"]
theorem sc_is_line : FnScope N_is_line p_is_line (defScope s_is_line) := ⟨rfl, rfl, rfl, by decide +kernel, rfl, by decide +kernel, by decide +kernel⟩
def d_is_line : He.DefD := ⟨("is_line", none), "is_line", "is_line", defArgs s_is_line, defBody s_is_line, defScope s_is_line, [], []⟩
abbrev F_is_line (K : PySem.W.Frag) (f : Addr) (fd : FuncData) : Prop := FunD K "is_line" "is_line" (defArgs s_is_line) (defBody s_is_line) (defScope s_is_line) [] [] f fd
abbrev s_is_pattern : Stmt := topS 12
abbrev N_is_pattern : List Str := ["text", "words", "word"]
abbrev p_is_pattern : List Str := ["text"]
theorem sc_is_pattern : FnScope N_is_pattern p_is_pattern (defScope s_is_pattern) := ⟨rfl, rfl, rfl, by decide +kernel, rfl, by decide +kernel, by decide +kernel⟩
def d_is_pattern : He.DefD := ⟨("is_pattern", none), "is_pattern", "is_pattern", defArgs s_is_pattern, defBody s_is_pattern, defScope s_is_pattern, [], []⟩
abbrev F_is_pattern (K : PySem.W.Frag) (f : Addr) (fd : FuncData) : Prop := FunD K "is_pattern" "is_pattern" (defArgs s_is_pattern) (defBody s_is_pattern) (defScope s_is_pattern) [] [] f fd
abbrev s_need_line : Stmt := topS 13
abbrev N_need_line : List Str := ["text"]
abbrev p_need_line : List Str := ["text"]
theorem sc_need_line : FnScope N_need_line p_need_line (defScope s_need_line) := ⟨rfl, rfl, rfl, by decide +kernel, rfl, by decide +kernel, by decide +kernel⟩
def d_need_line : He.DefD := ⟨("need_line", none), "need_line", "need_line", defArgs s_need_line, defBody s_need_line, defScope s_need_line, [], []⟩
abbrev F_need_line (K : PySem.W.Frag) (f : Addr) (fd : FuncData) : Prop := FunD K "need_line" "need_line" (defArgs s_need_line) (defBody s_need_line) (defScope s_need_line) [] [] f fd
abbrev s_need_pattern : Stmt := topS 14
abbrev N_need_pattern : List Str := ["text"]
abbrev p_need_pattern : List Str := ["text"]
theorem sc_need_pattern : FnScope N_need_pattern p_need_pattern (defScope s_need_pattern) := ⟨rfl, rfl, rfl, by decide +kernel, rfl, by decide +kernel, by decide +kernel⟩
def d_need_pattern : He.DefD := ⟨("need_pattern", none), "need_pattern", "need_pattern", defArgs s_need_pattern, defBody s_need_pattern, defScope s_need_pattern, [], []⟩
abbrev F_need_pattern (K : PySem.W.Frag) (f : Addr) (fd : FuncData) : Prop := FunD K "need_pattern" "need_pattern" (defArgs s_need_pattern) (defBody s_need_pattern) (defScope s_need_pattern) [] [] f fd
abbrev s_of_length : Stmt := topS 15
abbrev N_of_length : List Str := ["pattern", "many", "words"]
abbrev p_of_length : List Str := ["pattern", "many"]
theorem sc_of_length : FnScope N_of_length p_of_length (defScope s_of_length) := ⟨rfl, rfl, rfl, by decide +kernel, rfl, by decide +kernel, by decide +kernel⟩
def d_of_length : He.DefD := ⟨("of_length", none), "of_length", "of_length", defArgs s_of_length, defBody s_of_length, defScope s_of_length, [], []⟩
abbrev F_of_length (K : PySem.W.Frag) (f : Addr) (fd : FuncData) : Prop := FunD K "of_length" "of_length" (defArgs s_of_length) (defBody s_of_length) (defScope s_of_length) [] [] f fd
abbrev s_does_fit : Stmt := topS 16
abbrev N_does_fit : List Str := ["pattern", "line", "parts", "words", "word", "part"]
abbrev p_does_fit : List Str := ["pattern", "line"]
theorem sc_does_fit : FnScope N_does_fit p_does_fit (defScope s_does_fit) := ⟨rfl, rfl, rfl, by decide +kernel, rfl, by decide +kernel, by decide +kernel⟩
def d_does_fit : He.DefD := ⟨("does_fit", none), "does_fit", "does_fit", defArgs s_does_fit, defBody s_does_fit, defScope s_does_fit, [], []⟩
abbrev F_does_fit (K : PySem.W.Frag) (f : Addr) (fd : FuncData) : Prop := FunD K "does_fit" "does_fit" (defArgs s_does_fit) (defBody s_does_fit) (defScope s_does_fit) [] [] f fd
abbrev s_fits : Stmt := topS 17
abbrev N_fits : List Str := ["pattern", "line"]
abbrev p_fits : List Str := ["pattern", "line"]
theorem sc_fits : FnScope N_fits p_fits (defScope s_fits) := ⟨rfl, rfl, rfl, by decide +kernel, rfl, by decide +kernel, by decide +kernel⟩
def d_fits : He.DefD := ⟨("fits", none), "fits", "fits", defArgs s_fits, defBody s_fits, defScope s_fits, [], []⟩
abbrev F_fits (K : PySem.W.Frag) (f : Addr) (fd : FuncData) : Prop := FunD K "fits" "fits" (defArgs s_fits) (defBody s_fits) (defScope s_fits) [] [] f fd
abbrev s_law_mix : Stmt := topS 22
abbrev N_law_mix : List Str := ["_law_script", "_law_seed", "_law_mixed", "_law_cell"]
abbrev p_law_mix : List Str := ["_law_script", "_law_seed"]
theorem sc_law_mix : FnScope N_law_mix p_law_mix (defScope s_law_mix) := ⟨rfl, rfl, rfl, by decide +kernel, rfl, by decide +kernel, by decide +kernel⟩
def d_law_mix : He.DefD := ⟨("_law_mix", none), "_law_mix", "_law_mix", defArgs s_law_mix, defBody s_law_mix, defScope s_law_mix, [], []⟩
abbrev F_law_mix (K : PySem.W.Frag) (f : Addr) (fd : FuncData) : Prop := FunD K "_law_mix" "_law_mix" (defArgs s_law_mix) (defBody s_law_mix) (defScope s_law_mix) [] [] f fd
abbrev s_law_next : Stmt := topS 23
abbrev N_law_next : List Str := ["_law_h", "_law_many", "_law_cell"]
abbrev p_law_next : List Str := ["_law_h", "_law_many"]
theorem sc_law_next : FnScope N_law_next p_law_next (defScope s_law_next) := ⟨rfl, rfl, rfl, by decide +kernel, rfl, by decide +kernel, by decide +kernel⟩
def d_law_next : He.DefD := ⟨("_law_next", none), "_law_next", "_law_next", defArgs s_law_next, defBody s_law_next, defScope s_law_next, [], []⟩
abbrev F_law_next (K : PySem.W.Frag) (f : Addr) (fd : FuncData) : Prop := FunD K "_law_next" "_law_next" (defArgs s_law_next) (defBody s_law_next) (defScope s_law_next) [] [] f fd
abbrev s_law_parts : Stmt := topS 24
abbrev N_law_parts : List Str := ["_law_pattern_here", "_law_wide", "_law_words"]
abbrev p_law_parts : List Str := ["_law_pattern_here", "_law_wide"]
theorem sc_law_parts : FnScope N_law_parts p_law_parts (defScope s_law_parts) := ⟨rfl, rfl, rfl, by decide +kernel, rfl, by decide +kernel, by decide +kernel⟩
def d_law_parts : He.DefD := ⟨("_law_parts", none), "_law_parts", "_law_parts", defArgs s_law_parts, defBody s_law_parts, defScope s_law_parts, [], []⟩
abbrev F_law_parts (K : PySem.W.Frag) (f : Addr) (fd : FuncData) : Prop := FunD K "_law_parts" "_law_parts" (defArgs s_law_parts) (defBody s_law_parts) (defScope s_law_parts) [] [] f fd
abbrev s_law_fits : Stmt := topS 25
abbrev N_law_fits : List Str := ["_law_pattern_here", "_law_line_here", "_law_parts_here", "_law_words", "_law_k"]
abbrev p_law_fits : List Str := ["_law_pattern_here", "_law_line_here"]
theorem sc_law_fits : FnScope N_law_fits p_law_fits (defScope s_law_fits) := ⟨rfl, rfl, rfl, by decide +kernel, rfl, by decide +kernel, by decide +kernel⟩
def d_law_fits : He.DefD := ⟨("_law_fits", none), "_law_fits", "_law_fits", defArgs s_law_fits, defBody s_law_fits, defScope s_law_fits, [], []⟩
abbrev F_law_fits (K : PySem.W.Frag) (f : Addr) (fd : FuncData) : Prop := FunD K "_law_fits" "_law_fits" (defArgs s_law_fits) (defBody s_law_fits) (defScope s_law_fits) [] [] f fd
abbrev s_law_line : Stmt := topS 26
abbrev N_law_line : List Str := ["_law_h", "_law_wide", "_law_few", "_law_j", "_law_k"]
abbrev p_law_line : List Str := ["_law_h", "_law_wide", "_law_few"]
theorem sc_law_line : FnScope N_law_line p_law_line (defScope s_law_line) := ⟨rfl, rfl, rfl, by decide +kernel, rfl, by decide +kernel, by decide +kernel⟩
def d_law_line : He.DefD := ⟨("_law_line", none), "_law_line", "_law_line", defArgs s_law_line, defBody s_law_line, defScope s_law_line, [], []⟩
abbrev F_law_line (K : PySem.W.Frag) (f : Addr) (fd : FuncData) : Prop := FunD K "_law_line" "_law_line" (defArgs s_law_line) (defBody s_law_line) (defScope s_law_line) [] [] f fd
abbrev s_law_pattern : Stmt := topS 27
abbrev N_law_pattern : List Str := ["_law_h", "_law_wide", "_law_few", "_law_words", "_law_word", "_law_way"]
abbrev p_law_pattern : List Str := ["_law_h", "_law_wide", "_law_few"]
theorem sc_law_pattern : FnScope N_law_pattern p_law_pattern (defScope s_law_pattern) := ⟨rfl, rfl, rfl, by decide +kernel, rfl, by decide +kernel, by decide +kernel⟩
def d_law_pattern : He.DefD := ⟨("_law_pattern", none), "_law_pattern", "_law_pattern", defArgs s_law_pattern, defBody s_law_pattern, defScope s_law_pattern, [], []⟩
abbrev F_law_pattern (K : PySem.W.Frag) (f : Addr) (fd : FuncData) : Prop := FunD K "_law_pattern" "_law_pattern" (defArgs s_law_pattern) (defBody s_law_pattern) (defScope s_law_pattern) [] [] f fd
abbrev s_narrower : Stmt := topS 18
abbrev N_narrower : List Str := ["one", "other", "many", "mine", "theirs", "part", "word"]
abbrev p_narrower : List Str := ["one", "other"]
theorem sc_narrower : FnScope N_narrower p_narrower (defScope s_narrower) := ⟨rfl, rfl, rfl, by decide +kernel, rfl, by decide +kernel, by decide +kernel⟩
def d_narrower : He.DefD := ⟨("narrower", none), "narrower", "narrower", defArgs s_narrower, defBody s_narrower, defScope s_narrower, [], []⟩
abbrev F_narrower (K : PySem.W.Frag) (f : Addr) (fd : FuncData) : Prop := FunD K "narrower" "narrower" (defArgs s_narrower) (defBody s_narrower) (defScope s_narrower) [] [] f fd
abbrev s_met : Stmt := topS 20
abbrev N_met : List Str := ["part", "word"]
abbrev p_met : List Str := ["part", "word"]
theorem sc_met : FnScope N_met p_met (defScope s_met) := ⟨rfl, rfl, rfl, by decide +kernel, rfl, by decide +kernel, by decide +kernel⟩
def d_met : He.DefD := ⟨("met", none), "met", "met", defArgs s_met, defBody s_met, defScope s_met, [], []⟩
abbrev F_met (K : PySem.W.Frag) (f : Addr) (fd : FuncData) : Prop := FunD K "met" "met" (defArgs s_met) (defBody s_met) (defScope s_met) [] [] f fd
abbrev s_meets : Stmt := topS 19
abbrev N_meets : List Str := ["one", "other", "many", "mine", "theirs", "pairs", "pair", "part", "word"]
abbrev p_meets : List Str := ["one", "other"]
theorem sc_meets : FnScope N_meets p_meets (defScope s_meets) := ⟨rfl, rfl, rfl, by decide +kernel, rfl, by decide +kernel, by decide +kernel⟩
def d_meets : He.DefD := ⟨("meets", none), "meets", "meets", defArgs s_meets, defBody s_meets, defScope s_meets, [], []⟩
abbrev F_meets (K : PySem.W.Frag) (f : Addr) (fd : FuncData) : Prop := FunD K "meets" "meets" (defArgs s_meets) (defBody s_meets) (defScope s_meets) [] [] f fd
abbrev s_law_first : Stmt := topS 28
abbrev N_law_first : List Str := ["_law_one", "_law_two", "_law_wide", "_law_mine", "_law_theirs", "_law_found", "_law_k", "_law_some", "_law_word", "_law_longer", "_law_line_here"]
abbrev p_law_first : List Str := ["_law_one", "_law_two", "_law_wide"]
theorem sc_law_first : FnScope N_law_first p_law_first (defScope s_law_first) := ⟨rfl, rfl, rfl, by decide +kernel, rfl, by decide +kernel, by decide +kernel⟩
def d_law_first : He.DefD := ⟨("_law_first", none), "_law_first", "_law_first", defArgs s_law_first, defBody s_law_first, defScope s_law_first, [], []⟩
abbrev F_law_first (K : PySem.W.Frag) (f : Addr) (fd : FuncData) : Prop := FunD K "_law_first" "_law_first" (defArgs s_law_first) (defBody s_law_first) (defScope s_law_first) [] [] f fd
abbrev s_law : Stmt := topS 29
abbrev N_law : List Str := ["_law_script", "_law_h", "_law_turn", "_law_few", "_law_one", "_law_two", "_law_lines", "_law_wide", "_law_words", "_law_word", "_law_line_here", "_law_firsts", "_law_found"]
abbrev p_law : List Str := ["_law_script"]
theorem sc_law : FnScope N_law p_law (defScope s_law) := ⟨rfl, rfl, rfl, by decide +kernel, rfl, by decide +kernel, by decide +kernel⟩
def d_law : He.DefD := ⟨("law", none), "law", "law", defArgs s_law, defBody s_law, defScope s_law, [], []⟩
abbrev F_law (K : PySem.W.Frag) (f : Addr) (fd : FuncData) : Prop := FunD K "law" "law" (defArgs s_law) (defBody s_law) (defScope s_law) [] [] f fd
def fa : List He.Fa := [.free "len", .int "MOST_LETTERS" 4, .free "all", .str "LETTERS" "abcdefghijklmnopqrstuvwxyz", .int "MOST_WORDS" 6, .str "REST" "#", .str "ANY" "*", .glo "BadLine", .exc "BadLine", .glo "BadPattern", .exc "BadPattern", .free "zip", .free "list", .free "max", .free "range", .free "sorted", .free "set", .free "int", .free "min", .glo "is_word", .glo "is_line", .glo "is_pattern", .glo "need_line", .glo "need_pattern", .glo "of_length", .glo "does_fit", .glo "fits", .glo "_law_mix", .glo "_law_next", .glo "_law_parts", .glo "_law_fits", .glo "_law_line", .glo "_law_pattern", .glo "narrower", .glo "met", .glo "meets", .glo "_law_first", .glo "law"]
def fn : List He.DefD := [d_is_word, d_is_line, d_is_pattern, d_need_line, d_need_pattern, d_of_length, d_does_fit, d_fits, d_law_mix, d_law_next, d_law_parts, d_law_fits, d_law_line, d_law_pattern, d_narrower, d_met, d_meets, d_law_first, d_law]
def exB (K : PySem.W.Frag) : Bool := true
def Tx (K : PySem.W.Frag) (mg : Str → Option Value) : Prop := ∃ h : Heap, K.In h ∧ h.Ns mainGlobals mg ∧ He.SaysD fa fn K ∧ exB K = true
section
variable {K : PySem.W.Frag} {mg : Str → Option Value}
theorem Tx.b_len (T : Tx K mg) : mg "len" = none := by obtain ⟨h, X, G, c, _⟩ := T; exact He.free_ok X G (c.fact 0 (f := .free "len") rfl)
theorem Tx.c_MOST_LETTERS (T : Tx K mg) : ∃ t, mg "MOST_LETTERS" = some (.int 4 t) := by obtain ⟨h, X, G, c, _⟩ := T; exact He.int_ok X G (c.fact 1 (f := .int "MOST_LETTERS" 4) rfl)
theorem Tx.b_all (T : Tx K mg) : mg "all" = none := by obtain ⟨h, X, G, c, _⟩ := T; exact He.free_ok X G (c.fact 2 (f := .free "all") rfl)
theorem Tx.c_LETTERS (T : Tx K mg) : ∃ t, mg "LETTERS" = some (.str "abcdefghijklmnopqrstuvwxyz" t) := by obtain ⟨h, X, G, c, _⟩ := T; exact He.str_ok X G (c.fact 3 (f := .str "LETTERS" "abcdefghijklmnopqrstuvwxyz") rfl)
theorem Tx.c_MOST_WORDS (T : Tx K mg) : ∃ t, mg "MOST_WORDS" = some (.int 6 t) := by obtain ⟨h, X, G, c, _⟩ := T; exact He.int_ok X G (c.fact 4 (f := .int "MOST_WORDS" 6) rfl)
theorem Tx.c_REST (T : Tx K mg) : ∃ t, mg "REST" = some (.str "#" t) := by obtain ⟨h, X, G, c, _⟩ := T; exact He.str_ok X G (c.fact 5 (f := .str "REST" "#") rfl)
theorem Tx.c_ANY (T : Tx K mg) : ∃ t, mg "ANY" = some (.str "*" t) := by obtain ⟨h, X, G, c, _⟩ := T; exact He.str_ok X G (c.fact 6 (f := .str "ANY" "*") rfl)
theorem Tx.g_BadLine (T : Tx K mg) : mg "BadLine" = some (.ref (He.ga K "BadLine")) := by obtain ⟨h, X, G, c, _⟩ := T; exact He.glo_ok X G (c.fact 7 (f := .glo "BadLine") rfl)
theorem Tx.x_BadLine (T : Tx K mg) : PySem.W.excIn K (He.ga K "BadLine") He.veBase "ValueError.__new__" = true ∧ PySem.W.keepIn K (.ref (He.ga K "BadLine")) = true ∧ PySem.W.subIn K (.ref (He.ga K "BadLine")) (.type "BaseException") = some true ∧ PySem.W.typeIn K (.ref (He.ga K "BadLine")) = some (.type "type") := by obtain ⟨h, X, G, c, _⟩ := T; exact He.exc_ok (c.fact 8 (f := .exc "BadLine") rfl)
theorem Tx.g_BadPattern (T : Tx K mg) : mg "BadPattern" = some (.ref (He.ga K "BadPattern")) := by obtain ⟨h, X, G, c, _⟩ := T; exact He.glo_ok X G (c.fact 9 (f := .glo "BadPattern") rfl)
theorem Tx.x_BadPattern (T : Tx K mg) : PySem.W.excIn K (He.ga K "BadPattern") He.veBase "ValueError.__new__" = true ∧ PySem.W.keepIn K (.ref (He.ga K "BadPattern")) = true ∧ PySem.W.subIn K (.ref (He.ga K "BadPattern")) (.type "BaseException") = some true ∧ PySem.W.typeIn K (.ref (He.ga K "BadPattern")) = some (.type "type") := by obtain ⟨h, X, G, c, _⟩ := T; exact He.exc_ok (c.fact 10 (f := .exc "BadPattern") rfl)
theorem Tx.b_zip (T : Tx K mg) : mg "zip" = none := by obtain ⟨h, X, G, c, _⟩ := T; exact He.free_ok X G (c.fact 11 (f := .free "zip") rfl)
theorem Tx.b_list (T : Tx K mg) : mg "list" = none := by obtain ⟨h, X, G, c, _⟩ := T; exact He.free_ok X G (c.fact 12 (f := .free "list") rfl)
theorem Tx.b_max (T : Tx K mg) : mg "max" = none := by obtain ⟨h, X, G, c, _⟩ := T; exact He.free_ok X G (c.fact 13 (f := .free "max") rfl)
theorem Tx.b_range (T : Tx K mg) : mg "range" = none := by obtain ⟨h, X, G, c, _⟩ := T; exact He.free_ok X G (c.fact 14 (f := .free "range") rfl)
theorem Tx.b_sorted (T : Tx K mg) : mg "sorted" = none := by obtain ⟨h, X, G, c, _⟩ := T; exact He.free_ok X G (c.fact 15 (f := .free "sorted") rfl)
theorem Tx.b_set (T : Tx K mg) : mg "set" = none := by obtain ⟨h, X, G, c, _⟩ := T; exact He.free_ok X G (c.fact 16 (f := .free "set") rfl)
theorem Tx.b_int (T : Tx K mg) : mg "int" = none := by obtain ⟨h, X, G, c, _⟩ := T; exact He.free_ok X G (c.fact 17 (f := .free "int") rfl)
theorem Tx.b_min (T : Tx K mg) : mg "min" = none := by obtain ⟨h, X, G, c, _⟩ := T; exact He.free_ok X G (c.fact 18 (f := .free "min") rfl)
theorem Tx.g_is_word (T : Tx K mg) : mg "is_word" = some (.ref (He.ga K "is_word")) := by obtain ⟨h, X, G, c, _⟩ := T; exact He.glo_ok X G (c.fact 19 (f := .glo "is_word") rfl)
theorem Tx.g_is_line (T : Tx K mg) : mg "is_line" = some (.ref (He.ga K "is_line")) := by obtain ⟨h, X, G, c, _⟩ := T; exact He.glo_ok X G (c.fact 20 (f := .glo "is_line") rfl)
theorem Tx.g_is_pattern (T : Tx K mg) : mg "is_pattern" = some (.ref (He.ga K "is_pattern")) := by obtain ⟨h, X, G, c, _⟩ := T; exact He.glo_ok X G (c.fact 21 (f := .glo "is_pattern") rfl)
theorem Tx.g_need_line (T : Tx K mg) : mg "need_line" = some (.ref (He.ga K "need_line")) := by obtain ⟨h, X, G, c, _⟩ := T; exact He.glo_ok X G (c.fact 22 (f := .glo "need_line") rfl)
theorem Tx.g_need_pattern (T : Tx K mg) : mg "need_pattern" = some (.ref (He.ga K "need_pattern")) := by obtain ⟨h, X, G, c, _⟩ := T; exact He.glo_ok X G (c.fact 23 (f := .glo "need_pattern") rfl)
theorem Tx.g_of_length (T : Tx K mg) : mg "of_length" = some (.ref (He.ga K "of_length")) := by obtain ⟨h, X, G, c, _⟩ := T; exact He.glo_ok X G (c.fact 24 (f := .glo "of_length") rfl)
theorem Tx.g_does_fit (T : Tx K mg) : mg "does_fit" = some (.ref (He.ga K "does_fit")) := by obtain ⟨h, X, G, c, _⟩ := T; exact He.glo_ok X G (c.fact 25 (f := .glo "does_fit") rfl)
theorem Tx.g_fits (T : Tx K mg) : mg "fits" = some (.ref (He.ga K "fits")) := by obtain ⟨h, X, G, c, _⟩ := T; exact He.glo_ok X G (c.fact 26 (f := .glo "fits") rfl)
theorem Tx.g__law_mix (T : Tx K mg) : mg "_law_mix" = some (.ref (He.ga K "_law_mix")) := by obtain ⟨h, X, G, c, _⟩ := T; exact He.glo_ok X G (c.fact 27 (f := .glo "_law_mix") rfl)
theorem Tx.g__law_next (T : Tx K mg) : mg "_law_next" = some (.ref (He.ga K "_law_next")) := by obtain ⟨h, X, G, c, _⟩ := T; exact He.glo_ok X G (c.fact 28 (f := .glo "_law_next") rfl)
theorem Tx.g__law_parts (T : Tx K mg) : mg "_law_parts" = some (.ref (He.ga K "_law_parts")) := by obtain ⟨h, X, G, c, _⟩ := T; exact He.glo_ok X G (c.fact 29 (f := .glo "_law_parts") rfl)
theorem Tx.g__law_fits (T : Tx K mg) : mg "_law_fits" = some (.ref (He.ga K "_law_fits")) := by obtain ⟨h, X, G, c, _⟩ := T; exact He.glo_ok X G (c.fact 30 (f := .glo "_law_fits") rfl)
theorem Tx.g__law_line (T : Tx K mg) : mg "_law_line" = some (.ref (He.ga K "_law_line")) := by obtain ⟨h, X, G, c, _⟩ := T; exact He.glo_ok X G (c.fact 31 (f := .glo "_law_line") rfl)
theorem Tx.g__law_pattern (T : Tx K mg) : mg "_law_pattern" = some (.ref (He.ga K "_law_pattern")) := by obtain ⟨h, X, G, c, _⟩ := T; exact He.glo_ok X G (c.fact 32 (f := .glo "_law_pattern") rfl)
theorem Tx.g_narrower (T : Tx K mg) : mg "narrower" = some (.ref (He.ga K "narrower")) := by obtain ⟨h, X, G, c, _⟩ := T; exact He.glo_ok X G (c.fact 33 (f := .glo "narrower") rfl)
theorem Tx.g_met (T : Tx K mg) : mg "met" = some (.ref (He.ga K "met")) := by obtain ⟨h, X, G, c, _⟩ := T; exact He.glo_ok X G (c.fact 34 (f := .glo "met") rfl)
theorem Tx.g_meets (T : Tx K mg) : mg "meets" = some (.ref (He.ga K "meets")) := by obtain ⟨h, X, G, c, _⟩ := T; exact He.glo_ok X G (c.fact 35 (f := .glo "meets") rfl)
theorem Tx.g__law_first (T : Tx K mg) : mg "_law_first" = some (.ref (He.ga K "_law_first")) := by obtain ⟨h, X, G, c, _⟩ := T; exact He.glo_ok X G (c.fact 36 (f := .glo "_law_first") rfl)
theorem Tx.g_law (T : Tx K mg) : mg "law" = some (.ref (He.ga K "law")) := by obtain ⟨h, X, G, c, _⟩ := T; exact He.glo_ok X G (c.fact 37 (f := .glo "law") rfl)
theorem Tx.f_is_word (T : Tx K mg) : ∃ fd, F_is_word K (He.fAd K d_is_word.at_) fd := by obtain ⟨h, X, G, c, _⟩ := T; exact c.def_ 0 (d := d_is_word) rfl
theorem Tx.f_is_line (T : Tx K mg) : ∃ fd, F_is_line K (He.fAd K d_is_line.at_) fd := by obtain ⟨h, X, G, c, _⟩ := T; exact c.def_ 1 (d := d_is_line) rfl
theorem Tx.f_is_pattern (T : Tx K mg) : ∃ fd, F_is_pattern K (He.fAd K d_is_pattern.at_) fd := by obtain ⟨h, X, G, c, _⟩ := T; exact c.def_ 2 (d := d_is_pattern) rfl
theorem Tx.f_need_line (T : Tx K mg) : ∃ fd, F_need_line K (He.fAd K d_need_line.at_) fd := by obtain ⟨h, X, G, c, _⟩ := T; exact c.def_ 3 (d := d_need_line) rfl
theorem Tx.f_need_pattern (T : Tx K mg) : ∃ fd, F_need_pattern K (He.fAd K d_need_pattern.at_) fd := by obtain ⟨h, X, G, c, _⟩ := T; exact c.def_ 4 (d := d_need_pattern) rfl
theorem Tx.f_of_length (T : Tx K mg) : ∃ fd, F_of_length K (He.fAd K d_of_length.at_) fd := by obtain ⟨h, X, G, c, _⟩ := T; exact c.def_ 5 (d := d_of_length) rfl
theorem Tx.f_does_fit (T : Tx K mg) : ∃ fd, F_does_fit K (He.fAd K d_does_fit.at_) fd := by obtain ⟨h, X, G, c, _⟩ := T; exact c.def_ 6 (d := d_does_fit) rfl
theorem Tx.f_fits (T : Tx K mg) : ∃ fd, F_fits K (He.fAd K d_fits.at_) fd := by obtain ⟨h, X, G, c, _⟩ := T; exact c.def_ 7 (d := d_fits) rfl
theorem Tx.f_law_mix (T : Tx K mg) : ∃ fd, F_law_mix K (He.fAd K d_law_mix.at_) fd := by obtain ⟨h, X, G, c, _⟩ := T; exact c.def_ 8 (d := d_law_mix) rfl
theorem Tx.f_law_next (T : Tx K mg) : ∃ fd, F_law_next K (He.fAd K d_law_next.at_) fd := by obtain ⟨h, X, G, c, _⟩ := T; exact c.def_ 9 (d := d_law_next) rfl
theorem Tx.f_law_parts (T : Tx K mg) : ∃ fd, F_law_parts K (He.fAd K d_law_parts.at_) fd := by obtain ⟨h, X, G, c, _⟩ := T; exact c.def_ 10 (d := d_law_parts) rfl
theorem Tx.f_law_fits (T : Tx K mg) : ∃ fd, F_law_fits K (He.fAd K d_law_fits.at_) fd := by obtain ⟨h, X, G, c, _⟩ := T; exact c.def_ 11 (d := d_law_fits) rfl
theorem Tx.f_law_line (T : Tx K mg) : ∃ fd, F_law_line K (He.fAd K d_law_line.at_) fd := by obtain ⟨h, X, G, c, _⟩ := T; exact c.def_ 12 (d := d_law_line) rfl
theorem Tx.f_law_pattern (T : Tx K mg) : ∃ fd, F_law_pattern K (He.fAd K d_law_pattern.at_) fd := by obtain ⟨h, X, G, c, _⟩ := T; exact c.def_ 13 (d := d_law_pattern) rfl
theorem Tx.f_narrower (T : Tx K mg) : ∃ fd, F_narrower K (He.fAd K d_narrower.at_) fd := by obtain ⟨h, X, G, c, _⟩ := T; exact c.def_ 14 (d := d_narrower) rfl
theorem Tx.f_met (T : Tx K mg) : ∃ fd, F_met K (He.fAd K d_met.at_) fd := by obtain ⟨h, X, G, c, _⟩ := T; exact c.def_ 15 (d := d_met) rfl
theorem Tx.f_meets (T : Tx K mg) : ∃ fd, F_meets K (He.fAd K d_meets.at_) fd := by obtain ⟨h, X, G, c, _⟩ := T; exact c.def_ 16 (d := d_meets) rfl
theorem Tx.f_law_first (T : Tx K mg) : ∃ fd, F_law_first K (He.fAd K d_law_first.at_) fd := by obtain ⟨h, X, G, c, _⟩ := T; exact c.def_ 17 (d := d_law_first) rfl
theorem Tx.f_law (T : Tx K mg) : ∃ fd, F_law K (He.fAd K d_law.at_) fd := by obtain ⟨h, X, G, c, _⟩ := T; exact c.def_ 18 (d := d_law) rfl
end
end Hk

set_option Elab.async false
set_option linter.all false
set_option maxRecDepth 100000
set_option maxHeartbeats 4000000
namespace Hk
open PySem PySem.Spec PyProof.Rows L2
open TL
section
variable {P : Program} {w : World} {K : PySem.W.Frag} {mg : Str → Option Value} {base : Heap}
theorem last_map {ws : List Str} {s : Str} : ((ws.map V.str).getLast? = some (V.str s)) ↔ ws.getLast? = some s := by
  rw [List.getLast?_map]
  cases ws.getLast? with
  | none => simp
  | some x => simp
theorem last_str {ws : List Str} (h : ws ≠ []) : ∃ x, (ws.map V.str).getLast? = some (V.str x) ∧ ws.getLast? = some x := by
  refine ⟨ws.getLast h, ?_, List.getLast?_eq_getLast h⟩
  rw [List.getLast?_map, List.getLast?_eq_getLast h]; rfl
/-! ### is_word -/
def sp_is_word : Sp := fun vs H Q _ => ∃ z : Str, vs = [.str z] ∧ z.length ≤ 10000 ∧ ∀ H', Same H H' → Q (.bl (isWord z)) H'
theorem G_is_word (T : Tx K mg) : Glob P w K mg base (CX0) 1 "is_word" p_is_word [] sp_is_word := by
  obtain ⟨fd, F⟩ := T.f_is_word
  refine ⟨_, fd, [], F.ok sc_is_word (fun vs H Q E h => ?_) (fun cdv A outer s H vs Q E hr h => ?_), T.g_is_word, F.kp, .nil, F.bindsN fun _ _ _ _ _ _ us hl => match us, hl with | [_], _ => rfl⟩
  · obtain ⟨z, rfl, _⟩ := h; rfl
  · obtain ⟨z, rfl, hz, q⟩ := h
    refine ⟨_, PSs.nox (pss_one (ps_ret (pe_and (pe_chain op_le op_le pe_int (pe_callB call_len_str (by rfl) T.b_len (by decide +kernel) (pa_cons (pv 0) pa_nil)) (pe_gi T.c_MOST_LETTERS (by rfl))) (pe_one (pe_callB (cr_allK (K := K) rfl rfl) (by rfl) T.b_all (by decide +kernel) (pa_cons (pe_lc (own := [("sign", 1)]) (g := (gName 1)) (tt := tYes) rfl sc_is_word.nd (pi_str (pv 0)) (blkOk_by (by kernel_rfl)) (fun _ _ _ _ _ => (pg_name (i := 1) sc_is_word.nd rfl (Or.inl rfl))) (fun _ _ _ _ _ => pts_nil) (fun _ _ _ _ _ => (pe_cmpR op_in_sign (pv 1) (pe_gs T.c_LETTERS (by rfl)) (by rfl)))) pa_nil)))))), ?_⟩
    simp only [tCutE, false_and, exists_false, false_or, or_false, tRet, tRetN, tAndV, tOrV, tNotV, tChain, rI, rI0, rU, tC, tCB, tCons, tNil, tVar, tOp, tUn, tTest, tB, tAnd, tOr, tNot, tIf, tIfS, tSeq, tAsg, tDrop, tNext, gName, gTup_ref, gCons_cons, gNil_nil, and_assoc, tYes, wipe, rEq, rNe, scal_ss, scal_ii, scal_bb, scal_ns, scal_sn, scal_nn, scal_in, scal_ni, tLc_eq, tFor_eq, iList, iTup, iStr, iRng1, iRng2, iZip, iEnum, gSub, tSl, rSetL_ref, rCat_ref, rRep_ref, rJoin_ref, rSlL_ref, rSlS_ref, rMulS_ref, rIxL_ref, rIxT_ref, rLenK_ref, rAll_ref, rIn_ref, tLst, tTup, tPar, tPar3, tAug, tPart, tNoPart, tCall, List.getElem?_cons_zero, List.getElem?_cons_succ, List.set_cons_zero, List.set_cons_succ, List.map_cons, List.map_nil, List.append_nil, List.nil_append, List.cons_append, Option.some.injEq, exists_eq_left', exists_eq_left, exists_eq_right, exists_eq_right', exists_eq', V.int.injEq, V.str.injEq, V.bl.injEq, V.ref.injEq, List.cons.injEq, tM0, tM1, rNewStrs, sgn_eq, split_dot, split_sp, split_nl, dot_len, sp_len, nl_len, cxOf_K, L2.start, List.length_cons, List.length_nil, List.replicate_succ, List.replicate_zero, Nat.reduceSub, Nat.zero_add, and_true, true_and, and_self, exists_and_left, exists_const, Bool.false_eq_true, if_false, if_true, ite_true, ite_false, reduceIte, decide_eq_true_eq, reduceCtorEq, Nat.reduceAdd, Nat.reduceLT, tListZip]
    refine ⟨small (by omega), ?_⟩
    have hz' : (tl z).length ≤ 10000 := by rw [← len_tl]; exact hz
    split
    · rename_i h1
      split
      · rename_i h2
        refine lc_map (tl z) (fun c => V.bl (decide (c ∈ tl letters))) walk_str (by omega) (fun _ _ => trivial) (fun i a x H1 H' R hx s1 hy r => ?_) (fun D H1 nD s1 hD => ?_)
        · obtain ⟨rfl, c, hc, rfl⟩ := hy
          have e : c = a := by
            rw [Array.getElem?_toList] at hx
            exact Option.some.inj (hc.symm.trans hx)
          subst e
          simp only [tCutE, false_and, exists_false, false_or, or_false, tRet, tRetN, tAndV, tOrV, tNotV, tChain, rI, rI0, rU, tC, tCB, tCons, tNil, tVar, tOp, tUn, tTest, tB, tAnd, tOr, tNot, tIf, tIfS, tSeq, tAsg, tDrop, tNext, gName, gTup_ref, gCons_cons, gNil_nil, and_assoc, tYes, wipe, rEq, rNe, scal_ss, scal_ii, scal_bb, scal_ns, scal_sn, scal_nn, scal_in, scal_ni, tLc_eq, tFor_eq, iList, iTup, iStr, iRng1, iRng2, iZip, iEnum, gSub, tSl, rSetL_ref, rCat_ref, rRep_ref, rJoin_ref, rSlL_ref, rSlS_ref, rMulS_ref, rIxL_ref, rIxT_ref, rLenK_ref, rAll_ref, rIn_ref, tLst, tTup, tPar, tPar3, tAug, tPart, tNoPart, tCall, List.getElem?_cons_zero, List.getElem?_cons_succ, List.set_cons_zero, List.set_cons_succ, List.map_cons, List.map_nil, List.append_nil, List.nil_append, List.cons_append, Option.some.injEq, exists_eq_left', exists_eq_left, exists_eq_right, exists_eq_right', exists_eq', V.int.injEq, V.str.injEq, V.bl.injEq, V.ref.injEq, List.cons.injEq, tM0, tM1, rNewStrs, sgn_eq, split_dot, split_sp, split_nl, dot_len, sp_len, nl_len, cxOf_K, L2.start, List.length_cons, List.length_nil, List.replicate_succ, List.replicate_zero, Nat.reduceSub, Nat.zero_add, and_true, true_and, and_self, exists_and_left, exists_const, Bool.false_eq_true, if_false, if_true, ite_true, ite_false, reduceIte, decide_eq_true_eq, reduceCtorEq, Nat.reduceAdd, Nat.reduceLT, tListZip]
          exact r _ (Same.refl _)
        · refine ⟨D, (tl z).map fun c => decide (c ∈ tl letters), rfl, .of (by rw [hD, List.map_map]; rfl), ?_⟩
          have e : isWord z = List.all ((tl z).map fun c => decide (c ∈ tl letters)) id := by
            unfold isWord
            rw [decide_eq_true (by omega : 1 ≤ z.length), decide_eq_true (by omega : z.length ≤ 4), List.all_map]
            rfl
          rw [← e]
          exact q _ s1
      · have e : isWord z = false := by
          unfold isWord
          rw [decide_eq_false (by omega : ¬ z.length ≤ 4)]; simp
        rw [← e]; exact q _ (Same.refl _)
    · have e : isWord z = false := by
        unfold isWord
        rw [decide_eq_false (by omega : ¬ 1 ≤ z.length)]; simp
      rw [← e]; exact q _ (Same.refl _)
/-! ### is_line -/
def sp_is_line : Sp := fun vs H Q _ => ∃ z : Str, vs = [.str z] ∧ z.length ≤ 10000 ∧ ∀ H', Same H H' → Q (.bl (isLine z)) H'
theorem G_is_line (T : Tx K mg) : Glob P w K mg base (CX0) 2 "is_line" p_is_line [] sp_is_line := by
  obtain ⟨fd, F⟩ := T.f_is_line
  refine ⟨_, fd, [], F.ok sc_is_line (fun vs H Q E h => ?_) (fun cdv A outer s H vs Q E hr h => ?_), T.g_is_line, F.kp, .nil, F.bindsN fun _ _ _ _ _ _ us hl => match us, hl with | [_], _ => rfl⟩
  · obtain ⟨z, rfl, _⟩ := h; rfl
  · obtain ⟨z, rfl, hz, q⟩ := h
    refine ⟨_, PSs.nox (pss_cons (ps_set (i := 1) sc_is_line.nd rfl (Or.inl rfl) (pe_split (pv 0) pe_str))
      (pss_one (ps_ret (pe_and (pe_cmpR op_le (pe_callB (call_len_seqK (K := K) rfl) (by rfl) T.b_len (by decide +kernel) (pa_cons (pv 1) pa_nil)) (pe_gi T.c_MOST_WORDS (by rfl)) (nomark _)) (pe_one (pe_callB (cr_allK (K := K) rfl rfl) (by rfl) T.b_all (by decide +kernel) (pa_cons (pe_lc (own := [("word", 2)]) (g := (gName 2)) (tt := tYes) rfl sc_is_line.nd (pi_listK (K := K) rfl (pv 1)) (blkOk_by (by kernel_rfl)) (fun _ _ _ _ _ => (pg_name (i := 2) sc_is_line.nd rfl (Or.inl rfl))) (fun _ _ _ _ _ => pts_nil) (fun _ _ _ _ _ => (pe_callG (G_is_word T) (hr.mono (by decide)) (by rfl) pass0 (pa_cons (pv 2) pa_nil)))) pa_nil))))))), ?_⟩
    simp only [tCutE, false_and, exists_false, false_or, or_false, tRet, tRetN, tAndV, tOrV, tNotV, tChain, rI, rI0, rU, tC, tCB, tCons, tNil, tVar, tOp, tUn, tTest, tB, tAnd, tOr, tNot, tIf, tIfS, tSeq, tAsg, tDrop, tNext, gName, gTup_ref, gCons_cons, gNil_nil, and_assoc, tYes, wipe, rEq, rNe, scal_ss, scal_ii, scal_bb, scal_ns, scal_sn, scal_nn, scal_in, scal_ni, tLc_eq, tFor_eq, iList, iTup, iStr, iRng1, iRng2, iZip, iEnum, gSub, tSl, rSetL_ref, rCat_ref, rRep_ref, rJoin_ref, rSlL_ref, rSlS_ref, rMulS_ref, rIxL_ref, rIxT_ref, rLenK_ref, rAll_ref, rIn_ref, tLst, tTup, tPar, tPar3, tAug, tPart, tNoPart, tCall, List.getElem?_cons_zero, List.getElem?_cons_succ, List.set_cons_zero, List.set_cons_succ, List.map_cons, List.map_nil, List.append_nil, List.nil_append, List.cons_append, Option.some.injEq, exists_eq_left', exists_eq_left, exists_eq_right, exists_eq_right', exists_eq', V.int.injEq, V.str.injEq, V.bl.injEq, V.ref.injEq, List.cons.injEq, tM0, tM1, rNewStrs, sgn_eq, split_dot, split_sp, split_nl, dot_len, sp_len, nl_len, cxOf_K, L2.start, List.length_cons, List.length_nil, List.replicate_succ, List.replicate_zero, Nat.reduceSub, Nat.zero_add, and_true, true_and, and_self, exists_and_left, exists_const, Bool.false_eq_true, if_false, if_true, ite_true, ite_false, reduceIte, decide_eq_true_eq, reduceCtorEq, Nat.reduceAdd, Nat.reduceLT, tListZip]
    refine ⟨small (by omega), fun p hp => ⟨(wds z).map V.str, .inl (.of upd_same), ?_⟩⟩
    have s1 : Same H (upd H p (HO.lst (List.map V.str (wds z)))) := same_put (Same.refl _) hp
    have hl := wds_len z
    rw [List.length_map]
    split
    · rename_i h1
      refine ⟨⟨_, .of upd_same⟩, lc_map (wds z) (fun w => V.bl (isWord w)) (walk_listm (wds z) V.str) (by omega) (fun H2 s2 => s2.seq (.of upd_same)) (fun i a x H1 H' R hx s2 hy r => ?_) (fun D H1 nD s2 hD => ?_)⟩
      · obtain ⟨rfl, y, hy, rfl⟩ := hy
        cases Option.some.inj (hx.symm.trans hy)
        simp only [tCutE, false_and, exists_false, false_or, or_false, tRet, tRetN, tAndV, tOrV, tNotV, tChain, rI, rI0, rU, tC, tCB, tCons, tNil, tVar, tOp, tUn, tTest, tB, tAnd, tOr, tNot, tIf, tIfS, tSeq, tAsg, tDrop, tNext, gName, gTup_ref, gCons_cons, gNil_nil, and_assoc, tYes, wipe, rEq, rNe, scal_ss, scal_ii, scal_bb, scal_ns, scal_sn, scal_nn, scal_in, scal_ni, tLc_eq, tFor_eq, iList, iTup, iStr, iRng1, iRng2, iZip, iEnum, gSub, tSl, rSetL_ref, rCat_ref, rRep_ref, rJoin_ref, rSlL_ref, rSlS_ref, rMulS_ref, rIxL_ref, rIxT_ref, rLenK_ref, rAll_ref, rIn_ref, tLst, tTup, tPar, tPar3, tAug, tPart, tNoPart, tCall, List.getElem?_cons_zero, List.getElem?_cons_succ, List.set_cons_zero, List.set_cons_succ, List.map_cons, List.map_nil, List.append_nil, List.nil_append, List.cons_append, Option.some.injEq, exists_eq_left', exists_eq_left, exists_eq_right, exists_eq_right', exists_eq', V.int.injEq, V.str.injEq, V.bl.injEq, V.ref.injEq, List.cons.injEq, tM0, tM1, rNewStrs, sgn_eq, split_dot, split_sp, split_nl, dot_len, sp_len, nl_len, cxOf_K, L2.start, List.length_cons, List.length_nil, List.replicate_succ, List.replicate_zero, Nat.reduceSub, Nat.zero_add, and_true, true_and, and_self, exists_and_left, exists_const, Bool.false_eq_true, if_false, if_true, ite_true, ite_false, reduceIte, decide_eq_true_eq, reduceCtorEq, Nat.reduceAdd, Nat.reduceLT, tListZip]
        have := wds_each z a (List.mem_of_getElem? hx)
        exact ⟨a, rfl, by omega, r⟩
      · refine ⟨D, (wds z).map isWord, rfl, .of (by rw [hD, List.map_map]; rfl), ?_⟩
        have e : isLine z = List.all ((wds z).map isWord) id := by
          unfold isLine
          rw [decide_eq_true (by omega : (wds z).length ≤ 6), List.all_map]
          rfl
        rw [← e]
        exact q _ (s1.trans s2)
    · have e : isLine z = false := by
        unfold isLine
        rw [decide_eq_false (by omega : ¬ (wds z).length ≤ 6)]; simp
      rw [← e]; exact q _ s1
/-! ### is_pattern -/
def sp_is_pattern : Sp := fun vs H Q _ => ∃ z : Str, vs = [.str z] ∧ z.length ≤ 10000 ∧ ∀ H', Same H H' → Q (.bl (isPat z)) H'
theorem G_is_pattern (T : Tx K mg) : Glob P w K mg base (CX0) 2 "is_pattern" p_is_pattern [] sp_is_pattern := by
  obtain ⟨fd, F⟩ := T.f_is_pattern
  refine ⟨_, fd, [], F.ok sc_is_pattern (fun vs H Q E h => ?_) (fun cdv A outer s H vs Q E hr h => ?_), T.g_is_pattern, F.kp, .nil, F.bindsN fun _ _ _ _ _ _ us hl => match us, hl with | [_], _ => rfl⟩
  · obtain ⟨z, rfl, _⟩ := h; rfl
  · obtain ⟨z, rfl, hz, q⟩ := h
    refine ⟨_, PSs.nox (pss_cons (ps_set (i := 1) sc_is_pattern.nd rfl (Or.inl rfl) (pe_split (pv 0) pe_str))
      (pss_cons (ps_if (pt_cmpR op_eq (pe_ix (ix_listK (K := K) rfl) (pv 1) (pe_un un_neg pe_int) (fun _ _ => rfl)) (pe_gs T.c_REST (by rfl)) (nomark _))
      (pss_one (ps_expr (pe_bm0K (K := K) rfl PySem.F.plainAttrs_list PySem.F.slot_list_pop PySem.F.type_list_pop mt_pop (pv 1))))
      pss_nil)
      (pss_one (ps_ret (pe_and (pe_cmpR op_le (pe_callB (call_len_seqK (K := K) rfl) (by rfl) T.b_len (by decide +kernel) (pa_cons (pv 1) pa_nil)) (pe_gi T.c_MOST_WORDS (by rfl)) (nomark _)) (pe_one (pe_callB (cr_allK (K := K) rfl rfl) (by rfl) T.b_all (by decide +kernel) (pa_cons (pe_lc (own := [("word", 2)]) (g := (gName 2)) (tt := tYes) rfl sc_is_pattern.nd (pi_listK (K := K) rfl (pv 1)) (blkOk_by (by kernel_rfl)) (fun _ _ _ _ _ => (pg_name (i := 2) sc_is_pattern.nd rfl (Or.inl rfl))) (fun _ _ _ _ _ => pts_nil) (fun _ _ _ _ _ => (pe_or (pe_cmpR op_eq (pv 2) (pe_gs T.c_ANY (by rfl)) (nomark _)) (pe_one (pe_callG (G_is_word T) (hr.mono (by decide)) (by rfl) pass0 (pa_cons (pv 2) pa_nil)))))) pa_nil)))))))), ?_⟩
    simp only [tCutE, false_and, exists_false, false_or, or_false, tRet, tRetN, tAndV, tOrV, tNotV, tChain, rI, rI0, rU, tC, tCB, tCons, tNil, tVar, tOp, tUn, tTest, tB, tAnd, tOr, tNot, tIf, tIfS, tSeq, tAsg, tDrop, tNext, gName, gTup_ref, gCons_cons, gNil_nil, and_assoc, tYes, wipe, rEq, rNe, scal_ss, scal_ii, scal_bb, scal_ns, scal_sn, scal_nn, scal_in, scal_ni, tLc_eq, tFor_eq, iList, iTup, iStr, iRng1, iRng2, iZip, iEnum, gSub, tSl, rSetL_ref, rCat_ref, rRep_ref, rJoin_ref, rSlL_ref, rSlS_ref, rMulS_ref, rIxL_ref, rIxT_ref, rLenK_ref, rAll_ref, rIn_ref, tLst, tTup, tPar, tPar3, tAug, tPart, tNoPart, tCall, List.getElem?_cons_zero, List.getElem?_cons_succ, List.set_cons_zero, List.set_cons_succ, List.map_cons, List.map_nil, List.append_nil, List.nil_append, List.cons_append, Option.some.injEq, exists_eq_left', exists_eq_left, exists_eq_right, exists_eq_right', exists_eq', V.int.injEq, V.str.injEq, V.bl.injEq, V.ref.injEq, List.cons.injEq, tM0, tM1, rNewStrs, sgn_eq, split_dot, split_sp, split_nl, dot_len, sp_len, nl_len, cxOf_K, L2.start, List.length_cons, List.length_nil, List.replicate_succ, List.replicate_zero, Nat.reduceSub, Nat.zero_add, and_true, true_and, and_self, exists_and_left, exists_const, Bool.false_eq_true, if_false, if_true, ite_true, ite_false, reduceIte, decide_eq_true_eq, reduceCtorEq, Nat.reduceAdd, Nat.reduceLT, tListZip]
    have hl := wds_len z
    have fin : ∀ (p : Addr) (H1 : Hp), H p = none → Same H H1 → H1 p = some (.lst ((cut (wds z)).map V.str)) → ∃ ys, (SqL K H1 p ys ∨ SqT K H1 p ys) ∧ if (ys.length : Int) ≤ 6 then
        (∃ xs, SqL K H1 p xs) ∧ LcG (Itl K p) (gName 2) tYes (tOrV (tOp rEq (tVar 2) (tC (V.str (Str.ofString "*")))) (tCall sp_is_word [] E0 (tCons (tVar 2) tNil))) [2] [some (V.str z), some (V.ref p), none] H1 fun x H1 => rAll K [x] H1 Q
      else Q (V.bl false) H1 := by
      intro p H1 hp s1 hc
      have hcl : (cut (wds z)).length ≤ (wds z).length := by
        unfold cut; split
        · rw [List.length_dropLast]; omega
        · exact Nat.le_refl _
      have hcm : ∀ w ∈ cut (wds z), w ∈ wds z := by
        unfold cut; split
        · exact fun w hw => List.dropLast_subset _ hw
        · exact fun w hw => hw
      refine ⟨_, .inl (.of hc), ?_⟩
      rw [List.length_map]
      split
      · rename_i h1
        refine ⟨⟨_, .of hc⟩, lc_map (cut (wds z)) (fun w => V.bl (starOr w)) (walk_listm (cut (wds z)) V.str) (by omega) (fun H2 s2 => s2.seq (.of hc)) (fun i a x H1 H' R hx s2 hy r => ?_) (fun D H1 nD s2 hD => ?_)⟩
        · obtain ⟨rfl, y, hy, rfl⟩ := hy
          cases Option.some.inj (hx.symm.trans hy)
          simp only [tCutE, false_and, exists_false, false_or, or_false, tRet, tRetN, tAndV, tOrV, tNotV, tChain, rI, rI0, rU, tC, tCB, tCons, tNil, tVar, tOp, tUn, tTest, tB, tAnd, tOr, tNot, tIf, tIfS, tSeq, tAsg, tDrop, tNext, gName, gTup_ref, gCons_cons, gNil_nil, and_assoc, tYes, wipe, rEq, rNe, scal_ss, scal_ii, scal_bb, scal_ns, scal_sn, scal_nn, scal_in, scal_ni, tLc_eq, tFor_eq, iList, iTup, iStr, iRng1, iRng2, iZip, iEnum, gSub, tSl, rSetL_ref, rCat_ref, rRep_ref, rJoin_ref, rSlL_ref, rSlS_ref, rMulS_ref, rIxL_ref, rIxT_ref, rLenK_ref, rAll_ref, rIn_ref, tLst, tTup, tPar, tPar3, tAug, tPart, tNoPart, tCall, List.getElem?_cons_zero, List.getElem?_cons_succ, List.set_cons_zero, List.set_cons_succ, List.map_cons, List.map_nil, List.append_nil, List.nil_append, List.cons_append, Option.some.injEq, exists_eq_left', exists_eq_left, exists_eq_right, exists_eq_right', exists_eq', V.int.injEq, V.str.injEq, V.bl.injEq, V.ref.injEq, List.cons.injEq, tM0, tM1, rNewStrs, sgn_eq, split_dot, split_sp, split_nl, dot_len, sp_len, nl_len, cxOf_K, L2.start, List.length_cons, List.length_nil, List.replicate_succ, List.replicate_zero, Nat.reduceSub, Nat.zero_add, and_true, true_and, and_self, exists_and_left, exists_const, Bool.false_eq_true, if_false, if_true, ite_true, ite_false, reduceIte, decide_eq_true_eq, reduceCtorEq, Nat.reduceAdd, Nat.reduceLT, tListZip]
          have := wds_each z a (hcm a (List.mem_of_getElem? hx))
          unfold starOr at r
          split
          · rename_i e
            subst e
            simp only [decide_true, Bool.true_or] at r
            exact r _ (Same.refl _)
          · rename_i e
            rw [decide_eq_false e, Bool.false_or] at r
            exact ⟨a, rfl, by omega, r⟩
        · refine ⟨D, (cut (wds z)).map starOr, rfl, .of (by rw [hD, List.map_map]; rfl), ?_⟩
          have e : isPat z = List.all ((cut (wds z)).map starOr) id := by
            unfold isPat
            rw [decide_eq_true (by omega : (cut (wds z)).length ≤ 6), List.all_map]
            rfl
          rw [← e]
          exact q _ (s1.trans s2)
      · have e : isPat z = false := by
          unfold isPat
          rw [decide_eq_false (by omega : ¬ (cut (wds z)).length ≤ 6)]; simp
        rw [← e]; exact q _ s1
    refine ⟨small (by omega), fun p hp => ⟨_, .of upd_same, ?_⟩⟩
    have s1 : Same H (upd H p (HO.lst (List.map V.str (wds z)))) := same_put (Same.refl _) hp
    obtain ⟨x, e1, e2⟩ := last_str (wds_ne z)
    refine ⟨.str x, (atI_neg1 (by simpa using wds_ne z)).trans e1, rfl, ?_⟩
    split
    · rename_i e
      cases e
      refine ⟨_, rfl, .inl ⟨rfl, _, .of upd_same⟩, p, _, .str ("#" : Str), rfl, rfl, upd_same, ?_, ?_⟩
      · rw [← List.getLast?_eq_getElem?]; exact e1
      · refine fin p _ hp (same_put s1 hp) ?_
        rw [upd_same]
        unfold cut
        rw [if_pos e2, List.map_dropLast]
    · rename_i e
      refine fin p _ hp s1 ?_
      rw [upd_same]
      unfold cut
      rw [if_neg (fun z => e (by rw [e2] at z; exact congrArg V.str (Option.some.inj z)))]
/-! ### need_line, need_pattern -/
def sp_need_line (K : PySem.W.Frag) : Sp := fun vs H Q E => ∃ z : Str, vs = [.str z] ∧ z.length ≤ 10000 ∧ (isLine z = true → ∀ H', Same H H' → Q .non H') ∧ (isLine z = false → ∀ H', Same H H' → E (.ref (He.ga K "BadLine")) none H')
theorem G_need_line (T : Tx K mg) : Glob P w K mg base (L2.CX P w) 3 "need_line" p_need_line [] (sp_need_line K) := by
  obtain ⟨fd, F⟩ := T.f_need_line
  refine ⟨_, fd, [], F.ok sc_need_line (fun vs H Q E h => ?_) (fun cdv A outer s H vs Q E hr h => ?_), T.g_need_line, F.kp, .nil, F.bindsN fun _ _ _ _ _ _ us hl => match us, hl with | [_], _ => rfl⟩
  · obtain ⟨z, rfl, _⟩ := h; rfl
  · obtain ⟨z, rfl, hz, q1, q2⟩ := h
    refine ⟨_, (pss_one (ps_if (pt_not (pt_val (pe_callG (G_is_line T) (hr.mono (by decide)) (by rfl) pass0 (pa_cons (pv 0) pa_nil))))
      (pss_one (ps_raise rfl (takes_of rfl rfl rfl rfl) (pmk_own PySem.F.excBase_ValueError T.x_BadLine.1 T.g_BadLine T.x_BadLine.2.1 (raises_own T.x_BadLine.2.2.1 T.x_BadLine.2.2.2) rfl)))
      pss_nil)), ?_⟩
    simp only [tCutE, false_and, exists_false, false_or, or_false, tRet, tRetN, tAndV, tOrV, tNotV, tChain, rI, rI0, rU, tC, tCB, tCons, tNil, tVar, tOp, tUn, tTest, tB, tAnd, tOr, tNot, tIf, tIfS, tSeq, tAsg, tDrop, tNext, gName, gTup_ref, gCons_cons, gNil_nil, and_assoc, tYes, wipe, rEq, rNe, scal_ss, scal_ii, scal_bb, scal_ns, scal_sn, scal_nn, scal_in, scal_ni, tLc_eq, tFor_eq, iList, iTup, iStr, iRng1, iRng2, iZip, iEnum, gSub, tSl, rSetL_ref, rCat_ref, rRep_ref, rJoin_ref, rSlL_ref, rSlS_ref, rMulS_ref, rIxL_ref, rIxT_ref, rLenK_ref, rAll_ref, rIn_ref, tLst, tTup, tPar, tPar3, tAug, tPart, tNoPart, tCall, List.getElem?_cons_zero, List.getElem?_cons_succ, List.set_cons_zero, List.set_cons_succ, List.map_cons, List.map_nil, List.append_nil, List.nil_append, List.cons_append, Option.some.injEq, exists_eq_left', exists_eq_left, exists_eq_right, exists_eq_right', exists_eq', V.int.injEq, V.str.injEq, V.bl.injEq, V.ref.injEq, List.cons.injEq, tM0, tM1, rNewStrs, sgn_eq, split_dot, split_sp, split_nl, dot_len, sp_len, nl_len, cxOf_K, L2.start, List.length_cons, List.length_nil, List.replicate_succ, List.replicate_zero, Nat.reduceSub, Nat.zero_add, and_true, true_and, and_self, exists_and_left, exists_const, Bool.false_eq_true, if_false, if_true, ite_true, ite_false, reduceIte, decide_eq_true_eq, reduceCtorEq, Nat.reduceAdd, Nat.reduceLT, tListZip]
    refine ⟨z, rfl, hz, fun H' s1 => ⟨_, rfl, ?_⟩⟩
    cases e : isLine z with
    | true => exact iteF (q1 e H' s1)
    | false => exact iteT (q2 e H' s1)
def sp_need_pattern (K : PySem.W.Frag) : Sp := fun vs H Q E => ∃ z : Str, vs = [.str z] ∧ z.length ≤ 10000 ∧ (isPat z = true → ∀ H', Same H H' → Q .non H') ∧ (isPat z = false → ∀ H', Same H H' → E (.ref (He.ga K "BadPattern")) none H')
theorem G_need_pattern (T : Tx K mg) : Glob P w K mg base (L2.CX P w) 3 "need_pattern" p_need_pattern [] (sp_need_pattern K) := by
  obtain ⟨fd, F⟩ := T.f_need_pattern
  refine ⟨_, fd, [], F.ok sc_need_pattern (fun vs H Q E h => ?_) (fun cdv A outer s H vs Q E hr h => ?_), T.g_need_pattern, F.kp, .nil, F.bindsN fun _ _ _ _ _ _ us hl => match us, hl with | [_], _ => rfl⟩
  · obtain ⟨z, rfl, _⟩ := h; rfl
  · obtain ⟨z, rfl, hz, q1, q2⟩ := h
    refine ⟨_, (pss_one (ps_if (pt_not (pt_val (pe_callG (G_is_pattern T) (hr.mono (by decide)) (by rfl) pass0 (pa_cons (pv 0) pa_nil))))
      (pss_one (ps_raise rfl (takes_of rfl rfl rfl rfl) (pmk_own PySem.F.excBase_ValueError T.x_BadPattern.1 T.g_BadPattern T.x_BadPattern.2.1 (raises_own T.x_BadPattern.2.2.1 T.x_BadPattern.2.2.2) rfl)))
      pss_nil)), ?_⟩
    simp only [tCutE, false_and, exists_false, false_or, or_false, tRet, tRetN, tAndV, tOrV, tNotV, tChain, rI, rI0, rU, tC, tCB, tCons, tNil, tVar, tOp, tUn, tTest, tB, tAnd, tOr, tNot, tIf, tIfS, tSeq, tAsg, tDrop, tNext, gName, gTup_ref, gCons_cons, gNil_nil, and_assoc, tYes, wipe, rEq, rNe, scal_ss, scal_ii, scal_bb, scal_ns, scal_sn, scal_nn, scal_in, scal_ni, tLc_eq, tFor_eq, iList, iTup, iStr, iRng1, iRng2, iZip, iEnum, gSub, tSl, rSetL_ref, rCat_ref, rRep_ref, rJoin_ref, rSlL_ref, rSlS_ref, rMulS_ref, rIxL_ref, rIxT_ref, rLenK_ref, rAll_ref, rIn_ref, tLst, tTup, tPar, tPar3, tAug, tPart, tNoPart, tCall, List.getElem?_cons_zero, List.getElem?_cons_succ, List.set_cons_zero, List.set_cons_succ, List.map_cons, List.map_nil, List.append_nil, List.nil_append, List.cons_append, Option.some.injEq, exists_eq_left', exists_eq_left, exists_eq_right, exists_eq_right', exists_eq', V.int.injEq, V.str.injEq, V.bl.injEq, V.ref.injEq, List.cons.injEq, tM0, tM1, rNewStrs, sgn_eq, split_dot, split_sp, split_nl, dot_len, sp_len, nl_len, cxOf_K, L2.start, List.length_cons, List.length_nil, List.replicate_succ, List.replicate_zero, Nat.reduceSub, Nat.zero_add, and_true, true_and, and_self, exists_and_left, exists_const, Bool.false_eq_true, if_false, if_true, ite_true, ite_false, reduceIte, decide_eq_true_eq, reduceCtorEq, Nat.reduceAdd, Nat.reduceLT, tListZip]
    refine ⟨z, rfl, hz, fun H' s1 => ⟨_, rfl, ?_⟩⟩
    cases e : isPat z with
    | true => exact iteF (q1 e H' s1)
    | false => exact iteT (q2 e H' s1)
/-! ### of_length -/
def sp_of_length : Sp := fun vs H Q _ => ∃ (z : Str) (n : Int), vs = [.str z, .int n] ∧ z.length ≤ 10000 ∧ -10000 ≤ n ∧ n ≤ 10000 ∧
  (ofLen z n = none → ∀ H', Same H H' → Q .non H') ∧ (∀ ws, ofLen z n = some ws → ∀ H' p, Same H H' → H p = none → H' p = some (.lst (ws.map V.str)) → Q (.ref p) H')
theorem G_of_length (T : Tx K mg) : Glob P w K mg base (CX0) 1 "of_length" p_of_length [] sp_of_length := by
  obtain ⟨fd, F⟩ := T.f_of_length
  refine ⟨_, fd, [], F.ok sc_of_length (fun vs H Q E h => ?_) (fun cdv A outer s H vs Q E hr h => ?_), T.g_of_length, F.kp, .nil, F.bindsN fun _ _ _ _ _ _ us hl => match us, hl with | [_, _], _ => rfl⟩
  · obtain ⟨z, n, rfl, _⟩ := h; rfl
  · obtain ⟨z, n, rfl, hz, hn0, hn, q1, q2⟩ := h
    refine ⟨_, PSs.nox (pss_cons (ps_set (i := 2) sc_of_length.nd rfl (Or.inl rfl) (pe_split (pv 0) pe_str))
      (pss_cons (ps_if (pt_cmpR op_eq (pe_ix (ix_listK (K := K) rfl) (pv 2) (pe_un un_neg pe_int) (fun _ _ => rfl)) (pe_gs T.c_REST (by rfl)) (nomark _))
      (pss_cons (ps_expr (pe_bm0K (K := K) rfl PySem.F.plainAttrs_list PySem.F.slot_list_pop PySem.F.type_list_pop mt_pop (pv 2)))
      (pss_one (ps_aug (i := 2) sc_of_length.nd rfl (Or.inl rfl) (pe_op op_rep (pe_lst (pa_cons (pe_gs T.c_ANY (by rfl)) pa_nil)) (pe_op op_sub (pv 1) (pe_callB (call_len_seqK (K := K) rfl) (by rfl) T.b_len (by decide +kernel) (pa_cons (pv 2) pa_nil)))) iop_ext)))
      pss_nil)
      (pss_one (ps_ret (pe_ifExp (pt_cmpR op_eq (pe_callB (call_len_seqK (K := K) rfl) (by rfl) T.b_len (by decide +kernel) (pa_cons (pv 2) pa_nil)) (pv 1) (nomark _)) (pv 2) pe_non))))), ?_⟩
    simp only [tCutE, false_and, exists_false, false_or, or_false, tRet, tRetN, tAndV, tOrV, tNotV, tChain, rI, rI0, rU, tC, tCB, tCons, tNil, tVar, tOp, tUn, tTest, tB, tAnd, tOr, tNot, tIf, tIfS, tSeq, tAsg, tDrop, tNext, gName, gTup_ref, gCons_cons, gNil_nil, and_assoc, tYes, wipe, rEq, rNe, scal_ss, scal_ii, scal_bb, scal_ns, scal_sn, scal_nn, scal_in, scal_ni, tLc_eq, tFor_eq, iList, iTup, iStr, iRng1, iRng2, iZip, iEnum, gSub, tSl, rSetL_ref, rCat_ref, rRep_ref, rJoin_ref, rSlL_ref, rSlS_ref, rMulS_ref, rIxL_ref, rIxT_ref, rLenK_ref, rAll_ref, rIn_ref, tLst, tTup, tPar, tPar3, tAug, tPart, tNoPart, tCall, List.getElem?_cons_zero, List.getElem?_cons_succ, List.set_cons_zero, List.set_cons_succ, List.map_cons, List.map_nil, List.append_nil, List.nil_append, List.cons_append, Option.some.injEq, exists_eq_left', exists_eq_left, exists_eq_right, exists_eq_right', exists_eq', V.int.injEq, V.str.injEq, V.bl.injEq, V.ref.injEq, List.cons.injEq, tM0, tM1, rNewStrs, sgn_eq, split_dot, split_sp, split_nl, dot_len, sp_len, nl_len, cxOf_K, L2.start, List.length_cons, List.length_nil, List.replicate_succ, List.replicate_zero, Nat.reduceSub, Nat.zero_add, and_true, true_and, and_self, exists_and_left, exists_const, Bool.false_eq_true, if_false, if_true, ite_true, ite_false, reduceIte, decide_eq_true_eq, reduceCtorEq, Nat.reduceAdd, Nat.reduceLT, tListZip]
    have hl := wds_len z
    refine ⟨small (by omega), fun p hp => ⟨_, .of upd_same, ?_⟩⟩
    have s1 : Same H (upd H p (HO.lst (List.map V.str (wds z)))) := same_put (Same.refl _) hp
    obtain ⟨x, e1, e2⟩ := last_str (wds_ne z)
    refine ⟨.str x, (atI_neg1 (by simpa using wds_ne z)).trans e1, rfl, ?_⟩
    split
    · rename_i e
      cases e
      refine ⟨_, rfl, .inl ⟨rfl, _, .of upd_same⟩, p, _, .str ("#" : Str), rfl, rfl, upd_same, ?_, ?_⟩
      · rw [← List.getLast?_eq_getElem?]; exact e1
      have ed : (List.map V.str (wds z)).dropLast = ((wds z).dropLast).map V.str := by rw [List.map_dropLast]
      rw [ed]
      have s2 : Same H (upd (upd H p (HO.lst (List.map V.str (wds z)))) p (HO.lst (List.map V.str (wds z).dropLast))) := same_put s1 hp
      generalize hH2 : upd (upd H p (HO.lst (List.map V.str (wds z)))) p (HO.lst (List.map V.str (wds z).dropLast)) = H2 at s2
      have hp2 : H2 p = some (.lst ((wds z).dropLast.map V.str)) := by rw [← hH2, upd_same]
      refine ⟨by decide, fun r hr => ?_⟩
      have npr : p ≠ r := ne_of_none hp2 hr
      refine ⟨_, .inl (.of (by rw [upd_ne npr]; exact hp2)), _, upd_same, ?_, ?_, ?_, fun t ht => ?_⟩
      · rw [List.length_map, List.length_dropLast]; omega
      · omega
      · simp only [List.length_singleton]; exact small (by omega)
      have npt : p ≠ t := by
        intro e; subst e
        rw [upd_ne npr, hp2] at ht; cases ht
      have nrt : r ≠ t := by
        intro e; subst e
        rw [upd_same] at ht; cases ht
      have hdl : (wds z).dropLast.length = (wds z).length - 1 := List.length_dropLast
      refine ⟨p, t, (wds z).dropLast.map V.str, _, rfl, rfl, by rw [upd_ne npt, upd_ne npr]; exact hp2, upd_same, ?_, ?_⟩
      · rw [List.length_map, List.length_flatten, List.map_replicate, List.sum_replicate_nat]; simp only [List.length_singleton, List.length_map]; exact small (by omega)
      have eo : (wds z).dropLast.map V.str ++ (List.replicate (n - ((wds z).dropLast.map V.str).length).toNat [V.str (Str.ofString "*")]).flatten = ((wds z).dropLast ++ List.replicate (n - (wds z).dropLast.length).toNat ("*" : Str)).map V.str := by
        rw [List.map_append, List.map_replicate, List.length_map, List.flatten_replicate_singleton]
      rw [eo]
      have s3 : Same H (upd (upd (upd H2 r (HO.lst [V.str (Str.ofString "*")])) t (HO.lst (List.replicate (n - ((wds z).dropLast.map V.str).length).toNat [V.str (Str.ofString "*")]).flatten)) p (HO.lst (((wds z).dropLast ++ List.replicate (n - (wds z).dropLast.length).toNat ("*" : Str)).map V.str))) :=
        same_put (same_new (same_new s2 hr) ht) hp
      simp only [tCutE, false_and, exists_false, false_or, or_false, tRet, tRetN, tAndV, tOrV, tNotV, tChain, rI, rI0, rU, tC, tCB, tCons, tNil, tVar, tOp, tUn, tTest, tB, tAnd, tOr, tNot, tIf, tIfS, tSeq, tAsg, tDrop, tNext, gName, gTup_ref, gCons_cons, gNil_nil, and_assoc, tYes, wipe, rEq, rNe, scal_ss, scal_ii, scal_bb, scal_ns, scal_sn, scal_nn, scal_in, scal_ni, tLc_eq, tFor_eq, iList, iTup, iStr, iRng1, iRng2, iZip, iEnum, gSub, tSl, rSetL_ref, rCat_ref, rRep_ref, rJoin_ref, rSlL_ref, rSlS_ref, rMulS_ref, rIxL_ref, rIxT_ref, rLenK_ref, rAll_ref, rIn_ref, tLst, tTup, tPar, tPar3, tAug, tPart, tNoPart, tCall, List.getElem?_cons_zero, List.getElem?_cons_succ, List.set_cons_zero, List.set_cons_succ, List.map_cons, List.map_nil, List.append_nil, List.nil_append, List.cons_append, Option.some.injEq, exists_eq_left', exists_eq_left, exists_eq_right, exists_eq_right', exists_eq', V.int.injEq, V.str.injEq, V.bl.injEq, V.ref.injEq, List.cons.injEq, tM0, tM1, rNewStrs, sgn_eq, split_dot, split_sp, split_nl, dot_len, sp_len, nl_len, cxOf_K, L2.start, List.length_cons, List.length_nil, List.replicate_succ, List.replicate_zero, Nat.reduceSub, Nat.zero_add, and_true, true_and, and_self, exists_and_left, exists_const, Bool.false_eq_true, if_false, if_true, ite_true, ite_false, reduceIte, decide_eq_true_eq, reduceCtorEq, Nat.reduceAdd, Nat.reduceLT, tListZip]
      refine ⟨_, .inl (.of upd_same), ?_⟩
      rw [List.length_map]
      have eq : ofLen z n = if ((((wds z).dropLast ++ List.replicate (n - (wds z).dropLast.length).toNat ("*" : Str)).length : Int) = n) then some ((wds z).dropLast ++ List.replicate (n - (wds z).dropLast.length).toNat ("*" : Str)) else none := by
        unfold ofLen
        simp only [if_pos e2]
      split
      · rename_i h1
        rw [if_pos h1] at eq
        exact q2 _ eq _ p s3 hp upd_same
      · rename_i h1
        rw [if_neg h1] at eq
        exact q1 eq _ s3
    · rename_i e
      refine ⟨_, .inl (.of upd_same), ?_⟩
      rw [List.length_map]
      have e3 : ¬ (wds z).getLast? = some ("#" : Str) := fun z => e (by rw [e2] at z; exact congrArg V.str (Option.some.inj z))
      have eq : ofLen z n = if ((wds z).length : Int) = n then some (wds z) else none := by
        unfold ofLen
        simp only [if_neg e3]
      split
      · rename_i h1
        rw [if_pos h1] at eq
        exact q2 _ eq _ p s1 hp upd_same
      · rename_i h1
        rw [if_neg h1] at eq
        exact q1 eq _ s1
/-! ### does_fit -/
theorem ofLen_len {p : Str} {n : Int} {ws : List Str} (h : ofLen p n = some ws) : (ws.length : Int) = n := by
  unfold ofLen at h
  simp only at h
  split at h
  · split at h
    · rename_i e
      cases h; exact e
    · cases h
  · split at h
    · rename_i e
      cases h; exact e
    · cases h
def sp_does_fit : Sp := fun vs H Q _ => ∃ (z l : Str), vs = [.str z, .str l] ∧ z.length ≤ 10000 ∧ l.length ≤ 5000 ∧ ∀ H', Same H H' → Q (.bl (doesFit z l)) H'
theorem G_does_fit (T : Tx K mg) : Glob P w K mg base (CX0) 2 "does_fit" p_does_fit [] sp_does_fit := by
  obtain ⟨fd, F⟩ := T.f_does_fit
  refine ⟨_, fd, [], F.ok sc_does_fit (fun vs H Q E h => ?_) (fun cdv A outer s H vs Q E hr h => ?_), T.g_does_fit, F.kp, .nil, F.bindsN fun _ _ _ _ _ _ us hl => match us, hl with | [_, _], _ => rfl⟩
  · obtain ⟨z, l, rfl, _⟩ := h; rfl
  · obtain ⟨z, l, rfl, hz, hl, q⟩ := h
    refine ⟨_, PSs.nox (pss_cons (ps_set (i := 2) sc_does_fit.nd rfl (Or.inl rfl) (pe_split (pv 1) pe_str))
      (pss_cons (ps_set (i := 3) sc_does_fit.nd rfl (Or.inl rfl) (pe_callG (G_of_length T) (hr.mono (by decide)) (by rfl) pass0 (pa_cons (pv 0) (pa_cons (pe_callB (call_len_seqK (K := K) rfl) (by rfl) T.b_len (by decide +kernel) (pa_cons (pv 2) pa_nil)) pa_nil))))
      (pss_one (ps_ret (pe_and (pe_cmpR op_notN (pv 3) pe_non (nomark _)) (pe_one (pe_callB (cr_allK (K := K) rfl rfl) (by rfl) T.b_all (by decide +kernel) (pa_cons (pe_lc (own := [("word", 4), ("part", 5)]) (g := (gTup K 2 (gCons (gName 4) (gCons (gName 5) gNil)))) (tt := tYes) rfl sc_does_fit.nd (pi_zipK (K := K) rfl (by rfl) T.b_zip (pa_cons (pv 3) (pa_cons (pv 2) pa_nil))) (blkOk_by (by kernel_rfl)) (fun _ _ _ _ _ => (pg_tupK (K := K) rfl rfl (pgs_cons (pg_name (i := 4) sc_does_fit.nd rfl (Or.inl rfl)) (pgs_cons (pg_name (i := 5) sc_does_fit.nd rfl (Or.inl rfl)) pgs_nil)))) (fun _ _ _ _ _ => pts_nil) (fun _ _ _ _ _ => (pe_cmpR (op_in_seqK (K := K) rfl) (pv 4) (pe_tup (pa_cons (pe_gs T.c_ANY (by rfl)) (pa_cons (pv 5) pa_nil))) (by rfl)))) pa_nil)))))))), ?_⟩
    simp only [tCutE, false_and, exists_false, false_or, or_false, tRet, tRetN, tAndV, tOrV, tNotV, tChain, rI, rI0, rU, tC, tCB, tCons, tNil, tVar, tOp, tUn, tTest, tB, tAnd, tOr, tNot, tIf, tIfS, tSeq, tAsg, tDrop, tNext, gName, gTup_ref, gCons_cons, gNil_nil, and_assoc, tYes, wipe, rEq, rNe, scal_ss, scal_ii, scal_bb, scal_ns, scal_sn, scal_nn, scal_in, scal_ni, tLc_eq, tFor_eq, iList, iTup, iStr, iRng1, iRng2, iZip, iEnum, gSub, tSl, rSetL_ref, rCat_ref, rRep_ref, rJoin_ref, rSlL_ref, rSlS_ref, rMulS_ref, rIxL_ref, rIxT_ref, rLenK_ref, rAll_ref, rIn_ref, tLst, tTup, tPar, tPar3, tAug, tPart, tNoPart, tCall, List.getElem?_cons_zero, List.getElem?_cons_succ, List.set_cons_zero, List.set_cons_succ, List.map_cons, List.map_nil, List.append_nil, List.nil_append, List.cons_append, Option.some.injEq, exists_eq_left', exists_eq_left, exists_eq_right, exists_eq_right', exists_eq', V.int.injEq, V.str.injEq, V.bl.injEq, V.ref.injEq, List.cons.injEq, tM0, tM1, rNewStrs, sgn_eq, split_dot, split_sp, split_nl, dot_len, sp_len, nl_len, cxOf_K, L2.start, List.length_cons, List.length_nil, List.replicate_succ, List.replicate_zero, Nat.reduceSub, Nat.zero_add, and_true, true_and, and_self, exists_and_left, exists_const, Bool.false_eq_true, if_false, if_true, ite_true, ite_false, reduceIte, decide_eq_true_eq, reduceCtorEq, Nat.reduceAdd, Nat.reduceLT, tListZip]
    have hw := wds_len l
    refine ⟨small (by omega), fun p hp => ⟨_, .inl (.of upd_same), ?_⟩⟩
    have s1 : Same H (upd H p (HO.lst (List.map V.str (wds l)))) := same_put (Same.refl _) hp
    have el : (List.map V.str (wds l)).length = (wds l).length := by rw [List.length_map]
    rw [el]
    refine ⟨z, _, rfl, hz, by omega, by omega, fun e H' s2 => ?_, fun ws e H' r s2 hr hr' => ?_⟩
    · simp only [decide_true, Bool.not_true, Bool.false_eq_true, if_false]
      have e2 : doesFit z l = false := by unfold doesFit; rw [e]
      rw [← e2]
      exact q _ (s1.trans s2)
    · simp only [reduceCtorEq, decide_false, Bool.not_false, if_true]
      have e2 : doesFit z l = (ws.zip (wds l)).all fit1 := by unfold doesFit; rw [e]
      have hp' : H' p = some (.lst ((wds l).map V.str)) := s2 _ _ upd_same
      have hwl := ofLen_len e
      simp only [tCutE, false_and, exists_false, false_or, or_false, tRet, tRetN, tAndV, tOrV, tNotV, tChain, rI, rI0, rU, tC, tCB, tCons, tNil, tVar, tOp, tUn, tTest, tB, tAnd, tOr, tNot, tIf, tIfS, tSeq, tAsg, tDrop, tNext, gName, gTup_ref, gCons_cons, gNil_nil, and_assoc, tYes, wipe, rEq, rNe, scal_ss, scal_ii, scal_bb, scal_ns, scal_sn, scal_nn, scal_in, scal_ni, tLc_eq, tFor_eq, iList, iTup, iStr, iRng1, iRng2, iZip, iEnum, gSub, tSl, rSetL_ref, rCat_ref, rRep_ref, rJoin_ref, rSlL_ref, rSlS_ref, rMulS_ref, rIxL_ref, rIxT_ref, rLenK_ref, rAll_ref, rIn_ref, tLst, tTup, tPar, tPar3, tAug, tPart, tNoPart, tCall, List.getElem?_cons_zero, List.getElem?_cons_succ, List.set_cons_zero, List.set_cons_succ, List.map_cons, List.map_nil, List.append_nil, List.nil_append, List.cons_append, Option.some.injEq, exists_eq_left', exists_eq_left, exists_eq_right, exists_eq_right', exists_eq', V.int.injEq, V.str.injEq, V.bl.injEq, V.ref.injEq, List.cons.injEq, tM0, tM1, rNewStrs, sgn_eq, split_dot, split_sp, split_nl, dot_len, sp_len, nl_len, cxOf_K, L2.start, List.length_cons, List.length_nil, List.replicate_succ, List.replicate_zero, Nat.reduceSub, Nat.zero_add, and_true, true_and, and_self, exists_and_left, exists_const, Bool.false_eq_true, if_false, if_true, ite_true, ite_false, reduceIte, decide_eq_true_eq, reduceCtorEq, Nat.reduceAdd, Nat.reduceLT, tListZip]
      refine ⟨_, .of hr', _, .of hp', lc_map (ws.zip (wds l)) (fun q => V.bl (fit1 q)) (walk_zipm ws (wds l) V.str V.str) (by rw [List.length_zip]; omega) (fun H2 s3 => ⟨s3.seq (.of hr'), s3.seq (.of hp')⟩) (fun i a x H1 H3 R hx s3 hy r => ?_) (fun D H1 nD s3 hD => ?_)⟩
      · obtain ⟨t, y, rfl, ht, rfl, hy⟩ := hy
        cases Option.some.inj (hx.symm.trans hy)
        refine ⟨t, _, rfl, .of upd_same, rfl, ?_⟩
        simp only [tCutE, false_and, exists_false, false_or, or_false, tRet, tRetN, tAndV, tOrV, tNotV, tChain, rI, rI0, rU, tC, tCB, tCons, tNil, tVar, tOp, tUn, tTest, tB, tAnd, tOr, tNot, tIf, tIfS, tSeq, tAsg, tDrop, tNext, gName, gTup_ref, gCons_cons, gNil_nil, and_assoc, tYes, wipe, rEq, rNe, scal_ss, scal_ii, scal_bb, scal_ns, scal_sn, scal_nn, scal_in, scal_ni, tLc_eq, tFor_eq, iList, iTup, iStr, iRng1, iRng2, iZip, iEnum, gSub, tSl, rSetL_ref, rCat_ref, rRep_ref, rJoin_ref, rSlL_ref, rSlS_ref, rMulS_ref, rIxL_ref, rIxT_ref, rLenK_ref, rAll_ref, rIn_ref, tLst, tTup, tPar, tPar3, tAug, tPart, tNoPart, tCall, List.getElem?_cons_zero, List.getElem?_cons_succ, List.set_cons_zero, List.set_cons_succ, List.map_cons, List.map_nil, List.append_nil, List.nil_append, List.cons_append, Option.some.injEq, exists_eq_left', exists_eq_left, exists_eq_right, exists_eq_right', exists_eq', V.int.injEq, V.str.injEq, V.bl.injEq, V.ref.injEq, List.cons.injEq, tM0, tM1, rNewStrs, sgn_eq, split_dot, split_sp, split_nl, dot_len, sp_len, nl_len, cxOf_K, L2.start, List.length_cons, List.length_nil, List.replicate_succ, List.replicate_zero, Nat.reduceSub, Nat.zero_add, and_true, true_and, and_self, exists_and_left, exists_const, Bool.false_eq_true, if_false, if_true, ite_true, ite_false, reduceIte, decide_eq_true_eq, reduceCtorEq, Nat.reduceAdd, Nat.reduceLT, tListZip]
        refine ⟨by decide, fun u hu => ⟨_, .inr (.of upd_same), rfl, rfl, ?_⟩⟩
        have e3 : inV (V.str a.1) [V.str (Str.ofString "*"), V.str a.2] = fit1 a := by
          unfold inV fit1 eqV
          simp only [List.any_cons, List.any_nil, Bool.or_false]
          rw [beq_dec, beq_dec]
        rw [e3]
        exact r _ (same_new (same_new (Same.refl _) ht) hu)
      · refine ⟨D, (ws.zip (wds l)).map fit1, rfl, .of (by rw [hD, List.map_map]; rfl), ?_⟩
        have e4 : doesFit z l = List.all ((ws.zip (wds l)).map fit1) id := by
          rw [e2, List.all_map]; rfl
        rw [← e4]
        exact q _ ((s1.trans s2).trans s3)
/-! ### fits -/
def sp_fits (K : PySem.W.Frag) : Sp := fun vs H Q E => ∃ (z l : Str), vs = [.str z, .str l] ∧ z.length ≤ 10000 ∧ l.length ≤ 5000 ∧ (isPat z = true → isLine l = true → ∀ H', Same H H' → Q (.bl (doesFit z l)) H') ∧
  (isPat z = false → ∀ H', Same H H' → E (.ref (He.ga K "BadPattern")) none H') ∧ (isPat z = true → isLine l = false → ∀ H', Same H H' → E (.ref (He.ga K "BadLine")) none H')
theorem G_fits (T : Tx K mg) : Glob P w K mg base (L2.CX P w) 4 "fits" p_fits [] (sp_fits K) := by
  obtain ⟨fd, F⟩ := T.f_fits
  refine ⟨_, fd, [], F.ok sc_fits (fun vs H Q E h => ?_) (fun cdv A outer s H vs Q E hr h => ?_), T.g_fits, F.kp, .nil, F.bindsN fun _ _ _ _ _ _ us hl => match us, hl with | [_, _], _ => rfl⟩
  · obtain ⟨z, l, rfl, _⟩ := h; rfl
  · obtain ⟨z, l, rfl, hz, hl, q1, q2, q3⟩ := h
    refine ⟨_, (pss_cons (ps_expr (pe_callG (G_need_pattern T) (hr.mono (by decide)) (by rfl) (passes_call (takes_of rfl rfl rfl rfl) (fun _ _ _ _ h => h)) (pa_cons (pv 0) pa_nil)))
      (pss_cons (ps_expr (pe_callG (G_need_line T) (hr.mono (by decide)) (by rfl) (passes_call (takes_of rfl rfl rfl rfl) (fun _ _ _ _ h => h)) (pa_cons (pv 1) pa_nil)))
      (pss_one (ps_ret (pe_callG (G_does_fit T) (hr.mono (by decide)) (by rfl) pass0 (pa_cons (pv 0) (pa_cons (pv 1) pa_nil))))))), ?_⟩
    simp only [tCutE, false_and, exists_false, false_or, or_false, tRet, tRetN, tAndV, tOrV, tNotV, tChain, rI, rI0, rU, tC, tCB, tCons, tNil, tVar, tOp, tUn, tTest, tB, tAnd, tOr, tNot, tIf, tIfS, tSeq, tAsg, tDrop, tNext, gName, gTup_ref, gCons_cons, gNil_nil, and_assoc, tYes, wipe, rEq, rNe, scal_ss, scal_ii, scal_bb, scal_ns, scal_sn, scal_nn, scal_in, scal_ni, tLc_eq, tFor_eq, iList, iTup, iStr, iRng1, iRng2, iZip, iEnum, gSub, tSl, rSetL_ref, rCat_ref, rRep_ref, rJoin_ref, rSlL_ref, rSlS_ref, rMulS_ref, rIxL_ref, rIxT_ref, rLenK_ref, rAll_ref, rIn_ref, tLst, tTup, tPar, tPar3, tAug, tPart, tNoPart, tCall, List.getElem?_cons_zero, List.getElem?_cons_succ, List.set_cons_zero, List.set_cons_succ, List.map_cons, List.map_nil, List.append_nil, List.nil_append, List.cons_append, Option.some.injEq, exists_eq_left', exists_eq_left, exists_eq_right, exists_eq_right', exists_eq', V.int.injEq, V.str.injEq, V.bl.injEq, V.ref.injEq, List.cons.injEq, tM0, tM1, rNewStrs, sgn_eq, split_dot, split_sp, split_nl, dot_len, sp_len, nl_len, cxOf_K, L2.start, List.length_cons, List.length_nil, List.replicate_succ, List.replicate_zero, Nat.reduceSub, Nat.zero_add, and_true, true_and, and_self, exists_and_left, exists_const, Bool.false_eq_true, if_false, if_true, ite_true, ite_false, reduceIte, decide_eq_true_eq, reduceCtorEq, Nat.reduceAdd, Nat.reduceLT, tListZip]
    refine ⟨z, rfl, hz, fun e H1 s1 => ⟨l, rfl, by omega, fun e2 H2 s2 => ⟨z, l, rfl, hz, hl, fun H3 s3 => q1 e e2 _ ((s1.trans s2).trans s3)⟩, fun e2 H2 s2 => q3 e e2 _ (s1.trans s2)⟩, fun e H1 s1 => q2 e _ s1⟩
end
end Hk

set_option Elab.async false
set_option linter.all false
set_option maxRecDepth 100000
set_option maxHeartbeats 4000000
namespace Hk
open PySem PySem.Spec PyProof.Rows L2
section
variable {P : Program} {w : World} {K : PySem.W.Frag} {mg : Str → Option Value} {base : Heap}
/-! ### what is drawn from: a list of a number, the cells and a place -/
def SrcOk (H : Hp) (h l : Addr) : Prop := ∃ (m p : Int) (cs : List Int), H h = some (.lst [.int m, .ref l, .int p]) ∧ H l = some (.lst (cs.map V.int)) ∧ 0 ≤ m ∧ m < 2147483647 ∧ 0 ≤ p ∧ cs.length ≤ 63
abbrev DrS (h l : Addr) : Addr → Prop := fun b => b = h ∨ b = l
theorem SrcOk.ne {H : Hp} {h l : Addr} (s : SrcOk H h l) : h ≠ l := by
  obtain ⟨m, p, cs, e1, e2, _⟩ := s
  intro e; subst e
  rw [e1] at e2
  cases cs with
  | nil => cases e2
  | cons a r =>
    cases r with
    | nil => cases e2
    | cons b r => cases e2
def sp_law_mix (K : PySem.W.Frag) : Sp := fun vs H Q _ => ∃ (a : Addr) (ns : List Int) (sd : Int), vs = [.ref a, .int sd] ∧ SqL K H a (ns.map V.int) ∧ ns.length ≤ 63 ∧ 0 ≤ sd ∧ sd < 2147483647 ∧
  ∀ H' h l, Same H H' → H h = none → H l = none → SrcOk H' h l → Q (.ref h) H'
theorem G_law_mix (T : Tx K mg) : Glob P w K mg base (CX0) 1 "_law_mix" p_law_mix [] (sp_law_mix K) := by
  obtain ⟨fd, F⟩ := T.f_law_mix
  refine ⟨_, fd, [], F.ok sc_law_mix (fun vs H Q E h => ?_) (fun cdv A outer s H vs Q E hr h => ?_), T.g__law_mix, F.kp, .nil, F.bindsN fun _ _ _ _ _ _ us hl => match us, hl with | [_, _], _ => rfl⟩
  · obtain ⟨a, ns, sd, rfl, _⟩ := h; rfl
  · obtain ⟨a, ns, sd, rfl, hS, hn, h0, h1, q⟩ := h
    refine ⟨_, PSs.nox (pss_cons (ps_set (i := 2) sc_law_mix.nd rfl (Or.inl rfl) (pv 1))
      (pss_cons (ps_for PassesOwn.never rfl (pi_listK (K := K) rfl (pv 0)) (pg_name (i := 3) sc_law_mix.nd rfl (Or.inl rfl))
      (pss_one (ps_set (i := 2) sc_law_mix.nd rfl (Or.inl rfl) (pe_op op_mod (pe_op op_add (pe_op op_add (pe_op op_mul (pv 2) pe_int) (pe_op op_mod (pv 3) pe_int)) pe_int) pe_int))))
      (pss_one (ps_ret (pe_lst (pa_cons (pv 2) (pa_cons (pe_callTy (call_list_ofK (K := K) rfl) (by rfl) T.b_list (by decide +kernel) (pa_cons (pv 0) pa_nil)) (pa_cons pe_int pa_nil)))))))), ?_⟩
    simp only [tCutE, false_and, exists_false, false_or, or_false, tRet, tRetN, tAndV, tOrV, tNotV, tChain, rI, rI0, rU, tC, tCB, tCons, tNil, tVar, tOp, tUn, tTest, tB, tAnd, tOr, tNot, tIf, tIfS, tSeq, tAsg, tDrop, tNext, gName, gTup_ref, gCons_cons, gNil_nil, and_assoc, tYes, wipe, rEq, rNe, scal_ss, scal_ii, scal_bb, scal_ns, scal_sn, scal_nn, scal_in, scal_ni, tLc_eq, tFor_eq, iList, iTup, iStr, iRng1, iRng2, iZip, iEnum, gSub, tSl, rSetL_ref, rCat_ref, rRep_ref, rJoin_ref, rSlL_ref, rSlS_ref, rMulS_ref, rIxL_ref, rIxT_ref, rLenK_ref, rAll_ref, rIn_ref, tLst, tTup, tPar, tPar3, tAug, tPart, tNoPart, tCall, List.getElem?_cons_zero, List.getElem?_cons_succ, List.set_cons_zero, List.set_cons_succ, List.map_cons, List.map_nil, List.append_nil, List.nil_append, List.cons_append, Option.some.injEq, exists_eq_left', exists_eq_left, exists_eq_right, exists_eq_right', exists_eq', V.int.injEq, V.str.injEq, V.bl.injEq, V.ref.injEq, List.cons.injEq, tM0, tM1, rNewStrs, sgn_eq, split_dot, split_sp, split_nl, dot_len, sp_len, nl_len, cxOf_K, L2.start, List.length_cons, List.length_nil, List.replicate_succ, List.replicate_zero, Nat.reduceSub, Nat.zero_add, and_true, true_and, and_self, exists_and_left, exists_const, Bool.false_eq_true, if_false, if_true, ite_true, ite_false, reduceIte, decide_eq_true_eq, reduceCtorEq, Nat.reduceAdd, Nat.reduceLT, tListZip]
    refine ⟨⟨_, hS⟩, forG (walk_listm ns V.int) (fun i σ H' => ∃ m c, σ = [some (.ref a), some (.int sd), some (.int m), c] ∧ 0 ≤ m ∧ m < 2147483647 ∧ H' = H) ⟨sd, none, rfl, h0, h1, rfl⟩ (fun i σ H' _ ⟨m, c, _, _, _, e⟩ => by rw [e]; exact hS) (fun i x σ H1 H2 hi hP hy => ?_) (fun σ H1 hP => ?_)⟩
    · obtain ⟨m, c, rfl, hm0, hm1, rfl⟩ := hP
      obtain ⟨rfl, y, hy, rfl⟩ := hy
      simp only [tCutE, false_and, exists_false, false_or, or_false, tRet, tRetN, tAndV, tOrV, tNotV, tChain, rI, rI0, rU, tC, tCB, tCons, tNil, tVar, tOp, tUn, tTest, tB, tAnd, tOr, tNot, tIf, tIfS, tSeq, tAsg, tDrop, tNext, gName, gTup_ref, gCons_cons, gNil_nil, and_assoc, tYes, wipe, rEq, rNe, scal_ss, scal_ii, scal_bb, scal_ns, scal_sn, scal_nn, scal_in, scal_ni, tLc_eq, tFor_eq, iList, iTup, iStr, iRng1, iRng2, iZip, iEnum, gSub, tSl, rSetL_ref, rCat_ref, rRep_ref, rJoin_ref, rSlL_ref, rSlS_ref, rMulS_ref, rIxL_ref, rIxT_ref, rLenK_ref, rAll_ref, rIn_ref, tLst, tTup, tPar, tPar3, tAug, tPart, tNoPart, tCall, List.getElem?_cons_zero, List.getElem?_cons_succ, List.set_cons_zero, List.set_cons_succ, List.map_cons, List.map_nil, List.append_nil, List.nil_append, List.cons_append, Option.some.injEq, exists_eq_left', exists_eq_left, exists_eq_right, exists_eq_right', exists_eq', V.int.injEq, V.str.injEq, V.bl.injEq, V.ref.injEq, List.cons.injEq, tM0, tM1, rNewStrs, sgn_eq, split_dot, split_sp, split_nl, dot_len, sp_len, nl_len, cxOf_K, L2.start, List.length_cons, List.length_nil, List.replicate_succ, List.replicate_zero, Nat.reduceSub, Nat.zero_add, and_true, true_and, and_self, exists_and_left, exists_const, Bool.false_eq_true, if_false, if_true, ite_true, ite_false, reduceIte, decide_eq_true_eq, reduceCtorEq, Nat.reduceAdd, Nat.reduceLT, tListZip]
      refine ⟨.inr ⟨by omega, by omega⟩, by omega, by omega, ?_, ?_⟩
      · exact Int.emod_nonneg _ (by omega)
      · exact Int.emod_lt_of_pos _ (by omega)
    · obtain ⟨m, c, rfl, hm0, hm1, rfl⟩ := hP
      simp only [tCutE, false_and, exists_false, false_or, or_false, tRet, tRetN, tAndV, tOrV, tNotV, tChain, rI, rI0, rU, tC, tCB, tCons, tNil, tVar, tOp, tUn, tTest, tB, tAnd, tOr, tNot, tIf, tIfS, tSeq, tAsg, tDrop, tNext, gName, gTup_ref, gCons_cons, gNil_nil, and_assoc, tYes, wipe, rEq, rNe, scal_ss, scal_ii, scal_bb, scal_ns, scal_sn, scal_nn, scal_in, scal_ni, tLc_eq, tFor_eq, iList, iTup, iStr, iRng1, iRng2, iZip, iEnum, gSub, tSl, rSetL_ref, rCat_ref, rRep_ref, rJoin_ref, rSlL_ref, rSlS_ref, rMulS_ref, rIxL_ref, rIxT_ref, rLenK_ref, rAll_ref, rIn_ref, tLst, tTup, tPar, tPar3, tAug, tPart, tNoPart, tCall, List.getElem?_cons_zero, List.getElem?_cons_succ, List.set_cons_zero, List.set_cons_succ, List.map_cons, List.map_nil, List.append_nil, List.nil_append, List.cons_append, Option.some.injEq, exists_eq_left', exists_eq_left, exists_eq_right, exists_eq_right', exists_eq', V.int.injEq, V.str.injEq, V.bl.injEq, V.ref.injEq, List.cons.injEq, tM0, tM1, rNewStrs, sgn_eq, split_dot, split_sp, split_nl, dot_len, sp_len, nl_len, cxOf_K, L2.start, List.length_cons, List.length_nil, List.replicate_succ, List.replicate_zero, Nat.reduceSub, Nat.zero_add, and_true, true_and, and_self, exists_and_left, exists_const, Bool.false_eq_true, if_false, if_true, ite_true, ite_false, reduceIte, decide_eq_true_eq, reduceCtorEq, Nat.reduceAdd, Nat.reduceLT, tListZip]
      refine ⟨a, _, rfl, .inl hS, fun l hl => ?_⟩
      simp only [tCutE, false_and, exists_false, false_or, or_false, tRet, tRetN, tAndV, tOrV, tNotV, tChain, rI, rI0, rU, tC, tCB, tCons, tNil, tVar, tOp, tUn, tTest, tB, tAnd, tOr, tNot, tIf, tIfS, tSeq, tAsg, tDrop, tNext, gName, gTup_ref, gCons_cons, gNil_nil, and_assoc, tYes, wipe, rEq, rNe, scal_ss, scal_ii, scal_bb, scal_ns, scal_sn, scal_nn, scal_in, scal_ni, tLc_eq, tFor_eq, iList, iTup, iStr, iRng1, iRng2, iZip, iEnum, gSub, tSl, rSetL_ref, rCat_ref, rRep_ref, rJoin_ref, rSlL_ref, rSlS_ref, rMulS_ref, rIxL_ref, rIxT_ref, rLenK_ref, rAll_ref, rIn_ref, tLst, tTup, tPar, tPar3, tAug, tPart, tNoPart, tCall, List.getElem?_cons_zero, List.getElem?_cons_succ, List.set_cons_zero, List.set_cons_succ, List.map_cons, List.map_nil, List.append_nil, List.nil_append, List.cons_append, Option.some.injEq, exists_eq_left', exists_eq_left, exists_eq_right, exists_eq_right', exists_eq', V.int.injEq, V.str.injEq, V.bl.injEq, V.ref.injEq, List.cons.injEq, tM0, tM1, rNewStrs, sgn_eq, split_dot, split_sp, split_nl, dot_len, sp_len, nl_len, cxOf_K, L2.start, List.length_cons, List.length_nil, List.replicate_succ, List.replicate_zero, Nat.reduceSub, Nat.zero_add, and_true, true_and, and_self, exists_and_left, exists_const, Bool.false_eq_true, if_false, if_true, ite_true, ite_false, reduceIte, decide_eq_true_eq, reduceCtorEq, Nat.reduceAdd, Nat.reduceLT, tListZip]
      refine ⟨by decide, fun h hh => ?_⟩
      have nlh : l ≠ h := by
        intro e; subst e
        rw [upd_same] at hh; cases hh
      rw [upd_ne nlh.symm] at hh
      exact q _ h l (same_put (same_put (Same.refl _) hl) hh) hh hl ⟨m, 0, ns, upd_same, by rw [upd_ne nlh, upd_same], hm0, hm1, Int.le_refl _, hn⟩
def sp_law_next : Sp := fun vs H Q _ => ∃ (h l : Addr) (n : Int), vs = [.ref h, .int n] ∧ SrcOk H h l ∧ 0 < n ∧ n < 1073741824 ∧
  ∀ H' r, Ext (DrS h l) H H' → SrcOk H' h l → 0 ≤ r → r < n → Q (.int r) H'
theorem G_law_next (T : Tx K mg) : Glob P w K mg base (CX0) 1 "_law_next" p_law_next [] sp_law_next := by
  obtain ⟨fd, F⟩ := T.f_law_next
  refine ⟨_, fd, [], F.ok sc_law_next (fun vs H Q E h => ?_) (fun cdv A outer s H vs Q E hr h => ?_), T.g__law_next, F.kp, .nil, F.bindsN fun _ _ _ _ _ _ us hl => match us, hl with | [_, _], _ => rfl⟩
  · obtain ⟨h, l, n, rfl, _⟩ := h; rfl
  · obtain ⟨h, l, n, rfl, hS, h0, h1, q⟩ := h
    have hne := hS.ne
    obtain ⟨m, p, cs, e1, e2, hm0, hm1, hp, hc⟩ := hS
    refine ⟨_, PSs.nox (pss_cons (ps_set (i := 2) sc_law_next.nd rfl (Or.inl rfl) (pe_ix (ix_listK (K := K) rfl) (pe_op op_cat (pe_ix (ix_listK (K := K) rfl) (pv 0) pe_int (fun _ _ => rfl)) (pe_lst (pa_cons pe_int pa_nil))) (pe_op op_mod (pe_ix (ix_listK (K := K) rfl) (pv 0) pe_int (fun _ _ => rfl)) (pe_callB (call_max2 rfl) (by rfl) T.b_max (by decide +kernel) (pa_cons pe_int (pa_cons (pe_callB (call_len_seqK (K := K) rfl) (by rfl) T.b_len (by decide +kernel) (pa_cons (pe_ix (ix_listK (K := K) rfl) (pv 0) pe_int (fun _ _ => rfl)) pa_nil)) pa_nil)))) (fun _ _ => rfl)))
      (pss_cons (ps_if (pt_cmpR op_ge (pv 2) (pe_op op_pow pe_int pe_int) (nomark _))
      (pss_cons (ps_asg (pe_op op_fdiv (pv 2) (pv 1)) (pg_sub (pe_ix (ix_listK (K := K) rfl) (pv 0) pe_int (fun _ _ => rfl)) (pe_op op_mod (pe_ix (ix_listK (K := K) rfl) (pv 0) pe_int (fun _ _ => rfl)) (pe_callB (call_len_seqK (K := K) rfl) (by rfl) T.b_len (by decide +kernel) (pa_cons (pe_ix (ix_listK (K := K) rfl) (pv 0) pe_int (fun _ _ => rfl)) pa_nil))) set_list))
      (pss_one (ps_ret (pe_op op_mod (pv 2) (pv 1)))))
      pss_nil)
      (pss_cons (ps_asg (pe_op op_mod (pe_op op_add (pe_op op_add (pe_op op_mul (pe_ix (ix_listK (K := K) rfl) (pv 0) pe_int (fun _ _ => rfl)) pe_int) (pe_op op_mul (pv 2) pe_int)) pe_int) pe_int) (pg_sub (pv 0) pe_int set_list))
      (pss_cons (ps_asg (pe_op op_add (pe_ix (ix_listK (K := K) rfl) (pv 0) pe_int (fun _ _ => rfl)) pe_int) (pg_sub (pv 0) pe_int set_list))
      (pss_one (ps_ret (pe_op op_mod (pe_op op_fdiv (pe_ix (ix_listK (K := K) rfl) (pv 0) pe_int (fun _ _ => rfl)) pe_int) (pv 1)))))))), ?_⟩
    simp only [tCutE, false_and, exists_false, false_or, or_false, tRet, tRetN, tAndV, tOrV, tNotV, tChain, rI, rI0, rU, tC, tCB, tCons, tNil, tVar, tOp, tUn, tTest, tB, tAnd, tOr, tNot, tIf, tIfS, tSeq, tAsg, tDrop, tNext, gName, gTup_ref, gCons_cons, gNil_nil, and_assoc, tYes, wipe, rEq, rNe, scal_ss, scal_ii, scal_bb, scal_ns, scal_sn, scal_nn, scal_in, scal_ni, tLc_eq, tFor_eq, iList, iTup, iStr, iRng1, iRng2, iZip, iEnum, gSub, tSl, rSetL_ref, rCat_ref, rRep_ref, rJoin_ref, rSlL_ref, rSlS_ref, rMulS_ref, rIxL_ref, rIxT_ref, rLenK_ref, rAll_ref, rIn_ref, tLst, tTup, tPar, tPar3, tAug, tPart, tNoPart, tCall, List.getElem?_cons_zero, List.getElem?_cons_succ, List.set_cons_zero, List.set_cons_succ, List.map_cons, List.map_nil, List.append_nil, List.nil_append, List.cons_append, Option.some.injEq, exists_eq_left', exists_eq_left, exists_eq_right, exists_eq_right', exists_eq', V.int.injEq, V.str.injEq, V.bl.injEq, V.ref.injEq, List.cons.injEq, tM0, tM1, rNewStrs, sgn_eq, split_dot, split_sp, split_nl, dot_len, sp_len, nl_len, cxOf_K, L2.start, List.length_cons, List.length_nil, List.replicate_succ, List.replicate_zero, Nat.reduceSub, Nat.zero_add, and_true, true_and, and_self, exists_and_left, exists_const, Bool.false_eq_true, if_false, if_true, ite_true, ite_false, reduceIte, decide_eq_true_eq, reduceCtorEq, Nat.reduceAdd, Nat.reduceLT, tListZip]
    refine ⟨_, .of e1, _, rfl, by decide, fun b hb => ?_⟩
    have nhb : h ≠ b := ne_of_none e1 hb
    have nlb : l ≠ b := ne_of_none e2 hb
    refine ⟨l, b, _, _, rfl, rfl, by rw [upd_ne nlb]; exact e2, upd_same, by rw [List.length_map]; exact small (by simp; omega), fun c hc2 => ?_⟩
    have nbc : b ≠ c := by
      intro e; subst e
      rw [upd_same] at hc2; cases hc2
    have nhc : h ≠ c := by
      intro e; subst e
      rw [upd_ne nhb, e1] at hc2; cases hc2
    have nlc : l ≠ c := by
      intro e; subst e
      rw [upd_ne nlb, e2] at hc2; cases hc2
    have s1 : Ext (DrS h l) H (upd (upd H b (HO.lst [V.int 0])) c (HO.lst (List.map V.int cs ++ [V.int 0]))) := .of_same (same_new (same_put (Same.refl _) hb) hc2)
    have f1 : (upd (upd H b (HO.lst [V.int 0])) c (HO.lst (List.map V.int cs ++ [V.int 0]))) h = some (.lst [.int m, .ref l, .int p]) := by rw [upd_ne nhc, upd_ne nhb]; exact e1
    have f2 : (upd (upd H b (HO.lst [V.int 0])) c (HO.lst (List.map V.int cs ++ [V.int 0]))) l = some (.lst (cs.map V.int)) := by rw [upd_ne nlc, upd_ne nlb]; exact e2
    have f3 : (upd (upd H b (HO.lst [V.int 0])) c (HO.lst (List.map V.int cs ++ [V.int 0]))) c = some (.lst ((cs ++ [0]).map V.int)) := by rw [upd_same, List.map_append]; rfl
    generalize upd (upd H b (HO.lst [V.int 0])) c (HO.lst (List.map V.int cs ++ [V.int 0])) = H1 at s1 f1 f2 f3
    refine ⟨_, .of f1, _, rfl, _, .of f1, _, rfl, ?_⟩
    simp only [tCutE, false_and, exists_false, false_or, or_false, tRet, tRetN, tAndV, tOrV, tNotV, tChain, rI, rI0, rU, tC, tCB, tCons, tNil, tVar, tOp, tUn, tTest, tB, tAnd, tOr, tNot, tIf, tIfS, tSeq, tAsg, tDrop, tNext, gName, gTup_ref, gCons_cons, gNil_nil, and_assoc, tYes, wipe, rEq, rNe, scal_ss, scal_ii, scal_bb, scal_ns, scal_sn, scal_nn, scal_in, scal_ni, tLc_eq, tFor_eq, iList, iTup, iStr, iRng1, iRng2, iZip, iEnum, gSub, tSl, rSetL_ref, rCat_ref, rRep_ref, rJoin_ref, rSlL_ref, rSlS_ref, rMulS_ref, rIxL_ref, rIxT_ref, rLenK_ref, rAll_ref, rIn_ref, tLst, tTup, tPar, tPar3, tAug, tPart, tNoPart, tCall, List.getElem?_cons_zero, List.getElem?_cons_succ, List.set_cons_zero, List.set_cons_succ, List.map_cons, List.map_nil, List.append_nil, List.nil_append, List.cons_append, Option.some.injEq, exists_eq_left', exists_eq_left, exists_eq_right, exists_eq_right', exists_eq', V.int.injEq, V.str.injEq, V.bl.injEq, V.ref.injEq, List.cons.injEq, tM0, tM1, rNewStrs, sgn_eq, split_dot, split_sp, split_nl, dot_len, sp_len, nl_len, cxOf_K, L2.start, List.length_cons, List.length_nil, List.replicate_succ, List.replicate_zero, Nat.reduceSub, Nat.zero_add, and_true, true_and, and_self, exists_and_left, exists_const, Bool.false_eq_true, if_false, if_true, ite_true, ite_false, reduceIte, decide_eq_true_eq, reduceCtorEq, Nat.reduceAdd, Nat.reduceLT, tListZip]
    refine ⟨_, .inl (.of f2), ?_⟩
    rw [List.length_map]
    have hd : (0 : Int) < if (cs.length : Int) > 1 then (cs.length : Int) else 1 := by split <;> omega
    refine ⟨hd, ?_⟩
    have hd1 : (if (cs.length : Int) > 1 then (cs.length : Int) else 1) ≤ (cs ++ [0]).length := by rw [List.length_append]; simp only [List.length_singleton]; split <;> omega
    have hi0 := Int.emod_nonneg p (b := if (cs.length : Int) > 1 then (cs.length : Int) else 1) (by omega)
    have hi1 := Int.emod_lt_of_pos p hd
    generalize hD : (if (cs.length : Int) > 1 then (cs.length : Int) else 1) = D at hd hd1 hi0 hi1
    have hix : ((p % D).toNat : Nat) < (cs ++ [0]).length := by omega
    have hci : (cs ++ [(0 : Int)])[(p % D).toNat]? = some ((cs ++ [0])[(p % D).toNat]) := List.getElem?_eq_getElem hix
    generalize (cs ++ [(0 : Int)])[(p % D).toNat] = cell at hci
    have hat : atI ((cs ++ [0]).map V.int) (p % D) = some (.int cell) := by
      have e : (p % D) = (((p % D).toNat : Nat) : Int) := by omega
      rw [e]
      refine atI_nat ?_
      rw [List.getElem?_map, hci]; rfl
    refine ⟨_, .of f3, _, hat, ⟨by decide, by decide, by decide⟩, _, rfl, ?_⟩
    split
    · rename_i hbig
      have hcs : 0 < cs.length := by
        rcases Nat.eq_zero_or_pos cs.length with e | e
        · exfalso
          have ec : cs = [] := List.eq_nil_of_length_eq_zero e
          subst ec
          have ex : (p % D).toNat = 0 := by simp at hix; omega
          rw [ex] at hci
          have := Option.some.inj hci
          subst this
          exact absurd hbig (by decide)
        · exact e
      simp only [tCutE, false_and, exists_false, false_or, or_false, tRet, tRetN, tAndV, tOrV, tNotV, tChain, rI, rI0, rU, tC, tCB, tCons, tNil, tVar, tOp, tUn, tTest, tB, tAnd, tOr, tNot, tIf, tIfS, tSeq, tAsg, tDrop, tNext, gName, gTup_ref, gCons_cons, gNil_nil, and_assoc, tYes, wipe, rEq, rNe, scal_ss, scal_ii, scal_bb, scal_ns, scal_sn, scal_nn, scal_in, scal_ni, tLc_eq, tFor_eq, iList, iTup, iStr, iRng1, iRng2, iZip, iEnum, gSub, tSl, rSetL_ref, rCat_ref, rRep_ref, rJoin_ref, rSlL_ref, rSlS_ref, rMulS_ref, rIxL_ref, rIxT_ref, rLenK_ref, rAll_ref, rIn_ref, tLst, tTup, tPar, tPar3, tAug, tPart, tNoPart, tCall, List.getElem?_cons_zero, List.getElem?_cons_succ, List.set_cons_zero, List.set_cons_succ, List.map_cons, List.map_nil, List.append_nil, List.nil_append, List.cons_append, Option.some.injEq, exists_eq_left', exists_eq_left, exists_eq_right, exists_eq_right', exists_eq', V.int.injEq, V.str.injEq, V.bl.injEq, V.ref.injEq, List.cons.injEq, tM0, tM1, rNewStrs, sgn_eq, split_dot, split_sp, split_nl, dot_len, sp_len, nl_len, cxOf_K, L2.start, List.length_cons, List.length_nil, List.replicate_succ, List.replicate_zero, Nat.reduceSub, Nat.zero_add, and_true, true_and, and_self, exists_and_left, exists_const, Bool.false_eq_true, if_false, if_true, ite_true, ite_false, reduceIte, decide_eq_true_eq, reduceCtorEq, Nat.reduceAdd, Nat.reduceLT, tListZip]
      refine ⟨⟨h0, h1⟩, _, .of f1, _, rfl, _, .of f1, _, rfl, _, .of f1, _, rfl, ?_⟩
      simp only [tCutE, false_and, exists_false, false_or, or_false, tRet, tRetN, tAndV, tOrV, tNotV, tChain, rI, rI0, rU, tC, tCB, tCons, tNil, tVar, tOp, tUn, tTest, tB, tAnd, tOr, tNot, tIf, tIfS, tSeq, tAsg, tDrop, tNext, gName, gTup_ref, gCons_cons, gNil_nil, and_assoc, tYes, wipe, rEq, rNe, scal_ss, scal_ii, scal_bb, scal_ns, scal_sn, scal_nn, scal_in, scal_ni, tLc_eq, tFor_eq, iList, iTup, iStr, iRng1, iRng2, iZip, iEnum, gSub, tSl, rSetL_ref, rCat_ref, rRep_ref, rJoin_ref, rSlL_ref, rSlS_ref, rMulS_ref, rIxL_ref, rIxT_ref, rLenK_ref, rAll_ref, rIn_ref, tLst, tTup, tPar, tPar3, tAug, tPart, tNoPart, tCall, List.getElem?_cons_zero, List.getElem?_cons_succ, List.set_cons_zero, List.set_cons_succ, List.map_cons, List.map_nil, List.append_nil, List.nil_append, List.cons_append, Option.some.injEq, exists_eq_left', exists_eq_left, exists_eq_right, exists_eq_right', exists_eq', V.int.injEq, V.str.injEq, V.bl.injEq, V.ref.injEq, List.cons.injEq, tM0, tM1, rNewStrs, sgn_eq, split_dot, split_sp, split_nl, dot_len, sp_len, nl_len, cxOf_K, L2.start, List.length_cons, List.length_nil, List.replicate_succ, List.replicate_zero, Nat.reduceSub, Nat.zero_add, and_true, true_and, and_self, exists_and_left, exists_const, Bool.false_eq_true, if_false, if_true, ite_true, ite_false, reduceIte, decide_eq_true_eq, reduceCtorEq, Nat.reduceAdd, Nat.reduceLT, tListZip]
      refine ⟨_, .inl (.of f2), ?_⟩
      rw [List.length_map]
      have hr0 := Int.emod_nonneg p (b := (cs.length : Int)) (by omega)
      have hr1 := Int.emod_lt_of_pos p (b := (cs.length : Int)) (by omega)
      refine ⟨by omega, _, f2, _, ixN_in hr0 (by rw [List.length_map]; exact hr1), h0, ?_⟩
      refine q _ _ (s1.trans ((Ext.refl _ _).put (.inr (.inr rfl)))) ⟨m, p, cs.set (p % (cs.length : Int)).toNat (cell / n), by rw [upd_ne hne]; exact f1, by rw [upd_same, List.map_set], hm0, hm1, hp, by rw [List.length_set]; exact hc⟩ (Int.emod_nonneg _ (by omega)) (Int.emod_lt_of_pos _ h0)
    · rename_i hsm
      simp only [tCutE, false_and, exists_false, false_or, or_false, tRet, tRetN, tAndV, tOrV, tNotV, tChain, rI, rI0, rU, tC, tCB, tCons, tNil, tVar, tOp, tUn, tTest, tB, tAnd, tOr, tNot, tIf, tIfS, tSeq, tAsg, tDrop, tNext, gName, gTup_ref, gCons_cons, gNil_nil, and_assoc, tYes, wipe, rEq, rNe, scal_ss, scal_ii, scal_bb, scal_ns, scal_sn, scal_nn, scal_in, scal_ni, tLc_eq, tFor_eq, iList, iTup, iStr, iRng1, iRng2, iZip, iEnum, gSub, tSl, rSetL_ref, rCat_ref, rRep_ref, rJoin_ref, rSlL_ref, rSlS_ref, rMulS_ref, rIxL_ref, rIxT_ref, rLenK_ref, rAll_ref, rIn_ref, tLst, tTup, tPar, tPar3, tAug, tPart, tNoPart, tCall, List.getElem?_cons_zero, List.getElem?_cons_succ, List.set_cons_zero, List.set_cons_succ, List.map_cons, List.map_nil, List.append_nil, List.nil_append, List.cons_append, Option.some.injEq, exists_eq_left', exists_eq_left, exists_eq_right, exists_eq_right', exists_eq', V.int.injEq, V.str.injEq, V.bl.injEq, V.ref.injEq, List.cons.injEq, tM0, tM1, rNewStrs, sgn_eq, split_dot, split_sp, split_nl, dot_len, sp_len, nl_len, cxOf_K, L2.start, List.length_cons, List.length_nil, List.replicate_succ, List.replicate_zero, Nat.reduceSub, Nat.zero_add, and_true, true_and, and_self, exists_and_left, exists_const, Bool.false_eq_true, if_false, if_true, ite_true, ite_false, reduceIte, decide_eq_true_eq, reduceCtorEq, Nat.reduceAdd, Nat.reduceLT, tListZip]
      refine ⟨_, .of f1, _, rfl, _, rfl, .inr ⟨by decide, by decide⟩, .inr ⟨by decide, by decide⟩, by decide, _, f1, 0, rfl, _, .of upd_same, _, rfl, _, rfl, _, upd_same, 2, rfl, _, .of upd_same, _, rfl, _, rfl, ⟨by decide, by decide⟩, h0, ?_⟩
      refine q _ _ (s1.trans (((Ext.refl _ _).put (.inr (.inl rfl))).put (.inr (.inl rfl)))) ⟨_, _, cs, upd_same, by rw [upd_ne hne.symm, upd_ne hne.symm]; exact f2, Int.emod_nonneg _ (by decide), Int.emod_lt_of_pos _ (by decide), by omega, hc⟩ (Int.emod_nonneg _ (by omega)) (Int.emod_lt_of_pos _ h0)
theorem SrcOk.put {H : Hp} {h l D : Addr} {o : HO} (s : SrcOk H h l) (n1 : D ≠ h) (n2 : D ≠ l) : SrcOk (upd H D o) h l := by
  obtain ⟨m, p, cs, e1, e2, r⟩ := s
  exact ⟨m, p, cs, by rw [upd_ne n1.symm]; exact e1, by rw [upd_ne n2.symm]; exact e2, r⟩
theorem SrcOk.neD {H : Hp} {h l D : Addr} (s : SrcOk H h l) (n : H D = none) : D ≠ h ∧ D ≠ l := by
  obtain ⟨m, p, cs, e1, e2, r⟩ := s
  exact ⟨(ne_of_none e1 n).symm, (ne_of_none e2 n).symm⟩
theorem SrcOk.new {H : Hp} {h l D : Addr} {o : HO} (s : SrcOk H h l) (n : H D = none) : SrcOk (upd H D o) h l := s.put (s.neD n).1 (s.neD n).2
theorem Ext.new {S : Addr → Prop} {H H1 : Hp} {p : Addr} {o : HO} (s : Ext S H H1) (n : H1 p = none) (hS : ¬ S p) : Ext S H (upd H1 p o) := s.put (.inl (s.free hS n))
theorem SrcOk.nD {H : Hp} {h l D : Addr} (s : SrcOk H h l) (n : H D = none) : ¬ DrS h l D := fun z => z.elim (s.neD n).1 (s.neD n).2
theorem SrcOk.same {H H' : Hp} {h l : Addr} (s : SrcOk H h l) (e : Same H H') : SrcOk H' h l := by
  obtain ⟨m, pp, cs, e1, e2, r⟩ := s
  exact ⟨m, pp, cs, e _ _ e1, e _ _ e2, r⟩
theorem SrcOk.off {H : Hp} {h l D : Addr} (s : SrcOk H h l) (n1 : D ≠ h) (n2 : D ≠ l) : SrcOk (offA D H) h l := by
  obtain ⟨m, pp, cs, e1, e2, r⟩ := s
  exact ⟨m, pp, cs, by rw [offA_ne n1.symm]; exact e1, by rw [offA_ne n2.symm]; exact e2, r⟩
theorem SrcOk.tups {H H' : Hp} {h l : Addr} (s : SrcOk H h l) (e : Ext (DrS h l) H H') : ∀ t x, H t = some (.tup x) → H' t = some (.tup x) := fun t x ht => by
  obtain ⟨m, pp, cs, e1, e2, r⟩ := s
  refine e t _ (fun z => ?_) ht
  rcases z with z | z
  · rw [z, e1] at ht; cases ht
  · rw [z, e2] at ht; cases ht
end
end Hk

set_option Elab.async false
set_option linter.all false
set_option maxRecDepth 100000
set_option maxHeartbeats 4000000
namespace Hk
open PySem PySem.Spec PyProof.Rows L2
open TL
section
variable {P : Program} {w : World} {K : PySem.W.Frag} {mg : Str → Option Value} {base : Heap}
/-! ### _law_parts -/
theorem G_law_parts (T : Tx K mg) : Glob P w K mg base (CX0) 1 "_law_parts" p_law_parts [] sp_of_length := by
  obtain ⟨fd, F⟩ := T.f_law_parts
  refine ⟨_, fd, [], F.ok sc_law_parts (fun vs H Q E h => ?_) (fun cdv A outer s H vs Q E hr h => ?_), T.g__law_parts, F.kp, .nil, F.bindsN fun _ _ _ _ _ _ us hl => match us, hl with | [_, _], _ => rfl⟩
  · obtain ⟨z, n, rfl, _⟩ := h; rfl
  · obtain ⟨z, n, rfl, hz, hn0, hn, q1, q2⟩ := h
    refine ⟨_, PSs.nox (pss_cons (ps_set (i := 2) sc_law_parts.nd rfl (Or.inl rfl) (pe_split (pv 0) pe_str))
      (pss_cons (ps_if (pt_cmpR op_eq (pe_ix (ix_listK (K := K) rfl) (pv 2) (pe_un un_neg pe_int) (fun _ _ => rfl)) pe_str (nomark _))
      (pss_one (ps_set (i := 2) sc_law_parts.nd rfl (Or.inl rfl) (pe_op op_cat (pe_slice (sl_listK (K := K) rfl) (pv 2) po_none (po_some (pe_un un_neg pe_int))) (pe_op op_rep (pe_lst (pa_cons pe_str pa_nil)) (pe_op op_add (pe_op op_sub (pv 1) (pe_callB (call_len_seqK (K := K) rfl) (by rfl) T.b_len (by decide +kernel) (pa_cons (pv 2) pa_nil))) pe_int)))))
      pss_nil)
      (pss_one (ps_ret (pe_ifExp (pt_cmpR op_eq (pe_callB (call_len_seqK (K := K) rfl) (by rfl) T.b_len (by decide +kernel) (pa_cons (pv 2) pa_nil)) (pv 1) (nomark _)) (pv 2) pe_non))))), ?_⟩
    simp only [tCutE, false_and, exists_false, false_or, or_false, tRet, tRetN, tAndV, tOrV, tNotV, tChain, rI, rI0, rU, tC, tCB, tCons, tNil, tVar, tOp, tUn, tTest, tB, tAnd, tOr, tNot, tIf, tIfS, tSeq, tAsg, tDrop, tNext, gName, gTup_ref, gCons_cons, gNil_nil, and_assoc, tYes, wipe, rEq, rNe, scal_ss, scal_ii, scal_bb, scal_ns, scal_sn, scal_nn, scal_in, scal_ni, tLc_eq, tFor_eq, iList, iTup, iStr, iRng1, iRng2, iZip, iEnum, gSub, tSl, rSetL_ref, rCat_ref, rRep_ref, rJoin_ref, rSlL_ref, rSlS_ref, rMulS_ref, rIxL_ref, rIxT_ref, rLenK_ref, rAll_ref, rIn_ref, tLst, tTup, tPar, tPar3, tAug, tPart, tNoPart, tCall, List.getElem?_cons_zero, List.getElem?_cons_succ, List.set_cons_zero, List.set_cons_succ, List.map_cons, List.map_nil, List.append_nil, List.nil_append, List.cons_append, Option.some.injEq, exists_eq_left', exists_eq_left, exists_eq_right, exists_eq_right', exists_eq', V.int.injEq, V.str.injEq, V.bl.injEq, V.ref.injEq, List.cons.injEq, tM0, tM1, rNewStrs, sgn_eq, split_dot, split_sp, split_nl, dot_len, sp_len, nl_len, cxOf_K, L2.start, List.length_cons, List.length_nil, List.replicate_succ, List.replicate_zero, Nat.reduceSub, Nat.zero_add, and_true, true_and, and_self, exists_and_left, exists_const, Bool.false_eq_true, if_false, if_true, ite_true, ite_false, reduceIte, decide_eq_true_eq, reduceCtorEq, Nat.reduceAdd, Nat.reduceLT, tListZip]
    have hl := wds_len z
    have hne := wds_ne z
    have hl0 : 0 < (wds z).length := by
      cases e : wds z with
      | nil => exact absurd e hne
      | cons a r => simp
    refine ⟨small (by omega), fun p hp => ⟨_, .of upd_same, ?_⟩⟩
    have s1 : Same H (upd H p (HO.lst (List.map V.str (wds z)))) := same_put (Same.refl _) hp
    obtain ⟨x, e1, e2⟩ := last_str hne
    refine ⟨.str x, (atI_neg1 (by simpa using hne)).trans e1, rfl, ?_⟩
    have hdl : (wds z).dropLast.length = (wds z).length - 1 := List.length_dropLast
    split
    · rename_i e
      cases e
      refine ⟨_, .of upd_same, fun c hc => ⟨by decide, fun r hr => ?_⟩⟩
      rw [cut_last]
      have npc : p ≠ c := ne_of_none upd_same hc
      have ncr : c ≠ r := ne_of_none upd_same hr
      have npr : p ≠ r := by
        intro e; subst e
        rw [upd_ne npc, upd_same] at hr; cases hr
      have s2 : Same H (upd (upd (upd H p (HO.lst (List.map V.str (wds z)))) c (HO.lst (List.map V.str (wds z)).dropLast)) r (HO.lst [V.str (Str.ofString "*")])) := by
        refine same_new (same_new s1 hc) ?_
        rw [← cut_last]; exact hr
      refine ⟨_, .inl (.of (by rw [upd_ne npr, upd_ne npc, upd_same])), _, upd_same, ?_, ?_, ?_, fun t ht => ?_⟩
      · rw [List.length_map]; omega
      · rw [List.length_map]; omega
      · simp only [List.length_singleton, List.length_map]; exact small (by omega)
      have nct : c ≠ t := by
        intro e; subst e
        rw [upd_ne ncr, upd_same] at ht; cases ht
      refine ⟨_, by rw [upd_ne nct, upd_ne ncr, upd_same], _, upd_same, ?_, fun u hu => ?_⟩
      · rw [← List.map_dropLast, List.length_map, List.length_flatten, List.map_replicate, List.sum_replicate_nat]; simp only [List.length_singleton, List.length_map]; exact small (by omega)
      have eo : (List.map V.str (wds z)).dropLast ++ (List.replicate (n - ((List.map V.str (wds z)).length : Int) + 1).toNat [V.str (Str.ofString "*")]).flatten = ((wds z).dropLast ++ List.replicate (n - (wds z).dropLast.length).toNat ("*" : Str)).map V.str := by
        rw [List.map_append, List.map_replicate, List.length_map, List.flatten_replicate_singleton, ← List.map_dropLast, show (n - ((wds z).length : Int) + 1) = n - ((wds z).dropLast.length : Int) by omega]
      have s3 := same_new (o := HO.lst (((wds z).dropLast ++ List.replicate (n - (wds z).dropLast.length).toNat ("*" : Str)).map V.str)) (same_new s2 ht) hu
      have nu : H u = none := (same_new s2 ht).free hu
      rw [eo]
      refine ⟨_, .inl (.of upd_same), ?_⟩
      rw [List.length_map]
      have eq : ofLen z n = if ((((wds z).dropLast ++ List.replicate (n - (wds z).dropLast.length).toNat ("*" : Str)).length : Int) = n) then some ((wds z).dropLast ++ List.replicate (n - (wds z).dropLast.length).toNat ("*" : Str)) else none := by
        unfold ofLen
        simp only [if_pos e2]
      split
      · rename_i h1
        rw [if_pos h1] at eq
        exact q2 _ eq _ u s3 nu upd_same
      · rename_i h1
        rw [if_neg h1] at eq
        exact q1 eq _ s3
    · rename_i e
      refine ⟨_, .inl (.of upd_same), ?_⟩
      rw [List.length_map]
      have e3 : ¬ (wds z).getLast? = some ("#" : Str) := fun z => e (by rw [e2] at z; exact congrArg V.str (Option.some.inj z))
      have eq : ofLen z n = if ((wds z).length : Int) = n then some (wds z) else none := by
        unfold ofLen
        simp only [if_neg e3]
      split
      · rename_i h1
        rw [if_pos h1] at eq
        exact q2 _ eq _ p s1 hp upd_same
      · rename_i h1
        rw [if_neg h1] at eq
        exact q1 eq _ s1
/-! ### _law_fits -/
/-- the places at which it does not fit -/
def misfits (ws ps : List Str) : List Nat := (List.range ps.length).filter fun i => !fit1 (ws.getD i "", ps.getD i "")
theorem misfits_nil {ws ps : List Str} (h : ws.length = ps.length) : (misfits ws ps).isEmpty = (ws.zip ps).all fit1 := by
  rw [Bool.eq_iff_iff, List.isEmpty_iff, List.all_eq_true]
  unfold misfits
  rw [List.filter_eq_nil_iff]
  constructor
  · intro hh x hx
    obtain ⟨i, hi, e⟩ := List.mem_iff_getElem.mp hx
    have hi' : i < ps.length := by rw [List.length_zip] at hi; omega
    have := hh i (List.mem_range.mpr hi')
    rw [List.getElem_zip] at e
    rw [List.getD_eq_getElem?_getD, List.getD_eq_getElem?_getD, List.getElem?_eq_getElem (by omega), List.getElem?_eq_getElem hi'] at this
    simp only [Option.getD_some, e] at this
    simpa using this
  · intro hh i hi
    have hi' := List.mem_range.mp hi
    have hz : i < (ws.zip ps).length := by rw [List.length_zip]; omega
    have := hh _ (List.getElem_mem hz)
    rw [List.getElem_zip] at this
    rw [List.getD_eq_getElem?_getD, List.getD_eq_getElem?_getD, List.getElem?_eq_getElem (by omega), List.getElem?_eq_getElem hi']
    simp only [Option.getD_some]
    simp [this]
theorem G_law_fits (T : Tx K mg) : Glob P w K mg base (CX0) 2 "_law_fits" p_law_fits [] sp_does_fit := by
  obtain ⟨fd, F⟩ := T.f_law_fits
  refine ⟨_, fd, [], F.ok sc_law_fits (fun vs H Q E h => ?_) (fun cdv A outer s H vs Q E hr h => ?_), T.g__law_fits, F.kp, .nil, F.bindsN fun _ _ _ _ _ _ us hl => match us, hl with | [_, _], _ => rfl⟩
  · obtain ⟨z, l, rfl, _⟩ := h; rfl
  · obtain ⟨z, l, rfl, hz, hl, q⟩ := h
    refine ⟨_, PSs.nox (pss_cons (ps_set (i := 2) sc_law_fits.nd rfl (Or.inr rfl) (pe_split (pv 1) pe_str))
      (pss_cons (ps_set (i := 3) sc_law_fits.nd rfl (Or.inr rfl) (pe_callG (G_law_parts T) (hr.mono (by decide)) (by rfl) pass0 (pa_cons (pv 0) (pa_cons (pe_callB (call_len_seqK (K := K) rfl) (by rfl) T.b_len (by decide +kernel) (pa_cons (pv 2) pa_nil)) pa_nil))))
      (pss_cons (ps_if (pt_cmpR op_isN (pv 3) pe_non (nomark _))
      (pss_one (ps_ret pe_bl))
      pss_nil)
      (pss_one (ps_ret (pe_cmpR (op_eqDK (K := K) rfl hr.units) (pe_lc (own := [("_law_k", 4)]) (g := (gName 4)) rfl sc_law_fits.nd (pi_range1 (by rfl) T.b_range (pa_cons (pe_callB (call_len_seqK (K := K) rfl) (by rfl) T.b_len (by decide +kernel) (pa_cons (pv 2) pa_nil)) pa_nil)) (blkOk_by (by kernel_rfl)) (fun _ _ _ _ _ => (pg_name (i := 4) sc_law_fits.nd rfl (Or.inl rfl))) (fun _ _ _ _ _ => (pts_one (PW.pt (pw_and (pt_cmpR op_ne (pe_ix (ix_listK (K := K) rfl) (pv 3) (pv 4) (fun _ _ => rfl)) pe_str (nomark _)) (pw_and1 (pt_cmpR op_ne (pe_ix (ix_listK (K := K) rfl) (pv 3) (pv 4) (fun _ _ => rfl)) (pe_ix (ix_listK (K := K) rfl) (pv 2) (pv 4) (fun _ _ => rfl)) (nomark _))))))) (fun _ _ _ _ _ => (pv 4))) (pe_lst pa_nil) (nomark _))))))), ?_⟩
    simp only [tCutE, false_and, exists_false, false_or, or_false, tRet, tRetN, tAndV, tOrV, tNotV, tChain, rI, rI0, rU, tC, tCB, tCons, tNil, tVar, tOp, tUn, tTest, tB, tAnd, tOr, tNot, tIf, tIfS, tSeq, tAsg, tDrop, tNext, gName, gTup_ref, gCons_cons, gNil_nil, and_assoc, tYes, wipe, rEq, rNe, scal_ss, scal_ii, scal_bb, scal_ns, scal_sn, scal_nn, scal_in, scal_ni, tLc_eq, tFor_eq, iList, iTup, iStr, iRng1, iRng2, iZip, iEnum, gSub, tSl, rSetL_ref, rCat_ref, rRep_ref, rJoin_ref, rSlL_ref, rSlS_ref, rMulS_ref, rIxL_ref, rIxT_ref, rLenK_ref, rAll_ref, rIn_ref, tLst, tTup, tPar, tPar3, tAug, tPart, tNoPart, tCall, List.getElem?_cons_zero, List.getElem?_cons_succ, List.set_cons_zero, List.set_cons_succ, List.map_cons, List.map_nil, List.append_nil, List.nil_append, List.cons_append, Option.some.injEq, exists_eq_left', exists_eq_left, exists_eq_right, exists_eq_right', exists_eq', V.int.injEq, V.str.injEq, V.bl.injEq, V.ref.injEq, List.cons.injEq, tM0, tM1, rNewStrs, sgn_eq, split_dot, split_sp, split_nl, dot_len, sp_len, nl_len, cxOf_K, L2.start, List.length_cons, List.length_nil, List.replicate_succ, List.replicate_zero, Nat.reduceSub, Nat.zero_add, and_true, true_and, and_self, exists_and_left, exists_const, Bool.false_eq_true, if_false, if_true, ite_true, ite_false, reduceIte, decide_eq_true_eq, reduceCtorEq, Nat.reduceAdd, Nat.reduceLT, tListZip]
    have hw := wds_len l
    refine ⟨small (by omega), fun p hp => ⟨_, .inl (.of upd_same), ?_⟩⟩
    have s1 : Same H (upd H p (HO.lst (List.map V.str (wds l)))) := same_put (Same.refl _) hp
    have el : (List.map V.str (wds l)).length = (wds l).length := by rw [List.length_map]
    rw [el]
    refine ⟨z, _, rfl, hz, by omega, by omega, fun e H' s2 => ?_, fun ws e H' r s2 hr hr' => ?_⟩
    · refine ifP rfl ?_
      have e2 : doesFit z l = false := by unfold doesFit; rw [e]
      rw [← e2]
      exact q _ (s1.trans s2)
    · refine ifN (by intro e; cases e) ?_
      have hp' : H' p = some (.lst ((wds l).map V.str)) := s2 _ _ upd_same
      have hwl := ofLen_len e
      have hwn : ws.length = (wds l).length := by omega
      have e2 : doesFit z l = (misfits ws (wds l)).isEmpty := by unfold doesFit; rw [e, misfits_nil hwn]
      refine ⟨_, .inl (.of hp'), by rw [el]; omega, by rw [el]; omega, ?_⟩
      rw [el, Int.toNat_natCast]
      have wk : Walk (Itr 0 (wds l).length) (List.range (wds l).length).length (fun _ => True) (YFn fun i => .int (0 + i)) := by
        rw [List.length_range]; exact walk_range
      refine lc_fil (List.range (wds l).length) (fun i => if !fit1 (ws.getD i "", (wds l).getD i "") then some (.int (i : Nat)) else none) wk (by rw [List.length_range]; omega) (fun _ _ => trivial) (fun i a x H1 H2 R hx s3 hy r0 => ?_) (fun D H1 nD s3 hD => ?_)
      · obtain ⟨rfl, rfl⟩ := hy
        have hi : i < (wds l).length := by
          have := (List.getElem?_eq_some_iff.mp hx).1
          rwa [List.length_range] at this
        have ea : a = i := by rw [List.getElem?_range hi] at hx; exact (Option.some.inj hx).symm
        subst ea
        simp only [tCutE, false_and, exists_false, false_or, or_false, tRet, tRetN, tAndV, tOrV, tNotV, tChain, rI, rI0, rU, tC, tCB, tCons, tNil, tVar, tOp, tUn, tTest, tB, tAnd, tOr, tNot, tIf, tIfS, tSeq, tAsg, tDrop, tNext, gName, gTup_ref, gCons_cons, gNil_nil, and_assoc, tYes, wipe, rEq, rNe, scal_ss, scal_ii, scal_bb, scal_ns, scal_sn, scal_nn, scal_in, scal_ni, tLc_eq, tFor_eq, iList, iTup, iStr, iRng1, iRng2, iZip, iEnum, gSub, tSl, rSetL_ref, rCat_ref, rRep_ref, rJoin_ref, rSlL_ref, rSlS_ref, rMulS_ref, rIxL_ref, rIxT_ref, rLenK_ref, rAll_ref, rIn_ref, tLst, tTup, tPar, tPar3, tAug, tPart, tNoPart, tCall, List.getElem?_cons_zero, List.getElem?_cons_succ, List.set_cons_zero, List.set_cons_succ, List.map_cons, List.map_nil, List.append_nil, List.nil_append, List.cons_append, Option.some.injEq, exists_eq_left', exists_eq_left, exists_eq_right, exists_eq_right', exists_eq', V.int.injEq, V.str.injEq, V.bl.injEq, V.ref.injEq, List.cons.injEq, tM0, tM1, rNewStrs, sgn_eq, split_dot, split_sp, split_nl, dot_len, sp_len, nl_len, cxOf_K, L2.start, List.length_cons, List.length_nil, List.replicate_succ, List.replicate_zero, Nat.reduceSub, Nat.zero_add, and_true, true_and, and_self, exists_and_left, exists_const, Bool.false_eq_true, if_false, if_true, ite_true, ite_false, reduceIte, decide_eq_true_eq, reduceCtorEq, Nat.reduceAdd, Nat.reduceLT, tListZip]
        have hiw : a < ws.length := by omega
        have g1 : atI (ws.map V.str) (0 + (a : Int)) = some (.str ws[a]) := by
          rw [Int.zero_add]
          refine atI_nat ?_
          rw [List.getElem?_map, List.getElem?_eq_getElem hiw]; rfl
        have g2 : atI ((wds l).map V.str) (0 + (a : Int)) = some (.str (wds l)[a]) := by
          rw [Int.zero_add]
          refine atI_nat ?_
          rw [List.getElem?_map, List.getElem?_eq_getElem hi]; rfl
        have hft : fit1 (ws.getD a "", (wds l).getD a "") = (decide (ws[a] = ("*" : Str)) || decide (ws[a] = (wds l)[a])) := by
          rw [List.getD_eq_getElem?_getD, List.getD_eq_getElem?_getD, List.getElem?_eq_getElem hiw, List.getElem?_eq_getElem hi]
          rfl
        refine ⟨_, .of (s3 _ _ hr'), _, g1, rfl, ?_⟩
        split
        · rename_i hd
          have d1 : ws[a] ≠ ("*" : Str) := fun z => by rw [z] at hd; simp at hd
          rw [decide_eq_false d1, Bool.false_or] at hft
          refine ⟨_, .of (s3 _ _ hr'), _, g1, _, .of (s3 _ _ hp'), _, g2, rfl, ?_⟩
          split
          · rename_i hd2
            have d2 : ws[a] ≠ (wds l)[a] := fun z => by rw [z] at hd2; simp at hd2
            rw [decide_eq_false d2] at hft
            simp only [hft, Bool.not_false, if_true] at r0
            rw [Int.zero_add]
            exact r0 _ (Same.refl _)
          · rename_i hd2
            have d2 : ws[a] = (wds l)[a] := by simpa using hd2
            rw [decide_eq_true d2] at hft
            simp only [hft, Bool.not_true, Bool.false_eq_true, if_false] at r0
            exact r0 _ (Same.refl _)
        · rename_i hd
          have d1 : ws[a] = ("*" : Str) := by simpa using hd
          rw [decide_eq_true d1, Bool.true_or] at hft
          simp only [hft, Bool.not_true, Bool.false_eq_true, if_false] at r0
          exact r0 _ (Same.refl _)
      · refine ⟨by decide, fun t ht => ?_⟩
        have hf : (List.range (wds l).length).filterMap (fun i => if !fit1 (ws.getD i "", (wds l).getD i "") then some (V.int (i : Nat)) else none) = (misfits ws (wds l)).map fun i => V.int (i : Nat) := by
          unfold misfits
          rw [← List.filterMap_eq_map, List.filterMap_filter]
          rfl
        rw [hf] at hD
        have nDt : D ≠ t := ne_of_none hD ht
        refine ⟨.list ((misfits ws (wds l)).map fun i => PyData.int (i : Nat)), .list [], .lst (.of (by rw [upd_ne nDt]; exact hD)) (dpAll_map fun a _ => .int _), .lst (.of upd_same) .nil, ?_, by decide, ?_⟩
        · have := shaped_ints ((misfits ws (wds l)).map fun (i : Nat) => (i : Int))
          rwa [List.map_map] at this
        · rw [eqv_nil, List.isEmpty_map, ← e2]
          exact q _ (same_new ((s1.trans s2).trans s3) ht)
end
end Hk

set_option Elab.async false
set_option linter.all false
set_option maxRecDepth 100000
set_option maxHeartbeats 4000000
namespace Hk
open PySem PySem.Spec PyProof.Rows L2
open TL
section
variable {P : Program} {w : World} {K : PySem.W.Frag} {mg : Str → Option Value} {base : Heap}
/-! ### _law_line -/
def sp_law_line : Sp := fun vs H Q _ => ∃ (h l : Addr) (n f : Int), vs = [.ref h, .int n, .int f] ∧ SrcOk H h l ∧ 1 ≤ n ∧ n ≤ 6 ∧ 1 ≤ f ∧ f ≤ 3 ∧
  ∀ H' (ws : List Str), Ext (DrS h l) H H' → SrcOk H' h l → ws ≠ [] → (ws.length : Int) ≤ n → (∀ w ∈ ws, fewWord w) → Q (.str (Txt.join "." ws)) H'
theorem G_law_line (T : Tx K mg) : Glob P w K mg base (CX0) 2 "_law_line" p_law_line [] sp_law_line := by
  obtain ⟨fd, F⟩ := T.f_law_line
  refine ⟨_, fd, [], F.ok sc_law_line (fun vs H Q E h => ?_) (fun cdv A outer s H vs Q E hr h => ?_), T.g__law_line, F.kp, .nil, F.bindsN fun _ _ _ _ _ _ us hl => match us, hl with | [_, _, _], _ => rfl⟩
  · obtain ⟨h, l, n, f, rfl, _⟩ := h; rfl
  · obtain ⟨h, l, n, f, rfl, hS, hn1, hn6, hf1, hf3, q⟩ := h
    refine ⟨_, PSs.nox (pss_one (ps_ret (pe_joinK (K := K) rfl pe_str (pe_lc (own := [("_law_k", 4)]) (g := (gName 4)) (tt := tYes) rfl sc_law_line.nd (pi_range1 (by rfl) T.b_range (pa_cons (pe_op op_add pe_int (pe_callG (G_law_next T) (hr.mono (by decide)) (by rfl) pass0 (pa_cons (pv 0) (pa_cons (pv 1) pa_nil)))) pa_nil)) (blkOk_by (by kernel_rfl)) (fun _ _ _ _ _ => (pg_name (i := 4) sc_law_line.nd rfl (Or.inl rfl))) (fun _ _ _ _ _ => pts_nil) (fun _ _ _ _ _ => (pe_joinK (K := K) rfl pe_str (pe_lc (own := [("_law_j", 3)]) (g := (gName 3)) (tt := tYes) rfl sc_law_line.nd (pi_range1 (by rfl) T.b_range (pa_cons (pe_op op_add pe_int (pe_callG (G_law_next T) (hr.mono (by decide)) (by rfl) pass0 (pa_cons (pv 0) (pa_cons (pe_ix (ix_listK (K := K) rfl) (pe_lst (pa_cons pe_int (pa_cons pe_int pa_nil))) (pe_op op_fdiv (pe_callG (G_law_next T) (hr.mono (by decide)) (by rfl) pass0 (pa_cons (pv 0) (pa_cons pe_int pa_nil))) pe_int) (fun _ _ => rfl)) pa_nil)))) pa_nil)) (blkOk_by (by kernel_rfl)) (fun _ _ _ _ _ => (pg_name (i := 3) sc_law_line.nd rfl (Or.inl rfl))) (fun _ _ _ _ _ => pts_nil) (fun _ _ _ _ _ => (pe_item_str pe_str (pe_callG (G_law_next T) (hr.mono (by decide)) (by rfl) pass0 (pa_cons (pv 0) (pa_cons (pv 2) pa_nil))) (fun _ _ => rfl)))))))))), ?_⟩
    simp only [tCutE, false_and, exists_false, false_or, or_false, tRet, tRetN, tAndV, tOrV, tNotV, tChain, rI, rI0, rU, tC, tCB, tCons, tNil, tVar, tOp, tUn, tTest, tB, tAnd, tOr, tNot, tIf, tIfS, tSeq, tAsg, tDrop, tNext, gName, gTup_ref, gCons_cons, gNil_nil, and_assoc, tYes, wipe, rEq, rNe, scal_ss, scal_ii, scal_bb, scal_ns, scal_sn, scal_nn, scal_in, scal_ni, tLc_eq, tFor_eq, iList, iTup, iStr, iRng1, iRng2, iZip, iEnum, gSub, tSl, rSetL_ref, rCat_ref, rRep_ref, rJoin_ref, rSlL_ref, rSlS_ref, rMulS_ref, rIxL_ref, rIxT_ref, rLenK_ref, rAll_ref, rIn_ref, tLst, tTup, tPar, tPar3, tAug, tPart, tNoPart, tCall, List.getElem?_cons_zero, List.getElem?_cons_succ, List.set_cons_zero, List.set_cons_succ, List.map_cons, List.map_nil, List.append_nil, List.nil_append, List.cons_append, Option.some.injEq, exists_eq_left', exists_eq_left, exists_eq_right, exists_eq_right', exists_eq', V.int.injEq, V.str.injEq, V.bl.injEq, V.ref.injEq, List.cons.injEq, tM0, tM1, rNewStrs, sgn_eq, split_dot, split_sp, split_nl, dot_len, sp_len, nl_len, cxOf_K, L2.start, List.length_cons, List.length_nil, List.replicate_succ, List.replicate_zero, Nat.reduceSub, Nat.zero_add, and_true, true_and, and_self, exists_and_left, exists_const, Bool.false_eq_true, if_false, if_true, ite_true, ite_false, reduceIte, decide_eq_true_eq, reduceCtorEq, Nat.reduceAdd, Nat.reduceLT, tListZip]
    refine ⟨h, l, n, rfl, hS, by omega, by omega, fun H1 r1 x1 S1 hr0 hr1 => ?_⟩
    simp only [tCutE, false_and, exists_false, false_or, or_false, tRet, tRetN, tAndV, tOrV, tNotV, tChain, rI, rI0, rU, tC, tCB, tCons, tNil, tVar, tOp, tUn, tTest, tB, tAnd, tOr, tNot, tIf, tIfS, tSeq, tAsg, tDrop, tNext, gName, gTup_ref, gCons_cons, gNil_nil, and_assoc, tYes, wipe, rEq, rNe, scal_ss, scal_ii, scal_bb, scal_ns, scal_sn, scal_nn, scal_in, scal_ni, tLc_eq, tFor_eq, iList, iTup, iStr, iRng1, iRng2, iZip, iEnum, gSub, tSl, rSetL_ref, rCat_ref, rRep_ref, rJoin_ref, rSlL_ref, rSlS_ref, rMulS_ref, rIxL_ref, rIxT_ref, rLenK_ref, rAll_ref, rIn_ref, tLst, tTup, tPar, tPar3, tAug, tPart, tNoPart, tCall, List.getElem?_cons_zero, List.getElem?_cons_succ, List.set_cons_zero, List.set_cons_succ, List.map_cons, List.map_nil, List.append_nil, List.nil_append, List.cons_append, Option.some.injEq, exists_eq_left', exists_eq_left, exists_eq_right, exists_eq_right', exists_eq', V.int.injEq, V.str.injEq, V.bl.injEq, V.ref.injEq, List.cons.injEq, tM0, tM1, rNewStrs, sgn_eq, split_dot, split_sp, split_nl, dot_len, sp_len, nl_len, cxOf_K, L2.start, List.length_cons, List.length_nil, List.replicate_succ, List.replicate_zero, Nat.reduceSub, Nat.zero_add, and_true, true_and, and_self, exists_and_left, exists_const, Bool.false_eq_true, if_false, if_true, ite_true, ite_false, reduceIte, decide_eq_true_eq, reduceCtorEq, Nat.reduceAdd, Nat.reduceLT, tListZip]
    refine ⟨by omega, by omega, ?_⟩
    refine lc_acc walk_range (DrS h l) (fun H => SrcOk H h l) (fun i acc => ∃ ws : List Str, acc = ws.map V.str ∧ ws.length = i ∧ ∀ w ∈ ws, fewWord w) (smallLt (by omega)) (fun D nD => S1.nD nD) ⟨[], rfl, rfl, fun _ h => nomatch h⟩ S1 (fun D H o nD s => s.put (S1.neD nD).1 (S1.neD nD).2) (fun _ _ _ => trivial) (fun i x Ha Hb acc R hi xa Sa pa hy r0 r1 => ?_) (fun D acc Ha nD pa la xa Sa hD => ?_)
    · obtain ⟨rfl, rfl⟩ := hy
      obtain ⟨ws, rfl, hw, hws⟩ := pa
      simp only [tCutE, false_and, exists_false, false_or, or_false, tRet, tRetN, tAndV, tOrV, tNotV, tChain, rI, rI0, rU, tC, tCB, tCons, tNil, tVar, tOp, tUn, tTest, tB, tAnd, tOr, tNot, tIf, tIfS, tSeq, tAsg, tDrop, tNext, gName, gTup_ref, gCons_cons, gNil_nil, and_assoc, tYes, wipe, rEq, rNe, scal_ss, scal_ii, scal_bb, scal_ns, scal_sn, scal_nn, scal_in, scal_ni, tLc_eq, tFor_eq, iList, iTup, iStr, iRng1, iRng2, iZip, iEnum, gSub, tSl, rSetL_ref, rCat_ref, rRep_ref, rJoin_ref, rSlL_ref, rSlS_ref, rMulS_ref, rIxL_ref, rIxT_ref, rLenK_ref, rAll_ref, rIn_ref, tLst, tTup, tPar, tPar3, tAug, tPart, tNoPart, tCall, List.getElem?_cons_zero, List.getElem?_cons_succ, List.set_cons_zero, List.set_cons_succ, List.map_cons, List.map_nil, List.append_nil, List.nil_append, List.cons_append, Option.some.injEq, exists_eq_left', exists_eq_left, exists_eq_right, exists_eq_right', exists_eq', V.int.injEq, V.str.injEq, V.bl.injEq, V.ref.injEq, List.cons.injEq, tM0, tM1, rNewStrs, sgn_eq, split_dot, split_sp, split_nl, dot_len, sp_len, nl_len, cxOf_K, L2.start, List.length_cons, List.length_nil, List.replicate_succ, List.replicate_zero, Nat.reduceSub, Nat.zero_add, and_true, true_and, and_self, exists_and_left, exists_const, Bool.false_eq_true, if_false, if_true, ite_true, ite_false, reduceIte, decide_eq_true_eq, reduceCtorEq, Nat.reduceAdd, Nat.reduceLT, tListZip]
      refine ⟨by decide, fun t ht => ?_⟩
      have St := Sa.new (o := .lst [.int 1, .int 4]) ht
      have xt : Ext (DrS h l) Hb (upd Hb t (.lst [.int 1, .int 4])) := (Ext.refl _ _).new ht (Sa.nD ht)
      refine ⟨h, l, 4, rfl, St, by decide, by decide, fun H2 r2 x2 S2 h20 h21 => ⟨_, rfl, ⟨by decide, by decide⟩, _, .of (x2 _ _ (Sa.nD ht) upd_same), ?_⟩⟩
      have hk : ∃ k : Int, (k = 1 ∨ k = 4) ∧ atI [V.int 1, V.int 4] (r2 / 3) = some (.int k) := by
        rcases (show r2 / 3 = 0 ∨ r2 / 3 = 1 by omega) with e | e
        · rw [e]; exact ⟨1, .inl rfl, rfl⟩
        · rw [e]; exact ⟨4, .inr rfl, rfl⟩
      obtain ⟨k, hk1, hk2⟩ := hk
      refine ⟨_, hk2, h, l, k, rfl, S2, by omega, by omega, fun H3 r3 x3 S3 h30 h31 => ?_⟩
      simp only [tCutE, false_and, exists_false, false_or, or_false, tRet, tRetN, tAndV, tOrV, tNotV, tChain, rI, rI0, rU, tC, tCB, tCons, tNil, tVar, tOp, tUn, tTest, tB, tAnd, tOr, tNot, tIf, tIfS, tSeq, tAsg, tDrop, tNext, gName, gTup_ref, gCons_cons, gNil_nil, and_assoc, tYes, wipe, rEq, rNe, scal_ss, scal_ii, scal_bb, scal_ns, scal_sn, scal_nn, scal_in, scal_ni, tLc_eq, tFor_eq, iList, iTup, iStr, iRng1, iRng2, iZip, iEnum, gSub, tSl, rSetL_ref, rCat_ref, rRep_ref, rJoin_ref, rSlL_ref, rSlS_ref, rMulS_ref, rIxL_ref, rIxT_ref, rLenK_ref, rAll_ref, rIn_ref, tLst, tTup, tPar, tPar3, tAug, tPart, tNoPart, tCall, List.getElem?_cons_zero, List.getElem?_cons_succ, List.set_cons_zero, List.set_cons_succ, List.map_cons, List.map_nil, List.append_nil, List.nil_append, List.cons_append, Option.some.injEq, exists_eq_left', exists_eq_left, exists_eq_right, exists_eq_right', exists_eq', V.int.injEq, V.str.injEq, V.bl.injEq, V.ref.injEq, List.cons.injEq, tM0, tM1, rNewStrs, sgn_eq, split_dot, split_sp, split_nl, dot_len, sp_len, nl_len, cxOf_K, L2.start, List.length_cons, List.length_nil, List.replicate_succ, List.replicate_zero, Nat.reduceSub, Nat.zero_add, and_true, true_and, and_self, exists_and_left, exists_const, Bool.false_eq_true, if_false, if_true, ite_true, ite_false, reduceIte, decide_eq_true_eq, reduceCtorEq, Nat.reduceAdd, Nat.reduceLT, tListZip]
      refine ⟨by omega, by omega, ?_⟩
      refine lc_acc walk_range (DrS h l) (fun H => SrcOk H h l) (fun i acc => ∃ cs : List Nat, acc = cs.map (fun c => V.str ⟨#[c]⟩) ∧ cs.length = i ∧ ∀ c ∈ cs, c = 97 ∨ c = 98 ∨ c = 122) (smallLt (by omega)) (fun D nD => S3.nD nD) ⟨[], rfl, rfl, fun _ h => nomatch h⟩ S3 (fun D H o nD s => s.put (S3.neD nD).1 (S3.neD nD).2) (fun _ _ _ => trivial) (fun j y Hc Hd acc2 R2 hj xc Sc pc hy q0 q1 => ?_) (fun D acc2 Hc nD pc lc xc Sc hD => ?_)
      · obtain ⟨rfl, rfl⟩ := hy
        obtain ⟨cs, rfl, hcl, hcs⟩ := pc
        simp only [tCutE, false_and, exists_false, false_or, or_false, tRet, tRetN, tAndV, tOrV, tNotV, tChain, rI, rI0, rU, tC, tCB, tCons, tNil, tVar, tOp, tUn, tTest, tB, tAnd, tOr, tNot, tIf, tIfS, tSeq, tAsg, tDrop, tNext, gName, gTup_ref, gCons_cons, gNil_nil, and_assoc, tYes, wipe, rEq, rNe, scal_ss, scal_ii, scal_bb, scal_ns, scal_sn, scal_nn, scal_in, scal_ni, tLc_eq, tFor_eq, iList, iTup, iStr, iRng1, iRng2, iZip, iEnum, gSub, tSl, rSetL_ref, rCat_ref, rRep_ref, rJoin_ref, rSlL_ref, rSlS_ref, rMulS_ref, rIxL_ref, rIxT_ref, rLenK_ref, rAll_ref, rIn_ref, tLst, tTup, tPar, tPar3, tAug, tPart, tNoPart, tCall, List.getElem?_cons_zero, List.getElem?_cons_succ, List.set_cons_zero, List.set_cons_succ, List.map_cons, List.map_nil, List.append_nil, List.nil_append, List.cons_append, Option.some.injEq, exists_eq_left', exists_eq_left, exists_eq_right, exists_eq_right', exists_eq', V.int.injEq, V.str.injEq, V.bl.injEq, V.ref.injEq, List.cons.injEq, tM0, tM1, rNewStrs, sgn_eq, split_dot, split_sp, split_nl, dot_len, sp_len, nl_len, cxOf_K, L2.start, List.length_cons, List.length_nil, List.replicate_succ, List.replicate_zero, Nat.reduceSub, Nat.zero_add, and_true, true_and, and_self, exists_and_left, exists_const, Bool.false_eq_true, if_false, if_true, ite_true, ite_false, reduceIte, decide_eq_true_eq, reduceCtorEq, Nat.reduceAdd, Nat.reduceLT, tListZip]
        refine ⟨h, l, f, rfl, Sc, by omega, by omega, fun H4 r4 x4 S4 h40 h41 => ⟨_, rfl, h40, by omega, ?_, ?_⟩⟩
        · have : (Str.ofString "abz").length = 3 := by decide +kernel
          rw [this]; omega
        · have hz : ∃ c, (Str.ofString "abz").cps[r4.toNat]? = some c ∧ (c = 97 ∨ c = 98 ∨ c = 122) := by
            rcases (show r4 = 0 ∨ r4 = 1 ∨ r4 = 2 by omega) with e | e | e
            · rw [e]; exact ⟨97, by decide +kernel, .inl rfl⟩
            · rw [e]; exact ⟨98, by decide +kernel, .inr (.inl rfl)⟩
            · rw [e]; exact ⟨122, by decide +kernel, .inr (.inr rfl)⟩
          obtain ⟨c, hc1, hc2⟩ := hz
          refine ⟨c, hc1, q1 _ _ x4 S4 ⟨cs ++ [c], by rw [List.map_append]; rfl, by rw [List.length_append, hcl]; rfl, fun d hd => ?_⟩⟩
          rcases List.mem_append.mp hd with hd | hd
          · exact hcs d hd
          · rw [List.mem_singleton.mp hd]; exact hc2
      · obtain ⟨cs, rfl, hcl, hcs⟩ := pc
        simp only [tCutE, false_and, exists_false, false_or, or_false, tRet, tRetN, tAndV, tOrV, tNotV, tChain, rI, rI0, rU, tC, tCB, tCons, tNil, tVar, tOp, tUn, tTest, tB, tAnd, tOr, tNot, tIf, tIfS, tSeq, tAsg, tDrop, tNext, gName, gTup_ref, gCons_cons, gNil_nil, and_assoc, tYes, wipe, rEq, rNe, scal_ss, scal_ii, scal_bb, scal_ns, scal_sn, scal_nn, scal_in, scal_ni, tLc_eq, tFor_eq, iList, iTup, iStr, iRng1, iRng2, iZip, iEnum, gSub, tSl, rSetL_ref, rCat_ref, rRep_ref, rJoin_ref, rSlL_ref, rSlS_ref, rMulS_ref, rIxL_ref, rIxT_ref, rLenK_ref, rAll_ref, rIn_ref, tLst, tTup, tPar, tPar3, tAug, tPart, tNoPart, tCall, List.getElem?_cons_zero, List.getElem?_cons_succ, List.set_cons_zero, List.set_cons_succ, List.map_cons, List.map_nil, List.append_nil, List.nil_append, List.cons_append, Option.some.injEq, exists_eq_left', exists_eq_left, exists_eq_right, exists_eq_right', exists_eq', V.int.injEq, V.str.injEq, V.bl.injEq, V.ref.injEq, List.cons.injEq, tM0, tM1, rNewStrs, sgn_eq, split_dot, split_sp, split_nl, dot_len, sp_len, nl_len, cxOf_K, L2.start, List.length_cons, List.length_nil, List.replicate_succ, List.replicate_zero, Nat.reduceSub, Nat.zero_add, and_true, true_and, and_self, exists_and_left, exists_const, Bool.false_eq_true, if_false, if_true, ite_true, ite_false, reduceIte, decide_eq_true_eq, reduceCtorEq, Nat.reduceAdd, Nat.reduceLT, tListZip]
        refine ⟨cs.map fun c => (⟨#[c]⟩ : Str), .inl (.of (by rw [hD, List.map_map]; rfl)), ?_, ?_⟩
        · rw [sum_one, List.length_map]
          have : (Str.ofString "").length = 0 := by decide +kernel
          rw [this]; omega
        · refine r1 _ _ (((xt.trans x2).trans x3).trans xc) Sc ⟨ws ++ [Txt.join (Str.ofString "") (cs.map fun c => (⟨#[c]⟩ : Str))], by rw [List.map_append]; rfl, by rw [List.length_append, hw]; rfl, fun w hw2 => ?_⟩
          rcases List.mem_append.mp hw2 with hw2 | hw2
          · exact hws w hw2
          · rw [List.mem_singleton.mp hw2]
            have et := tl_signs cs
            refine ⟨?_, ?_, ?_⟩
            · rw [len_tl, et]; omega
            · rw [len_tl, et]; omega
            · rw [et]; exact hcs
    · obtain ⟨ws, rfl, hw, hws⟩ := pa
      simp only [tCutE, false_and, exists_false, false_or, or_false, tRet, tRetN, tAndV, tOrV, tNotV, tChain, rI, rI0, rU, tC, tCB, tCons, tNil, tVar, tOp, tUn, tTest, tB, tAnd, tOr, tNot, tIf, tIfS, tSeq, tAsg, tDrop, tNext, gName, gTup_ref, gCons_cons, gNil_nil, and_assoc, tYes, wipe, rEq, rNe, scal_ss, scal_ii, scal_bb, scal_ns, scal_sn, scal_nn, scal_in, scal_ni, tLc_eq, tFor_eq, iList, iTup, iStr, iRng1, iRng2, iZip, iEnum, gSub, tSl, rSetL_ref, rCat_ref, rRep_ref, rJoin_ref, rSlL_ref, rSlS_ref, rMulS_ref, rIxL_ref, rIxT_ref, rLenK_ref, rAll_ref, rIn_ref, tLst, tTup, tPar, tPar3, tAug, tPart, tNoPart, tCall, List.getElem?_cons_zero, List.getElem?_cons_succ, List.set_cons_zero, List.set_cons_succ, List.map_cons, List.map_nil, List.append_nil, List.nil_append, List.cons_append, Option.some.injEq, exists_eq_left', exists_eq_left, exists_eq_right, exists_eq_right', exists_eq', V.int.injEq, V.str.injEq, V.bl.injEq, V.ref.injEq, List.cons.injEq, tM0, tM1, rNewStrs, sgn_eq, split_dot, split_sp, split_nl, dot_len, sp_len, nl_len, cxOf_K, L2.start, List.length_cons, List.length_nil, List.replicate_succ, List.replicate_zero, Nat.reduceSub, Nat.zero_add, and_true, true_and, and_self, exists_and_left, exists_const, Bool.false_eq_true, if_false, if_true, ite_true, ite_false, reduceIte, decide_eq_true_eq, reduceCtorEq, Nat.reduceAdd, Nat.reduceLT, tListZip]
      have hsum := sum_le (k := 4) fun w hw => (hws w hw).2.1
      refine ⟨ws, .inl (.of hD), ?_, q _ ws (x1.trans xa) Sa ?_ (by omega) hws⟩
      · have : (Str.ofString ".").length = 1 := by decide +kernel
        rw [this]; omega
      · intro e; subst e
        simp at hw; omega
/-! ### _law_pattern -/
theorem cut_join {us : List Str} (hne : us ≠ []) (h : ∀ u ∈ us, starOr u = true) : cut (wds (Txt.join "." us)) = us := by
  have e : wds (Txt.join "." us) = us := wds_join hne fun p hp => star_nodot (h p hp)
  rw [e]
  unfold cut
  refine if_neg fun z => ?_
  have := List.mem_of_getLast? z
  exact (star_signs (h _ this)).2.2 rfl
theorem cut_hash {us : List Str} (h : ∀ u ∈ us, starOr u = true) : cut (wds (Txt.join "." (us ++ [("#" : Str)]))) = us := by
  have e : wds (Txt.join "." (us ++ [("#" : Str)])) = us ++ [("#" : Str)] := wds_join (by simp) fun p hp => by
    rcases List.mem_append.mp hp with hp | hp
    · exact star_nodot (h p hp)
    · rw [List.mem_singleton.mp hp]; decide +kernel
  rw [e]
  unfold cut
  rw [if_pos (by simp)]
  simp
def sp_law_pattern : Sp := fun vs H Q _ => ∃ (h l : Addr) (n f : Int), vs = [.ref h, .int n, .int f] ∧ SrcOk H h l ∧ 1 ≤ n ∧ n ≤ 6 ∧ 1 ≤ f ∧ f ≤ 3 ∧
  ∀ H' (p : Str), Ext (DrS h l) H H' → SrcOk H' h l → isPat p = true → p.length ≤ 100 → (∀ u ∈ cut (wds p), u = ("*" : Str) ∨ fewWord u) → Q (.str p) H'
theorem G_law_pattern (T : Tx K mg) : Glob P w K mg base (CX0) 3 "_law_pattern" p_law_pattern [] sp_law_pattern := by
  obtain ⟨fd, F⟩ := T.f_law_pattern
  refine ⟨_, fd, [], F.ok sc_law_pattern (fun vs H Q E h => ?_) (fun cdv A outer s H vs Q E hr h => ?_), T.g__law_pattern, F.kp, .nil, F.bindsN fun _ _ _ _ _ _ us hl => match us, hl with | [_, _, _], _ => rfl⟩
  · obtain ⟨h, l, n, f, rfl, _⟩ := h; rfl
  · obtain ⟨h, l, n, f, rfl, hS, hn1, hn6, hf1, hf3, q⟩ := h
    refine ⟨_, PSs.nox (pss_cons (ps_set (i := 3) sc_law_pattern.nd rfl (Or.inl rfl) (pe_split (pe_callG (G_law_line T) (hr.mono (by decide)) (by rfl) pass0 (pa_cons (pv 0) (pa_cons (pv 1) (pa_cons (pv 2) pa_nil)))) pe_str))
      (pss_cons (ps_setLc (i := 3) (own := [("_law_word", 4)]) (g := (gName 4)) (tt := tYes) rfl sc_law_pattern.nd rfl rfl (sw_true rfl rfl rfl (by kernel_rfl)) (pi_listK (K := K) rfl (pv 3)) (blkOk_by (by kernel_rfl)) (fun _ _ _ _ _ => (pg_name (i := 4) sc_law_pattern.nd rfl (Or.inl rfl))) (fun _ _ _ _ _ => pts_nil) (fun _ _ _ _ _ => (pe_ix (ix_listK (K := K) rfl) (pe_lst (pa_cons pe_str (pa_cons (pv 4) (pa_cons (pv 4) pa_nil)))) (pe_callG (G_law_next T) (hr.mono (by decide)) (by rfl) pass0 (pa_cons (pv 0) (pa_cons pe_int pa_nil))) (fun _ _ => rfl))))
      (pss_cons (ps_set (i := 5) sc_law_pattern.nd rfl (Or.inl rfl) (pe_callG (G_law_next T) (hr.mono (by decide)) (by rfl) pass0 (pa_cons (pv 0) (pa_cons pe_int pa_nil))))
      (pss_one (ps_ret (pe_ifExp (pt_cmpR op_eq (pv 5) pe_int (nomark _)) (pe_joinK (K := K) rfl pe_str (pe_op op_cat (pv 3) (pe_lst (pa_cons pe_str pa_nil)))) (pe_ifExp (PW.pt (pw_and (pt_cmpR op_eq (pv 5) pe_int (nomark _)) (pw_and1 (pt_cmpR op_eq (pe_callG (G_law_next T) (hr.mono (by decide)) (by rfl) pass0 (pa_cons (pv 0) (pa_cons pe_int pa_nil))) pe_int (nomark _))))) pe_str (pe_joinK (K := K) rfl pe_str (pv 3))))))))), ?_⟩
    simp only [tCutE, false_and, exists_false, false_or, or_false, tRet, tRetN, tAndV, tOrV, tNotV, tChain, rI, rI0, rU, tC, tCB, tCons, tNil, tVar, tOp, tUn, tTest, tB, tAnd, tOr, tNot, tIf, tIfS, tSeq, tAsg, tDrop, tNext, gName, gTup_ref, gCons_cons, gNil_nil, and_assoc, tYes, wipe, rEq, rNe, scal_ss, scal_ii, scal_bb, scal_ns, scal_sn, scal_nn, scal_in, scal_ni, tLc_eq, tFor_eq, iList, iTup, iStr, iRng1, iRng2, iZip, iEnum, gSub, tSl, rSetL_ref, rCat_ref, rRep_ref, rJoin_ref, rSlL_ref, rSlS_ref, rMulS_ref, rIxL_ref, rIxT_ref, rLenK_ref, rAll_ref, rIn_ref, tLst, tTup, tPar, tPar3, tAug, tPart, tNoPart, tCall, List.getElem?_cons_zero, List.getElem?_cons_succ, List.set_cons_zero, List.set_cons_succ, List.map_cons, List.map_nil, List.append_nil, List.nil_append, List.cons_append, Option.some.injEq, exists_eq_left', exists_eq_left, exists_eq_right, exists_eq_right', exists_eq', V.int.injEq, V.str.injEq, V.bl.injEq, V.ref.injEq, List.cons.injEq, tM0, tM1, rNewStrs, sgn_eq, split_dot, split_sp, split_nl, dot_len, sp_len, nl_len, cxOf_K, L2.start, List.length_cons, List.length_nil, List.replicate_succ, List.replicate_zero, Nat.reduceSub, Nat.zero_add, and_true, true_and, and_self, exists_and_left, exists_const, Bool.false_eq_true, if_false, if_true, ite_true, ite_false, reduceIte, decide_eq_true_eq, reduceCtorEq, Nat.reduceAdd, Nat.reduceLT, tListZip]
    refine ⟨h, l, n, f, rfl, hS, hn1, hn6, hf1, hf3, fun H1 ws x1 S1 hne hwl hws => ?_⟩
    have hjl := joinD_len (k := 4) fun w hw => (hws w hw).2.1
    simp only [tCutE, false_and, exists_false, false_or, or_false, tRet, tRetN, tAndV, tOrV, tNotV, tChain, rI, rI0, rU, tC, tCB, tCons, tNil, tVar, tOp, tUn, tTest, tB, tAnd, tOr, tNot, tIf, tIfS, tSeq, tAsg, tDrop, tNext, gName, gTup_ref, gCons_cons, gNil_nil, and_assoc, tYes, wipe, rEq, rNe, scal_ss, scal_ii, scal_bb, scal_ns, scal_sn, scal_nn, scal_in, scal_ni, tLc_eq, tFor_eq, iList, iTup, iStr, iRng1, iRng2, iZip, iEnum, gSub, tSl, rSetL_ref, rCat_ref, rRep_ref, rJoin_ref, rSlL_ref, rSlS_ref, rMulS_ref, rIxL_ref, rIxT_ref, rLenK_ref, rAll_ref, rIn_ref, tLst, tTup, tPar, tPar3, tAug, tPart, tNoPart, tCall, List.getElem?_cons_zero, List.getElem?_cons_succ, List.set_cons_zero, List.set_cons_succ, List.map_cons, List.map_nil, List.append_nil, List.nil_append, List.cons_append, Option.some.injEq, exists_eq_left', exists_eq_left, exists_eq_right, exists_eq_right', exists_eq', V.int.injEq, V.str.injEq, V.bl.injEq, V.ref.injEq, List.cons.injEq, tM0, tM1, rNewStrs, sgn_eq, split_dot, split_sp, split_nl, dot_len, sp_len, nl_len, cxOf_K, L2.start, List.length_cons, List.length_nil, List.replicate_succ, List.replicate_zero, Nat.reduceSub, Nat.zero_add, and_true, true_and, and_self, exists_and_left, exists_const, Bool.false_eq_true, if_false, if_true, ite_true, ite_false, reduceIte, decide_eq_true_eq, reduceCtorEq, Nat.reduceAdd, Nat.reduceLT, tListZip]
    refine ⟨small (by omega), fun p hp => ?_⟩
    have ew : wds (Txt.join "." ws) = ws := wds_join hne fun p hp => star_nodot (word_star (few_word (hws p hp)))
    rw [ew]
    have S2 := S1.new (o := .lst (ws.map V.str)) hp
    have x2 : Ext (DrS h l) H (upd H1 p (.lst (ws.map V.str))) := x1.new hp (S1.nD hp)
    have np := S1.nD hp
    have hp2 : upd H1 p (.lst (ws.map V.str)) p = some (.lst (ws.map V.str)) := upd_same
    generalize upd H1 p (.lst (ws.map V.str)) = H2 at S2 x2 hp2
    refine ⟨⟨_, .of hp2⟩, ?_⟩
    refine lc_acc (walk_listm ws V.str) (DrS h l) (fun H => SrcOk H h l) (fun i acc => ∃ us : List Str, acc = us.map V.str ∧ us.length = i ∧ ∀ u ∈ us, starOr u = true ∧ (u = ("*" : Str) ∨ fewWord u)) (smallLt (by omega)) (fun D nD => S2.nD nD) ⟨[], rfl, rfl, fun _ h => nomatch h⟩ S2 (fun D H o nD s => s.put (S2.neD nD).1 (S2.neD nD).2) (fun Ha xa _ => .of (xa _ _ np hp2)) (fun i x Ha Hb acc R hi xa Sa pa hy r0 r1 => ?_) (fun D acc Ha nD pa la xa Sa hD => ?_)
    · obtain ⟨rfl, y, hy, rfl⟩ := hy
      obtain ⟨us, rfl, hul, hus⟩ := pa
      simp only [tCutE, false_and, exists_false, false_or, or_false, tRet, tRetN, tAndV, tOrV, tNotV, tChain, rI, rI0, rU, tC, tCB, tCons, tNil, tVar, tOp, tUn, tTest, tB, tAnd, tOr, tNot, tIf, tIfS, tSeq, tAsg, tDrop, tNext, gName, gTup_ref, gCons_cons, gNil_nil, and_assoc, tYes, wipe, rEq, rNe, scal_ss, scal_ii, scal_bb, scal_ns, scal_sn, scal_nn, scal_in, scal_ni, tLc_eq, tFor_eq, iList, iTup, iStr, iRng1, iRng2, iZip, iEnum, gSub, tSl, rSetL_ref, rCat_ref, rRep_ref, rJoin_ref, rSlL_ref, rSlS_ref, rMulS_ref, rIxL_ref, rIxT_ref, rLenK_ref, rAll_ref, rIn_ref, tLst, tTup, tPar, tPar3, tAug, tPart, tNoPart, tCall, List.getElem?_cons_zero, List.getElem?_cons_succ, List.set_cons_zero, List.set_cons_succ, List.map_cons, List.map_nil, List.append_nil, List.nil_append, List.cons_append, Option.some.injEq, exists_eq_left', exists_eq_left, exists_eq_right, exists_eq_right', exists_eq', V.int.injEq, V.str.injEq, V.bl.injEq, V.ref.injEq, List.cons.injEq, tM0, tM1, rNewStrs, sgn_eq, split_dot, split_sp, split_nl, dot_len, sp_len, nl_len, cxOf_K, L2.start, List.length_cons, List.length_nil, List.replicate_succ, List.replicate_zero, Nat.reduceSub, Nat.zero_add, and_true, true_and, and_self, exists_and_left, exists_const, Bool.false_eq_true, if_false, if_true, ite_true, ite_false, reduceIte, decide_eq_true_eq, reduceCtorEq, Nat.reduceAdd, Nat.reduceLT, tListZip]
      refine ⟨by decide, fun t ht => ?_⟩
      have St := Sa.new (o := .lst [V.str (Str.ofString "*"), V.str y, V.str y]) ht
      have xt : Ext (DrS h l) Hb (upd Hb t (.lst [V.str (Str.ofString "*"), V.str y, V.str y])) := (Ext.refl _ _).new ht (Sa.nD ht)
      refine ⟨h, l, 3, rfl, St, by decide, by decide, fun H3 r3 x3 S3 h30 h31 => ?_⟩
      simp only [tCutE, false_and, exists_false, false_or, or_false, tRet, tRetN, tAndV, tOrV, tNotV, tChain, rI, rI0, rU, tC, tCB, tCons, tNil, tVar, tOp, tUn, tTest, tB, tAnd, tOr, tNot, tIf, tIfS, tSeq, tAsg, tDrop, tNext, gName, gTup_ref, gCons_cons, gNil_nil, and_assoc, tYes, wipe, rEq, rNe, scal_ss, scal_ii, scal_bb, scal_ns, scal_sn, scal_nn, scal_in, scal_ni, tLc_eq, tFor_eq, iList, iTup, iStr, iRng1, iRng2, iZip, iEnum, gSub, tSl, rSetL_ref, rCat_ref, rRep_ref, rJoin_ref, rSlL_ref, rSlS_ref, rMulS_ref, rIxL_ref, rIxT_ref, rLenK_ref, rAll_ref, rIn_ref, tLst, tTup, tPar, tPar3, tAug, tPart, tNoPart, tCall, List.getElem?_cons_zero, List.getElem?_cons_succ, List.set_cons_zero, List.set_cons_succ, List.map_cons, List.map_nil, List.append_nil, List.nil_append, List.cons_append, Option.some.injEq, exists_eq_left', exists_eq_left, exists_eq_right, exists_eq_right', exists_eq', V.int.injEq, V.str.injEq, V.bl.injEq, V.ref.injEq, List.cons.injEq, tM0, tM1, rNewStrs, sgn_eq, split_dot, split_sp, split_nl, dot_len, sp_len, nl_len, cxOf_K, L2.start, List.length_cons, List.length_nil, List.replicate_succ, List.replicate_zero, Nat.reduceSub, Nat.zero_add, and_true, true_and, and_self, exists_and_left, exists_const, Bool.false_eq_true, if_false, if_true, ite_true, ite_false, reduceIte, decide_eq_true_eq, reduceCtorEq, Nat.reduceAdd, Nat.reduceLT, tListZip]
      refine ⟨_, .of (x3 _ _ (Sa.nD ht) upd_same), ?_⟩
      have hk : ∃ u : Str, (starOr u = true ∧ (u = ("*" : Str) ∨ fewWord u)) ∧ atI [V.str (Str.ofString "*"), V.str y, V.str y] r3 = some (.str u) := by
        have hy2 := word_star (few_word (hws y (List.mem_of_getElem? hy)))
        rcases (show r3 = 0 ∨ r3 = 1 ∨ r3 = 2 by omega) with e | e | e
        · rw [e]; exact ⟨"*", ⟨by decide +kernel, .inl rfl⟩, rfl⟩
        · rw [e]; exact ⟨y, ⟨hy2, .inr (hws y (List.mem_of_getElem? hy))⟩, rfl⟩
        · rw [e]; exact ⟨y, ⟨hy2, .inr (hws y (List.mem_of_getElem? hy))⟩, rfl⟩
      obtain ⟨u, hu1, hu2⟩ := hk
      refine ⟨_, hu2, r1 _ _ (xt.trans x3) S3 ⟨us ++ [u], by rw [List.map_append]; rfl, by rw [List.length_append, hul]; rfl, fun w hw => ?_⟩⟩
      rcases List.mem_append.mp hw with hw | hw
      · exact hus w hw
      · rw [List.mem_singleton.mp hw]; exact hu1
    · obtain ⟨us, rfl, hul, husf⟩ := pa
      have hus := fun u hu => (husf u hu).1
      have huf := fun u hu => (husf u hu).2
      have hune : us ≠ [] := fun e => by
        subst e
        exact hne (List.eq_nil_of_length_eq_zero hul.symm)
      have hu6 : us.length ≤ 6 := by omega
      have husum := sum_le (k := 4) fun w hw => (star_signs (hus w hw)).1
      have hujl := joinD_len (k := 4) fun w hw => (star_signs (hus w hw)).1
      have hdot : (Str.ofString ".").length = 1 := by decide +kernel
      have fin : ∀ Hz, Ext (DrS h l) Ha Hz → SrcOk Hz h l → rJoin K (V.str (Str.ofString ".")) [V.ref D] Hz Q := fun Hz xz Sz => by
        rw [rJoin_ref]
        refine ⟨us, .inl (.of (xz _ _ (S2.nD nD) hD)), ?_, q _ _ ((x2.trans xa).trans xz) Sz (isPat_join hune hu6 hus) (by omega) (by rw [cut_join hune hus]; exact huf)⟩
        rw [hdot]; omega
      refine ⟨h, l, 4, rfl, Sa, by decide, by decide, fun H3 r3 x3 S3 h30 h31 => ?_⟩
      simp only [tCutE, false_and, exists_false, false_or, or_false, tRet, tRetN, tAndV, tOrV, tNotV, tChain, rI, rI0, rU, tC, tCB, tCons, tNil, tVar, tOp, tUn, tTest, tB, tAnd, tOr, tNot, tIf, tIfS, tSeq, tAsg, tDrop, tNext, gName, gTup_ref, gCons_cons, gNil_nil, and_assoc, tYes, wipe, rEq, rNe, scal_ss, scal_ii, scal_bb, scal_ns, scal_sn, scal_nn, scal_in, scal_ni, tLc_eq, tFor_eq, iList, iTup, iStr, iRng1, iRng2, iZip, iEnum, gSub, tSl, rSetL_ref, rCat_ref, rRep_ref, rJoin_ref, rSlL_ref, rSlS_ref, rMulS_ref, rIxL_ref, rIxT_ref, rLenK_ref, rAll_ref, rIn_ref, tLst, tTup, tPar, tPar3, tAug, tPart, tNoPart, tCall, List.getElem?_cons_zero, List.getElem?_cons_succ, List.set_cons_zero, List.set_cons_succ, List.map_cons, List.map_nil, List.append_nil, List.nil_append, List.cons_append, Option.some.injEq, exists_eq_left', exists_eq_left, exists_eq_right, exists_eq_right', exists_eq', V.int.injEq, V.str.injEq, V.bl.injEq, V.ref.injEq, List.cons.injEq, tM0, tM1, rNewStrs, sgn_eq, split_dot, split_sp, split_nl, dot_len, sp_len, nl_len, cxOf_K, L2.start, List.length_cons, List.length_nil, List.replicate_succ, List.replicate_zero, Nat.reduceSub, Nat.zero_add, and_true, true_and, and_self, exists_and_left, exists_const, Bool.false_eq_true, if_false, if_true, ite_true, ite_false, reduceIte, decide_eq_true_eq, reduceCtorEq, Nat.reduceAdd, Nat.reduceLT, tListZip]
      split
      · refine ⟨by decide, fun t ht => ⟨_, by rw [upd_ne (ne_of_none (x3 _ _ (S2.nD nD) hD) ht)]; exact x3 _ _ (S2.nD nD) hD, _, upd_same, ?_, fun c hc => ?_⟩⟩
        · rw [List.length_map]; exact small (by simp; omega)
        have S4 := S3.new (o := .lst [V.str (Str.ofString "#")]) ht
        refine ⟨us ++ [("#" : Str)], .inl (.of (by rw [upd_same, List.map_append]; rfl)), ?_, q _ _ (((x2.trans xa).trans x3).trans (((Ext.refl _ _).new ht (S3.nD ht)).new hc (S4.nD hc))) (S4.new hc) (isPat_hash hu6 hus) ?_ (by rw [cut_hash hus]; exact huf)⟩
        · rw [hdot, List.map_append, List.sum_append, List.length_append]
          have : (("#" : Str)).length = 1 := by decide +kernel
          simp only [List.map_cons, List.map_nil, List.sum_cons, List.sum_nil, List.length_singleton, this]
          omega
        · have := joinD_len (ws := us ++ [("#" : Str)]) (k := 4) fun w hw => by
            rcases List.mem_append.mp hw with hw | hw
            · exact (star_signs (hus w hw)).1
            · rw [List.mem_singleton.mp hw]; decide +kernel
          rw [List.length_append] at this
          simp only [List.length_singleton] at this
          omega
      · split
        · refine ⟨h, l, 3, rfl, S3, by decide, by decide, fun H4 r4 x4 S4 h40 h41 => ?_⟩
          simp only [tCutE, false_and, exists_false, false_or, or_false, tRet, tRetN, tAndV, tOrV, tNotV, tChain, rI, rI0, rU, tC, tCB, tCons, tNil, tVar, tOp, tUn, tTest, tB, tAnd, tOr, tNot, tIf, tIfS, tSeq, tAsg, tDrop, tNext, gName, gTup_ref, gCons_cons, gNil_nil, and_assoc, tYes, wipe, rEq, rNe, scal_ss, scal_ii, scal_bb, scal_ns, scal_sn, scal_nn, scal_in, scal_ni, tLc_eq, tFor_eq, iList, iTup, iStr, iRng1, iRng2, iZip, iEnum, gSub, tSl, rSetL_ref, rCat_ref, rRep_ref, rJoin_ref, rSlL_ref, rSlS_ref, rMulS_ref, rIxL_ref, rIxT_ref, rLenK_ref, rAll_ref, rIn_ref, tLst, tTup, tPar, tPar3, tAug, tPart, tNoPart, tCall, List.getElem?_cons_zero, List.getElem?_cons_succ, List.set_cons_zero, List.set_cons_succ, List.map_cons, List.map_nil, List.append_nil, List.nil_append, List.cons_append, Option.some.injEq, exists_eq_left', exists_eq_left, exists_eq_right, exists_eq_right', exists_eq', V.int.injEq, V.str.injEq, V.bl.injEq, V.ref.injEq, List.cons.injEq, tM0, tM1, rNewStrs, sgn_eq, split_dot, split_sp, split_nl, dot_len, sp_len, nl_len, cxOf_K, L2.start, List.length_cons, List.length_nil, List.replicate_succ, List.replicate_zero, Nat.reduceSub, Nat.zero_add, and_true, true_and, and_self, exists_and_left, exists_const, Bool.false_eq_true, if_false, if_true, ite_true, ite_false, reduceIte, decide_eq_true_eq, reduceCtorEq, Nat.reduceAdd, Nat.reduceLT, tListZip]
          split
          · exact q _ _ (((x2.trans xa).trans x3).trans x4) S4 (by decide +kernel) (by decide +kernel) (fun u hu => by
              have e : cut (wds ("#" : Str)) = [] := by decide +kernel
              have hu : u ∈ cut (wds ("#" : Str)) := hu
              rw [e] at hu; cases hu)
          · have := fin H4 (x3.trans x4) S4
            rw [rJoin_ref] at this; exact this
        · have := fin H3 x3 S3
          rw [rJoin_ref] at this; exact this
end
end Hk

set_option Elab.async false
set_option linter.all false
set_option maxRecDepth 100000
set_option maxHeartbeats 4000000
namespace Hk
open PySem PySem.Spec PyProof.Rows L2
open TL
section
variable {P : Program} {w : World} {K : PySem.W.Frag} {mg : Str → Option Value} {base : Heap}
def sp_narrower (K : PySem.W.Frag) : Sp := fun vs H Q E => ∃ p q : Str, vs = [.str p, .str q] ∧ p.length ≤ 5000 ∧ q.length ≤ 5000 ∧ (isPat p = true → isPat q = true → ∀ H', Same H H' → Q (.bl (narrowerM p q)) H') ∧
  (isPat p = true → isPat q = false → ∀ H', Same H H' → E (.ref (He.ga K "BadPattern")) none H') ∧ (isPat p = false → ∀ H', Same H H' → E (.ref (He.ga K "BadPattern")) none H')
theorem G_narrower (T : Tx K mg) : Glob P w K mg base (L2.CX P w) 4 "narrower" p_narrower [] (sp_narrower K) := by
  obtain ⟨fd, F⟩ := T.f_narrower
  refine ⟨_, fd, [], F.ok sc_narrower (fun vs H Q E h => ?_) (fun cdv A outer s H vs Q E hr h => ?_), T.g_narrower, F.kp, .nil, F.bindsN fun _ _ _ _ _ _ us hl => match us, hl with | [_, _], _ => rfl⟩
  · obtain ⟨p, q, rfl, _⟩ := h; rfl
  · obtain ⟨p, q, rfl, hp, hq, q1, q2, q3⟩ := h
    refine ⟨_, (pss_cons (ps_expr (pe_callG (G_need_pattern T) (hr.mono (by decide)) (by rfl) (passes_call (takes_of rfl rfl rfl rfl) (fun _ _ _ _ h => h)) (pa_cons (pv 0) pa_nil)))
      (pss_cons (ps_expr (pe_callG (G_need_pattern T) (hr.mono (by decide)) (by rfl) (passes_call (takes_of rfl rfl rfl rfl) (fun _ _ _ _ h => h)) (pa_cons (pv 1) pa_nil)))
      (pss_cons (ps_for (passes_of rfl) rfl (pi_range2 (by rfl) T.b_range (pa_cons pe_int (pa_cons (pe_op op_add (pe_gi T.c_MOST_WORDS (by rfl)) pe_int) pa_nil))) (pg_name (i := 2) sc_narrower.nd rfl (Or.inl rfl))
      (pss_cons (ps_par (i := 3) (j := 4) rfl sc_narrower.nd rfl rfl (by decide) rfl rfl (pa_cons (pe_callG (G_of_length T) (hr.mono (by decide)) (by rfl) pass0 (pa_cons (pv 0) (pa_cons (pv 2) pa_nil))) (pa_cons (pe_callG (G_of_length T) (hr.mono (by decide)) (by rfl) pass0 (pa_cons (pv 1) (pa_cons (pv 2) pa_nil))) pa_nil)) (by rfl))
      (pss_one (ps_if (pt_cmpR op_notN (pv 3) pe_non (nomark _))
      (pss_one (ps_if (PW.pt (pw_or (pt_cmpR op_isN (pv 4) pe_non (nomark _)) (pw_or1 (pt_not (pt_val (pe_callB (cr_allK (K := K) rfl rfl) (by rfl) T.b_all (by decide +kernel) (pa_cons (pe_lc (own := [("part", 5), ("word", 6)]) (g := (gTup K 2 (gCons (gName 5) (gCons (gName 6) gNil)))) (tt := tYes) rfl sc_narrower.nd (pi_zipK (K := K) rfl (by rfl) T.b_zip (pa_cons (pv 3) (pa_cons (pv 4) pa_nil))) (blkOk_by (by kernel_rfl)) (fun _ _ _ _ _ => (pg_tupK (K := K) rfl rfl (pgs_cons (pg_name (i := 5) sc_narrower.nd rfl (Or.inl rfl)) (pgs_cons (pg_name (i := 6) sc_narrower.nd rfl (Or.inl rfl)) pgs_nil)))) (fun _ _ _ _ _ => pts_nil) (fun _ _ _ _ _ => (pe_cmpR (op_in_seqK (K := K) rfl) (pv 6) (pe_tup (pa_cons (pe_gs T.c_ANY (by rfl)) (pa_cons (pv 5) pa_nil))) (by rfl)))) pa_nil)))))))
      (pss_one (ps_ret pe_bl))
      pss_nil))
      pss_nil))))
      (pss_one (ps_ret pe_bl))))), ?_⟩
    simp only [tCutE, false_and, exists_false, false_or, or_false, tRet, tRetN, tAndV, tOrV, tNotV, tChain, rI, rI0, rU, tC, tCB, tCons, tNil, tVar, tOp, tUn, tTest, tB, tAnd, tOr, tNot, tIf, tIfS, tSeq, tAsg, tDrop, tNext, gName, gTup_ref, gCons_cons, gNil_nil, and_assoc, tYes, wipe, rEq, rNe, scal_ss, scal_ii, scal_bb, scal_ns, scal_sn, scal_nn, scal_in, scal_ni, tLc_eq, tFor_eq, iList, iTup, iStr, iRng1, iRng2, iZip, iEnum, gSub, tSl, rSetL_ref, rCat_ref, rRep_ref, rJoin_ref, rSlL_ref, rSlS_ref, rMulS_ref, rIxL_ref, rIxT_ref, rLenK_ref, rAll_ref, rIn_ref, tLst, tTup, tPar, tPar3, tAug, tPart, tNoPart, tCall, List.getElem?_cons_zero, List.getElem?_cons_succ, List.set_cons_zero, List.set_cons_succ, List.map_cons, List.map_nil, List.append_nil, List.nil_append, List.cons_append, Option.some.injEq, exists_eq_left', exists_eq_left, exists_eq_right, exists_eq_right', exists_eq', V.int.injEq, V.str.injEq, V.bl.injEq, V.ref.injEq, List.cons.injEq, tM0, tM1, rNewStrs, sgn_eq, split_dot, split_sp, split_nl, dot_len, sp_len, nl_len, cxOf_K, L2.start, List.length_cons, List.length_nil, List.replicate_succ, List.replicate_zero, Nat.reduceSub, Nat.zero_add, and_true, true_and, and_self, exists_and_left, exists_const, Bool.false_eq_true, if_false, if_true, ite_true, ite_false, reduceIte, decide_eq_true_eq, reduceCtorEq, Nat.reduceAdd, Nat.reduceLT, tListZip]
    refine ⟨p, rfl, by omega, fun g1 H1 s1 => ⟨q, rfl, by omega, fun g2 H2 s2 => ⟨by decide, by decide, by decide, by decide, ?_⟩, fun g2 H2 s2 => q2 g1 g2 _ (s1.trans s2)⟩, fun g1 H1 s1 => q3 g1 _ s1⟩
    have s2 := s1.trans s2
    obtain ⟨Pv, hPv⟩ : ∃ Pv : Nat → L2.St → Hp → Prop, ∀ i σ H', Pv i σ H' ↔ ∃ a b c d e, σ = [some (.str p), some (.str q), a, b, c, d, e] ∧ Same H H' ∧ (List.range i).all (nar1 p q) = true := ⟨_, fun _ _ _ => Iff.rfl⟩
    refine forG walk_range Pv ((hPv _ _ _).mpr ⟨_, _, _, _, _, rfl, s2, rfl⟩) (fun _ _ _ _ _ => trivial) (fun i x σ Ha Hb hi hP hy => ?_) (fun σ Ha hP => ?_)
    · obtain ⟨rfl, rfl⟩ := hy
      obtain ⟨a, b, c, d, e, rfl, sa, hall⟩ := (hPv _ _ _).mp hP
      have hi6 : i < 6 := hi
      simp only [tCutE, false_and, exists_false, false_or, or_false, tRet, tRetN, tAndV, tOrV, tNotV, tChain, rI, rI0, rU, tC, tCB, tCons, tNil, tVar, tOp, tUn, tTest, tB, tAnd, tOr, tNot, tIf, tIfS, tSeq, tAsg, tDrop, tNext, gName, gTup_ref, gCons_cons, gNil_nil, and_assoc, tYes, wipe, rEq, rNe, scal_ss, scal_ii, scal_bb, scal_ns, scal_sn, scal_nn, scal_in, scal_ni, tLc_eq, tFor_eq, iList, iTup, iStr, iRng1, iRng2, iZip, iEnum, gSub, tSl, rSetL_ref, rCat_ref, rRep_ref, rJoin_ref, rSlL_ref, rSlS_ref, rMulS_ref, rIxL_ref, rIxT_ref, rLenK_ref, rAll_ref, rIn_ref, tLst, tTup, tPar, tPar3, tAug, tPart, tNoPart, tCall, List.getElem?_cons_zero, List.getElem?_cons_succ, List.set_cons_zero, List.set_cons_succ, List.map_cons, List.map_nil, List.append_nil, List.nil_append, List.cons_append, Option.some.injEq, exists_eq_left', exists_eq_left, exists_eq_right, exists_eq_right', exists_eq', V.int.injEq, V.str.injEq, V.bl.injEq, V.ref.injEq, List.cons.injEq, tM0, tM1, rNewStrs, sgn_eq, split_dot, split_sp, split_nl, dot_len, sp_len, nl_len, cxOf_K, L2.start, List.length_cons, List.length_nil, List.replicate_succ, List.replicate_zero, Nat.reduceSub, Nat.zero_add, and_true, true_and, and_self, exists_and_left, exists_const, Bool.false_eq_true, if_false, if_true, ite_true, ite_false, reduceIte, decide_eq_true_eq, reduceCtorEq, Nat.reduceAdd, Nat.reduceLT, tListZip]
      have ei : (1 : Int) + (i : Int) = (i : Int) + 1 := by omega
      rw [ei]
      refine ⟨p, _, rfl, by omega, by omega, by omega, fun e1 H3 s3 => ?_, fun ms e1 H3 r3 s3 hr3 hr3' => ?_⟩
      · have hn : nar1 p q i = true := by unfold nar1; rw [e1]
        refine ⟨q, _, rfl, by omega, by omega, by omega, fun e2 H4 s4 => ?_, fun ts e2 H4 r4 s4 hr4 hr4' => ?_⟩
        · exact ifN (by simp) ((hPv _ _ _).mpr ⟨_, _, _, _, _, rfl, (sa.trans s3).trans s4, range_all (n := 6) hall hn⟩)
        · exact ifN (by simp) ((hPv _ _ _).mpr ⟨_, _, _, _, _, rfl, (sa.trans s3).trans s4, range_all (n := 6) hall hn⟩)
      · refine ⟨q, _, rfl, by omega, by omega, by omega, fun e2 H4 s4 => ?_, fun ts e2 H4 r4 s4 hr4 hr4' => ?_⟩
        · have hn : nar1 p q i = false := by unfold nar1; rw [e1]; simp only; rw [e2]
          refine ifP (by simp) (ifP rfl ?_)
          have := range_not (n := 6) hi6 hn
          rw [← this]
          exact q1 g1 g2 _ ((sa.trans s3).trans s4)
        · refine ifP (by simp) (ifN (by simp) ?_)
          have l1 := ofLen_len e1
          have l2 := ofLen_len e2
          have hr3'' := s4 _ _ hr3'
          simp only [tCutE, false_and, exists_false, false_or, or_false, tRet, tRetN, tAndV, tOrV, tNotV, tChain, rI, rI0, rU, tC, tCB, tCons, tNil, tVar, tOp, tUn, tTest, tB, tAnd, tOr, tNot, tIf, tIfS, tSeq, tAsg, tDrop, tNext, gName, gTup_ref, gCons_cons, gNil_nil, and_assoc, tYes, wipe, rEq, rNe, scal_ss, scal_ii, scal_bb, scal_ns, scal_sn, scal_nn, scal_in, scal_ni, tLc_eq, tFor_eq, iList, iTup, iStr, iRng1, iRng2, iZip, iEnum, gSub, tSl, rSetL_ref, rCat_ref, rRep_ref, rJoin_ref, rSlL_ref, rSlS_ref, rMulS_ref, rIxL_ref, rIxT_ref, rLenK_ref, rAll_ref, rIn_ref, tLst, tTup, tPar, tPar3, tAug, tPart, tNoPart, tCall, List.getElem?_cons_zero, List.getElem?_cons_succ, List.set_cons_zero, List.set_cons_succ, List.map_cons, List.map_nil, List.append_nil, List.nil_append, List.cons_append, Option.some.injEq, exists_eq_left', exists_eq_left, exists_eq_right, exists_eq_right', exists_eq', V.int.injEq, V.str.injEq, V.bl.injEq, V.ref.injEq, List.cons.injEq, tM0, tM1, rNewStrs, sgn_eq, split_dot, split_sp, split_nl, dot_len, sp_len, nl_len, cxOf_K, L2.start, List.length_cons, List.length_nil, List.replicate_succ, List.replicate_zero, Nat.reduceSub, Nat.zero_add, and_true, true_and, and_self, exists_and_left, exists_const, Bool.false_eq_true, if_false, if_true, ite_true, ite_false, reduceIte, decide_eq_true_eq, reduceCtorEq, Nat.reduceAdd, Nat.reduceLT, tListZip]
          refine ⟨_, .of hr3'', _, .of hr4', lc_map (ms.zip ts) (fun x => V.bl (decide (x.2 = ("*" : Str)) || decide (x.2 = x.1))) (walk_zipm ms ts V.str V.str) (by rw [List.length_zip]; omega) (fun H5 s5 => ⟨s5.seq (.of hr3''), s5.seq (.of hr4')⟩) (fun j a x H5 H6 R hx s5 hy r => ?_) (fun D H5 nD s5 hD => ?_)⟩
          · obtain ⟨t, y, rfl, ht, rfl, hy⟩ := hy
            cases Option.some.inj (hx.symm.trans hy)
            refine ⟨t, _, rfl, .of upd_same, rfl, ?_⟩
            simp only [tCutE, false_and, exists_false, false_or, or_false, tRet, tRetN, tAndV, tOrV, tNotV, tChain, rI, rI0, rU, tC, tCB, tCons, tNil, tVar, tOp, tUn, tTest, tB, tAnd, tOr, tNot, tIf, tIfS, tSeq, tAsg, tDrop, tNext, gName, gTup_ref, gCons_cons, gNil_nil, and_assoc, tYes, wipe, rEq, rNe, scal_ss, scal_ii, scal_bb, scal_ns, scal_sn, scal_nn, scal_in, scal_ni, tLc_eq, tFor_eq, iList, iTup, iStr, iRng1, iRng2, iZip, iEnum, gSub, tSl, rSetL_ref, rCat_ref, rRep_ref, rJoin_ref, rSlL_ref, rSlS_ref, rMulS_ref, rIxL_ref, rIxT_ref, rLenK_ref, rAll_ref, rIn_ref, tLst, tTup, tPar, tPar3, tAug, tPart, tNoPart, tCall, List.getElem?_cons_zero, List.getElem?_cons_succ, List.set_cons_zero, List.set_cons_succ, List.map_cons, List.map_nil, List.append_nil, List.nil_append, List.cons_append, Option.some.injEq, exists_eq_left', exists_eq_left, exists_eq_right, exists_eq_right', exists_eq', V.int.injEq, V.str.injEq, V.bl.injEq, V.ref.injEq, List.cons.injEq, tM0, tM1, rNewStrs, sgn_eq, split_dot, split_sp, split_nl, dot_len, sp_len, nl_len, cxOf_K, L2.start, List.length_cons, List.length_nil, List.replicate_succ, List.replicate_zero, Nat.reduceSub, Nat.zero_add, and_true, true_and, and_self, exists_and_left, exists_const, Bool.false_eq_true, if_false, if_true, ite_true, ite_false, reduceIte, decide_eq_true_eq, reduceCtorEq, Nat.reduceAdd, Nat.reduceLT, tListZip]
            refine ⟨by decide, fun u hu => ⟨_, .inr (.of upd_same), rfl, rfl, ?_⟩⟩
            have e3 : inV (V.str a.2) [V.str (Str.ofString "*"), V.str a.1] = (decide (a.2 = ("*" : Str)) || decide (a.2 = a.1)) := by
              unfold inV eqV
              simp only [List.any_cons, List.any_nil, Bool.or_false]
              rw [beq_dec, beq_dec]
            rw [e3]
            exact r _ (same_new (same_new (Same.refl _) ht) hu)
          · refine ⟨D, (ms.zip ts).map (fun x => decide (x.2 = ("*" : Str)) || decide (x.2 = x.1)), rfl, .of (by rw [hD, List.map_map]; rfl), _, rfl, ?_⟩
            have hn : nar1 p q i = List.all ((ms.zip ts).map (fun x => decide (x.2 = ("*" : Str)) || decide (x.2 = x.1))) id := by
              unfold nar1; rw [e1]; simp only; rw [e2, List.all_map]; rfl
            rw [← hn]
            have s6 := ((sa.trans s3).trans s4).trans s5
            cases hv : nar1 p q i with
            | true => exact ifN (by simp) ((hPv _ _ _).mpr ⟨_, _, _, _, _, rfl, s6, range_all (n := 6) hall hv⟩)
            | false =>
              refine ifP (by simp) ?_
              have := range_not (n := 6) hi6 hv
              rw [← this]
              exact q1 g1 g2 _ s6
    · obtain ⟨a, b, c, d, e, rfl, sa, hall⟩ := (hPv _ _ _).mp hP
      simp only [tCutE, false_and, exists_false, false_or, or_false, tRet, tRetN, tAndV, tOrV, tNotV, tChain, rI, rI0, rU, tC, tCB, tCons, tNil, tVar, tOp, tUn, tTest, tB, tAnd, tOr, tNot, tIf, tIfS, tSeq, tAsg, tDrop, tNext, gName, gTup_ref, gCons_cons, gNil_nil, and_assoc, tYes, wipe, rEq, rNe, scal_ss, scal_ii, scal_bb, scal_ns, scal_sn, scal_nn, scal_in, scal_ni, tLc_eq, tFor_eq, iList, iTup, iStr, iRng1, iRng2, iZip, iEnum, gSub, tSl, rSetL_ref, rCat_ref, rRep_ref, rJoin_ref, rSlL_ref, rSlS_ref, rMulS_ref, rIxL_ref, rIxT_ref, rLenK_ref, rAll_ref, rIn_ref, tLst, tTup, tPar, tPar3, tAug, tPart, tNoPart, tCall, List.getElem?_cons_zero, List.getElem?_cons_succ, List.set_cons_zero, List.set_cons_succ, List.map_cons, List.map_nil, List.append_nil, List.nil_append, List.cons_append, Option.some.injEq, exists_eq_left', exists_eq_left, exists_eq_right, exists_eq_right', exists_eq', V.int.injEq, V.str.injEq, V.bl.injEq, V.ref.injEq, List.cons.injEq, tM0, tM1, rNewStrs, sgn_eq, split_dot, split_sp, split_nl, dot_len, sp_len, nl_len, cxOf_K, L2.start, List.length_cons, List.length_nil, List.replicate_succ, List.replicate_zero, Nat.reduceSub, Nat.zero_add, and_true, true_and, and_self, exists_and_left, exists_const, Bool.false_eq_true, if_false, if_true, ite_true, ite_false, reduceIte, decide_eq_true_eq, reduceCtorEq, Nat.reduceAdd, Nat.reduceLT, tListZip]
      have : narrowerM p q = true := hall
      rw [← this]
      exact q1 g1 g2 _ sa
def sp_met : Sp := fun vs H Q _ => ∃ x : Str × Str, vs = [.str x.1, .str x.2] ∧ Q (.str (met1 x)) H
theorem G_met (T : Tx K mg) : Glob P w K mg base (CX0) 1 "met" p_met [] sp_met := by
  obtain ⟨fd, F⟩ := T.f_met
  refine ⟨_, fd, [], F.ok sc_met (fun vs H Q E h => ?_) (fun cdv A outer s H vs Q E hr h => ?_), T.g_met, F.kp, .nil, F.bindsN fun _ _ _ _ _ _ us hl => match us, hl with | [_, _], _ => rfl⟩
  · obtain ⟨x, rfl, _⟩ := h; rfl
  · obtain ⟨x, rfl, q⟩ := h
    refine ⟨_, PSs.nox (pss_cons (ps_if (PW.pt (pw_and (pt_cmpR op_eq (pv 0) (pe_gs T.c_ANY (by rfl)) (nomark _)) (pw_and1 (pt_cmpR op_eq (pv 1) (pe_gs T.c_ANY (by rfl)) (nomark _)))))
      (pss_one (ps_ret pe_str))
      pss_nil)
      (pss_one (ps_ret (pe_ifExp (pt_cmpR op_eq (pv 0) (pe_gs T.c_ANY (by rfl)) (nomark _)) (pv 1) (pv 0))))), ?_⟩
    simp only [tCutE, false_and, exists_false, false_or, or_false, tRet, tRetN, tAndV, tOrV, tNotV, tChain, rI, rI0, rU, tC, tCB, tCons, tNil, tVar, tOp, tUn, tTest, tB, tAnd, tOr, tNot, tIf, tIfS, tSeq, tAsg, tDrop, tNext, gName, gTup_ref, gCons_cons, gNil_nil, and_assoc, tYes, wipe, rEq, rNe, scal_ss, scal_ii, scal_bb, scal_ns, scal_sn, scal_nn, scal_in, scal_ni, tLc_eq, tFor_eq, iList, iTup, iStr, iRng1, iRng2, iZip, iEnum, gSub, tSl, rSetL_ref, rCat_ref, rRep_ref, rJoin_ref, rSlL_ref, rSlS_ref, rMulS_ref, rIxL_ref, rIxT_ref, rLenK_ref, rAll_ref, rIn_ref, tLst, tTup, tPar, tPar3, tAug, tPart, tNoPart, tCall, List.getElem?_cons_zero, List.getElem?_cons_succ, List.set_cons_zero, List.set_cons_succ, List.map_cons, List.map_nil, List.append_nil, List.nil_append, List.cons_append, Option.some.injEq, exists_eq_left', exists_eq_left, exists_eq_right, exists_eq_right', exists_eq', V.int.injEq, V.str.injEq, V.bl.injEq, V.ref.injEq, List.cons.injEq, tM0, tM1, rNewStrs, sgn_eq, split_dot, split_sp, split_nl, dot_len, sp_len, nl_len, cxOf_K, L2.start, List.length_cons, List.length_nil, List.replicate_succ, List.replicate_zero, Nat.reduceSub, Nat.zero_add, and_true, true_and, and_self, exists_and_left, exists_const, Bool.false_eq_true, if_false, if_true, ite_true, ite_false, reduceIte, decide_eq_true_eq, reduceCtorEq, Nat.reduceAdd, Nat.reduceLT, tListZip]
    unfold met1 at q
    by_cases h1 : x.1 = ("*" : Str)
    · by_cases h2 : x.2 = ("*" : Str)
      · rw [if_pos ⟨h1, h2⟩] at q
        exact ifP h1 (ifP h2 q)
      · rw [if_neg (fun z => h2 z.2), if_pos h1] at q
        exact ifP h1 (ifN h2 (ifP h1 q))
    · rw [if_neg (fun z => h1 z.1), if_neg h1] at q
      exact ifN h1 (ifN h1 q)
theorem ofLen_each {p : Str} {n : Int} {ws : List Str} (h : ofLen p n = some ws) : ∀ w ∈ ws, w.length ≤ p.length + 1 := by
  intro w hw
  unfold ofLen at h
  simp only at h
  have e1 : Str.length ("*" : Str) = 1 := by decide +kernel
  split at h
  · split at h
    · cases h
      rcases List.mem_append.mp hw with hw | hw
      · have := wds_each p w (List.dropLast_subset _ hw)
        omega
      · rw [(List.mem_replicate.mp hw).2, e1]; omega
    · cases h
  · split at h
    · cases h
      have := wds_each p w hw
      omega
    · cases h
def sp_meets (K : PySem.W.Frag) : Sp := fun vs H Q E => ∃ p q : Str, vs = [.str p, .str q] ∧ p.length ≤ 5000 ∧ q.length ≤ 5000 ∧ (isPat p = true → isPat q = true → ∀ H', Same H H' → Q (meetV (meetsM p q)) H') ∧
  (isPat p = true → isPat q = false → ∀ H', Same H H' → E (.ref (He.ga K "BadPattern")) none H') ∧ (isPat p = false → ∀ H', Same H H' → E (.ref (He.ga K "BadPattern")) none H')
theorem G_meets (T : Tx K mg) : Glob P w K mg base (L2.CX P w) 4 "meets" p_meets [] (sp_meets K) := by
  obtain ⟨fd, F⟩ := T.f_meets
  refine ⟨_, fd, [], F.ok sc_meets (fun vs H Q E h => ?_) (fun cdv A outer s H vs Q E hr h => ?_), T.g_meets, F.kp, .nil, F.bindsN fun _ _ _ _ _ _ us hl => match us, hl with | [_, _], _ => rfl⟩
  · obtain ⟨p, q, rfl, _⟩ := h; rfl
  · obtain ⟨p, q, rfl, hp, hq, q1, q2, q3⟩ := h
    refine ⟨_, (pss_cons (ps_expr (pe_callG (G_need_pattern T) (hr.mono (by decide)) (by rfl) (passes_call (takes_of rfl rfl rfl rfl) (fun _ _ _ _ h => h)) (pa_cons (pv 0) pa_nil)))
      (pss_cons (ps_expr (pe_callG (G_need_pattern T) (hr.mono (by decide)) (by rfl) (passes_call (takes_of rfl rfl rfl rfl) (fun _ _ _ _ h => h)) (pa_cons (pv 1) pa_nil)))
      (pss_cons (ps_for (passes_of rfl) rfl (pi_range2 (by rfl) T.b_range (pa_cons pe_int (pa_cons (pe_op op_add (pe_gi T.c_MOST_WORDS (by rfl)) pe_int) pa_nil))) (pg_name (i := 2) sc_meets.nd rfl (Or.inl rfl))
      (pss_cons (ps_par (i := 3) (j := 4) rfl sc_meets.nd rfl rfl (by decide) rfl rfl (pa_cons (pe_callG (G_of_length T) (hr.mono (by decide)) (by rfl) pass0 (pa_cons (pv 0) (pa_cons (pv 2) pa_nil))) (pa_cons (pe_callG (G_of_length T) (hr.mono (by decide)) (by rfl) pass0 (pa_cons (pv 1) (pa_cons (pv 2) pa_nil))) pa_nil)) (by rfl))
      (pss_one (ps_if (PW.pt (pw_and (pt_cmpR op_notN (pv 3) pe_non (nomark _)) (pw_and1 (pt_cmpR op_notN (pv 4) pe_non (nomark _)))))
      (pss_cons (ps_set (i := 5) sc_meets.nd rfl (Or.inl rfl) (pe_listZip (K := K) rfl rfl (by rfl) T.b_list (by rfl) T.b_zip (pa_cons (pv 3) (pa_cons (pv 4) pa_nil))))
      (pss_one (ps_if (pt_val (pe_callB (cr_allK (K := K) rfl rfl) (by rfl) T.b_all (by decide +kernel) (pa_cons (pe_lc (own := [("pair", 6)]) (g := (gName 6)) (tt := tYes) rfl sc_meets.nd (pi_listK (K := K) rfl (pv 5)) (blkOk_by (by kernel_rfl)) (fun _ _ _ _ _ => (pg_name (i := 6) sc_meets.nd rfl (Or.inl rfl))) (fun _ _ _ _ _ => pts_nil) (fun _ _ _ _ _ => (pe_or (pe_cmpR (op_in_seqK (K := K) rfl) (pe_gs T.c_ANY (by rfl)) (pv 6) (by rfl)) (pe_one (pe_cmpR op_eq (pe_ix (ix_tupK (K := K) rfl) (pv 6) pe_int (fun _ _ => rfl)) (pe_ix (ix_tupK (K := K) rfl) (pv 6) pe_int (fun _ _ => rfl)) (nomark _)))))) pa_nil)))
      (pss_one (ps_ret (pe_joinK (K := K) rfl pe_str (pe_lc (own := [("part", 7), ("word", 8)]) (g := (gTup K 2 (gCons (gName 7) (gCons (gName 8) gNil)))) (tt := tYes) rfl sc_meets.nd (pi_listK (K := K) rfl (pv 5)) (blkOk_by (by kernel_rfl)) (fun _ _ _ _ _ => (pg_tupK (K := K) rfl rfl (pgs_cons (pg_name (i := 7) sc_meets.nd rfl (Or.inl rfl)) (pgs_cons (pg_name (i := 8) sc_meets.nd rfl (Or.inl rfl)) pgs_nil)))) (fun _ _ _ _ _ => pts_nil) (fun _ _ _ _ _ => (pe_callG (G_met T) (hr.mono (by decide)) (by rfl) pass0 (pa_cons (pv 7) (pa_cons (pv 8) pa_nil))))))))
      pss_nil)))
      pss_nil))))
      (pss_one (ps_ret pe_non))))), ?_⟩
    simp only [tCutE, false_and, exists_false, false_or, or_false, tRet, tRetN, tAndV, tOrV, tNotV, tChain, rI, rI0, rU, tC, tCB, tCons, tNil, tVar, tOp, tUn, tTest, tB, tAnd, tOr, tNot, tIf, tIfS, tSeq, tAsg, tDrop, tNext, gName, gTup_ref, gCons_cons, gNil_nil, and_assoc, tYes, wipe, rEq, rNe, scal_ss, scal_ii, scal_bb, scal_ns, scal_sn, scal_nn, scal_in, scal_ni, tLc_eq, tFor_eq, iList, iTup, iStr, iRng1, iRng2, iZip, iEnum, gSub, tSl, rSetL_ref, rCat_ref, rRep_ref, rJoin_ref, rSlL_ref, rSlS_ref, rMulS_ref, rIxL_ref, rIxT_ref, rLenK_ref, rAll_ref, rIn_ref, tLst, tTup, tPar, tPar3, tAug, tPart, tNoPart, tCall, List.getElem?_cons_zero, List.getElem?_cons_succ, List.set_cons_zero, List.set_cons_succ, List.map_cons, List.map_nil, List.append_nil, List.nil_append, List.cons_append, Option.some.injEq, exists_eq_left', exists_eq_left, exists_eq_right, exists_eq_right', exists_eq', V.int.injEq, V.str.injEq, V.bl.injEq, V.ref.injEq, List.cons.injEq, tM0, tM1, rNewStrs, sgn_eq, split_dot, split_sp, split_nl, dot_len, sp_len, nl_len, cxOf_K, L2.start, List.length_cons, List.length_nil, List.replicate_succ, List.replicate_zero, Nat.reduceSub, Nat.zero_add, and_true, true_and, and_self, exists_and_left, exists_const, Bool.false_eq_true, if_false, if_true, ite_true, ite_false, reduceIte, decide_eq_true_eq, reduceCtorEq, Nat.reduceAdd, Nat.reduceLT, tListZip]
    refine ⟨p, rfl, by omega, fun g1 H1 s1 => ⟨q, rfl, by omega, fun g2 H2 s2 => ⟨by decide, by decide, by decide, by decide, ?_⟩, fun g2 H2 s2 => q2 g1 g2 _ (s1.trans s2)⟩, fun g1 H1 s1 => q3 g1 _ s1⟩
    have s2 := s1.trans s2
    obtain ⟨Pv, hPv⟩ : ∃ Pv : Nat → L2.St → Hp → Prop, ∀ i σ H', Pv i σ H' ↔ ∃ a b c d e f g, σ = [some (.str p), some (.str q), a, b, c, d, e, f, g] ∧ Same H H' ∧ (List.range i).findSome? (mee1 p q) = none := ⟨_, fun _ _ _ => Iff.rfl⟩
    refine forG walk_range Pv ((hPv _ _ _).mpr ⟨_, _, _, _, _, _, _, rfl, s2, rfl⟩) (fun _ _ _ _ _ => trivial) (fun i x σ Ha Hb hi hP hy => ?_) (fun σ Ha hP => ?_)
    · obtain ⟨rfl, rfl⟩ := hy
      obtain ⟨a, b, c, d, e, f, g, rfl, sa, hall⟩ := (hPv _ _ _).mp hP
      have hi6 : i < 6 := hi
      simp only [tCutE, false_and, exists_false, false_or, or_false, tRet, tRetN, tAndV, tOrV, tNotV, tChain, rI, rI0, rU, tC, tCB, tCons, tNil, tVar, tOp, tUn, tTest, tB, tAnd, tOr, tNot, tIf, tIfS, tSeq, tAsg, tDrop, tNext, gName, gTup_ref, gCons_cons, gNil_nil, and_assoc, tYes, wipe, rEq, rNe, scal_ss, scal_ii, scal_bb, scal_ns, scal_sn, scal_nn, scal_in, scal_ni, tLc_eq, tFor_eq, iList, iTup, iStr, iRng1, iRng2, iZip, iEnum, gSub, tSl, rSetL_ref, rCat_ref, rRep_ref, rJoin_ref, rSlL_ref, rSlS_ref, rMulS_ref, rIxL_ref, rIxT_ref, rLenK_ref, rAll_ref, rIn_ref, tLst, tTup, tPar, tPar3, tAug, tPart, tNoPart, tCall, List.getElem?_cons_zero, List.getElem?_cons_succ, List.set_cons_zero, List.set_cons_succ, List.map_cons, List.map_nil, List.append_nil, List.nil_append, List.cons_append, Option.some.injEq, exists_eq_left', exists_eq_left, exists_eq_right, exists_eq_right', exists_eq', V.int.injEq, V.str.injEq, V.bl.injEq, V.ref.injEq, List.cons.injEq, tM0, tM1, rNewStrs, sgn_eq, split_dot, split_sp, split_nl, dot_len, sp_len, nl_len, cxOf_K, L2.start, List.length_cons, List.length_nil, List.replicate_succ, List.replicate_zero, Nat.reduceSub, Nat.zero_add, and_true, true_and, and_self, exists_and_left, exists_const, Bool.false_eq_true, if_false, if_true, ite_true, ite_false, reduceIte, decide_eq_true_eq, reduceCtorEq, Nat.reduceAdd, Nat.reduceLT, tListZip]
      have ei : (1 : Int) + (i : Int) = (i : Int) + 1 := by omega
      rw [ei]
      refine ⟨p, _, rfl, by omega, by omega, by omega, fun e1 H3 s3 => ?_, fun ms e1 H3 r3 s3 hr3 hr3' => ?_⟩
      · have hn : mee1 p q i = none := by unfold mee1; rw [e1]
        refine ⟨q, _, rfl, by omega, by omega, by omega, fun e2 H4 s4 => ?_, fun ts e2 H4 r4 s4 hr4 hr4' => ?_⟩
        · exact ifN (by simp) ((hPv _ _ _).mpr ⟨_, _, _, _, _, _, _, rfl, (sa.trans s3).trans s4, range_none hall hn⟩)
        · exact ifN (by simp) ((hPv _ _ _).mpr ⟨_, _, _, _, _, _, _, rfl, (sa.trans s3).trans s4, range_none hall hn⟩)
      · refine ⟨q, _, rfl, by omega, by omega, by omega, fun e2 H4 s4 => ?_, fun ts e2 H4 r4 s4 hr4 hr4' => ?_⟩
        · have hn : mee1 p q i = none := by unfold mee1; rw [e1]; simp only; rw [e2]
          exact ifP (by simp) (ifN (by simp) ((hPv _ _ _).mpr ⟨_, _, _, _, _, _, _, rfl, (sa.trans s3).trans s4, range_none hall hn⟩))
        · refine ifP (by simp) (ifP (by simp) ?_)
          have l1 := ofLen_len e1
          have l2 := ofLen_len e2
          have hr3'' := s4 _ _ hr3'
          have hzl : ((ms.map V.str).zip (ts.map V.str)) = (ms.zip ts).map (fun x => (V.str x.1, V.str x.2)) := by rw [List.zip_map]; rfl
          refine ⟨r3, rfl, r4, rfl, _, .of hr3'', _, .of hr4', ?_, fun D us H5 hD0 s5 hD hts => ?_⟩
          · rw [hzl, List.length_map, List.length_zip]; exact smallLt (by omega)
          rw [hzl, List.map_map] at hts
          have hts : TupsAt H5 us ((ms.zip ts).map fun x => [V.str x.1, V.str x.2]) := hts
          have hul := hts.len
          rw [List.length_map] at hul
          have hzn : (us.zip (ms.zip ts)).length ≤ 10000 := by rw [List.length_zip, List.length_zip]; omega
          refine ⟨⟨_, .of hD⟩, lc_map (us.zip (ms.zip ts)) (fun x => V.bl (can1 x.2)) (walk_tups hul) (by omega) (fun H6 s6 => s6.seq (.of hD)) (fun j a x H6 H7 R hx s6 hy r => ?_) (fun D2 H6 nD2 s6 hD2 => ?_)⟩
          · obtain ⟨rfl, y, hy, rfl⟩ := hy
            cases Option.some.inj (hx.symm.trans hy)
            have ht := s6 _ _ (hts.zat hx).1
            simp only [tCutE, false_and, exists_false, false_or, or_false, tRet, tRetN, tAndV, tOrV, tNotV, tChain, rI, rI0, rU, tC, tCB, tCons, tNil, tVar, tOp, tUn, tTest, tB, tAnd, tOr, tNot, tIf, tIfS, tSeq, tAsg, tDrop, tNext, gName, gTup_ref, gCons_cons, gNil_nil, and_assoc, tYes, wipe, rEq, rNe, scal_ss, scal_ii, scal_bb, scal_ns, scal_sn, scal_nn, scal_in, scal_ni, tLc_eq, tFor_eq, iList, iTup, iStr, iRng1, iRng2, iZip, iEnum, gSub, tSl, rSetL_ref, rCat_ref, rRep_ref, rJoin_ref, rSlL_ref, rSlS_ref, rMulS_ref, rIxL_ref, rIxT_ref, rLenK_ref, rAll_ref, rIn_ref, tLst, tTup, tPar, tPar3, tAug, tPart, tNoPart, tCall, List.getElem?_cons_zero, List.getElem?_cons_succ, List.set_cons_zero, List.set_cons_succ, List.map_cons, List.map_nil, List.append_nil, List.nil_append, List.cons_append, Option.some.injEq, exists_eq_left', exists_eq_left, exists_eq_right, exists_eq_right', exists_eq', V.int.injEq, V.str.injEq, V.bl.injEq, V.ref.injEq, List.cons.injEq, tM0, tM1, rNewStrs, sgn_eq, split_dot, split_sp, split_nl, dot_len, sp_len, nl_len, cxOf_K, L2.start, List.length_cons, List.length_nil, List.replicate_succ, List.replicate_zero, Nat.reduceSub, Nat.zero_add, and_true, true_and, and_self, exists_and_left, exists_const, Bool.false_eq_true, if_false, if_true, ite_true, ite_false, reduceIte, decide_eq_true_eq, reduceCtorEq, Nat.reduceAdd, Nat.reduceLT, tListZip]
            refine ⟨_, .inr (.of ht), rfl, rfl, ?_⟩
            have e3 : inV (V.str (Str.ofString "*")) [V.str a.2.1, V.str a.2.2] = (decide (a.2.1 = ("*" : Str)) || decide (a.2.2 = ("*" : Str))) := by
              unfold inV eqV
              simp only [List.any_cons, List.any_nil, Bool.or_false]
              rw [beq_dec, beq_dec]
              congr 1
              · rw [Bool.eq_iff_iff]; simp only [decide_eq_true_eq]; exact ⟨Eq.symm, Eq.symm⟩
              · rw [Bool.eq_iff_iff]; simp only [decide_eq_true_eq]; exact ⟨Eq.symm, Eq.symm⟩
            rw [e3]
            unfold can1 at r
            by_cases h1 : a.2.1 = ("*" : Str)
            · rw [decide_eq_true h1, Bool.true_or] at r ⊢
              exact ifP rfl (r _ (Same.refl _))
            · by_cases h2 : a.2.2 = ("*" : Str)
              · rw [decide_eq_true h2, Bool.true_or, Bool.or_true] at r
                rw [decide_eq_true h2, Bool.or_true]
                exact ifP rfl (r _ (Same.refl _))
              · rw [decide_eq_false h1, decide_eq_false h2, Bool.false_or, Bool.false_or] at r
                rw [decide_eq_false h1, decide_eq_false h2]
                exact ifN (by simp) ⟨_, .of ht, _, atI_nat (j := 0) rfl, _, .of ht, _, atI_nat (j := 1) rfl, rfl, by
                  have e4 : decide (V.str a.2.1 = V.str a.2.2) = decide (a.2.1 = a.2.2) := by simp only [V.str.injEq]
                  rw [e4]; exact r _ (Same.refl _)⟩
          · rw [show (us.zip (ms.zip ts)).map (fun x => V.bl (can1 x.2)) = _ from zip_snd_map hul (fun y => V.bl (can1 y))] at hD2
            refine ⟨D2, (ms.zip ts).map can1, rfl, .of (by rw [hD2, List.map_map]; rfl), _, rfl, ?_⟩
            rw [List.all_map]
            have s6' := (((sa.trans s3).trans s4).trans s5).trans s6
            by_cases hv : (ms.zip ts).all can1 = true
            · have hv' : ((ms.zip ts).all (id ∘ can1)) = true := hv
              have hn : mee1 p q i = some (Txt.join "." ((ms.zip ts).map met1)) := by unfold mee1; rw [e1]; simp only; rw [e2]; exact if_pos hv
              have hD6 := s6 _ _ hD
              refine ifP hv' ⟨⟨_, .of hD6⟩, lc_map (us.zip (ms.zip ts)) (fun x => V.str (met1 x.2)) (walk_tups hul) (by omega) (fun H7 s7 => s7.seq (.of hD6)) (fun j a x H7 H8 R hx s7 hy r => ?_) (fun D3 H7 nD3 s7 hD3 => ?_)⟩
              · obtain ⟨rfl, y, hy, rfl⟩ := hy
                cases Option.some.inj (hx.symm.trans hy)
                have ht := s7 _ _ (s6 _ _ (hts.zat hx).1)
                refine ⟨a.1, _, rfl, .of ht, rfl, ?_⟩
                simp only [tCutE, false_and, exists_false, false_or, or_false, tRet, tRetN, tAndV, tOrV, tNotV, tChain, rI, rI0, rU, tC, tCB, tCons, tNil, tVar, tOp, tUn, tTest, tB, tAnd, tOr, tNot, tIf, tIfS, tSeq, tAsg, tDrop, tNext, gName, gTup_ref, gCons_cons, gNil_nil, and_assoc, tYes, wipe, rEq, rNe, scal_ss, scal_ii, scal_bb, scal_ns, scal_sn, scal_nn, scal_in, scal_ni, tLc_eq, tFor_eq, iList, iTup, iStr, iRng1, iRng2, iZip, iEnum, gSub, tSl, rSetL_ref, rCat_ref, rRep_ref, rJoin_ref, rSlL_ref, rSlS_ref, rMulS_ref, rIxL_ref, rIxT_ref, rLenK_ref, rAll_ref, rIn_ref, tLst, tTup, tPar, tPar3, tAug, tPart, tNoPart, tCall, List.getElem?_cons_zero, List.getElem?_cons_succ, List.set_cons_zero, List.set_cons_succ, List.map_cons, List.map_nil, List.append_nil, List.nil_append, List.cons_append, Option.some.injEq, exists_eq_left', exists_eq_left, exists_eq_right, exists_eq_right', exists_eq', V.int.injEq, V.str.injEq, V.bl.injEq, V.ref.injEq, List.cons.injEq, tM0, tM1, rNewStrs, sgn_eq, split_dot, split_sp, split_nl, dot_len, sp_len, nl_len, cxOf_K, L2.start, List.length_cons, List.length_nil, List.replicate_succ, List.replicate_zero, Nat.reduceSub, Nat.zero_add, and_true, true_and, and_self, exists_and_left, exists_const, Bool.false_eq_true, if_false, if_true, ite_true, ite_false, reduceIte, decide_eq_true_eq, reduceCtorEq, Nat.reduceAdd, Nat.reduceLT, tListZip]
                exact ⟨a.2, rfl, r _ (Same.refl _)⟩
              · rw [show (us.zip (ms.zip ts)).map (fun x => V.str (met1 x.2)) = _ from zip_snd_map hul (fun y => V.str (met1 y))] at hD3
                have hm : ∀ w ∈ (ms.zip ts).map met1, w.length ≤ 5001 := by
                  intro w hw
                  obtain ⟨x, hx, rfl⟩ := List.mem_map.mp hw
                  have h1 := ofLen_each e1 x.1 (List.of_mem_zip hx).1
                  have h2 := ofLen_each e2 x.2 (List.of_mem_zip hx).2
                  unfold met1
                  split
                  · decide +kernel
                  · split <;> omega
                have hs := sum_le hm
                have e5 : (Str.ofString ".").length = 1 := by decide +kernel
                refine ⟨_, D3, (ms.zip ts).map met1, rfl, rfl, .inl (.of (by rw [hD3, List.map_map]; rfl)), ?_, ?_⟩
                · rw [e5]
                  have : ((ms.zip ts).map met1).length ≤ 6 := by rw [List.length_map, List.length_zip]; omega
                  omega
                · have q1 := q1 g1 g2 _ (s6'.trans s7)
                  rw [show meetsM p q = some (Txt.join "." ((ms.zip ts).map met1)) from range_some hi6 hall hn] at q1
                  exact q1
            · have hn : mee1 p q i = none := by unfold mee1; rw [e1]; simp only; rw [e2]; exact if_neg hv
              exact ifN hv ((hPv _ _ _).mpr ⟨_, _, _, _, _, _, _, rfl, s6', range_none hall hn⟩)
    · obtain ⟨a, b, c, d, e, f, g, rfl, sa, hall⟩ := (hPv _ _ _).mp hP
      simp only [tCutE, false_and, exists_false, false_or, or_false, tRet, tRetN, tAndV, tOrV, tNotV, tChain, rI, rI0, rU, tC, tCB, tCons, tNil, tVar, tOp, tUn, tTest, tB, tAnd, tOr, tNot, tIf, tIfS, tSeq, tAsg, tDrop, tNext, gName, gTup_ref, gCons_cons, gNil_nil, and_assoc, tYes, wipe, rEq, rNe, scal_ss, scal_ii, scal_bb, scal_ns, scal_sn, scal_nn, scal_in, scal_ni, tLc_eq, tFor_eq, iList, iTup, iStr, iRng1, iRng2, iZip, iEnum, gSub, tSl, rSetL_ref, rCat_ref, rRep_ref, rJoin_ref, rSlL_ref, rSlS_ref, rMulS_ref, rIxL_ref, rIxT_ref, rLenK_ref, rAll_ref, rIn_ref, tLst, tTup, tPar, tPar3, tAug, tPart, tNoPart, tCall, List.getElem?_cons_zero, List.getElem?_cons_succ, List.set_cons_zero, List.set_cons_succ, List.map_cons, List.map_nil, List.append_nil, List.nil_append, List.cons_append, Option.some.injEq, exists_eq_left', exists_eq_left, exists_eq_right, exists_eq_right', exists_eq', V.int.injEq, V.str.injEq, V.bl.injEq, V.ref.injEq, List.cons.injEq, tM0, tM1, rNewStrs, sgn_eq, split_dot, split_sp, split_nl, dot_len, sp_len, nl_len, cxOf_K, L2.start, List.length_cons, List.length_nil, List.replicate_succ, List.replicate_zero, Nat.reduceSub, Nat.zero_add, and_true, true_and, and_self, exists_and_left, exists_const, Bool.false_eq_true, if_false, if_true, ite_true, ite_false, reduceIte, decide_eq_true_eq, reduceCtorEq, Nat.reduceAdd, Nat.reduceLT, tListZip]
      have : meetsM p q = none := hall
      have q1 := q1 g1 g2 _ sa
      rw [this] at q1
      exact q1
end
end Hk

set_option Elab.async false
set_option linter.all false
set_option maxRecDepth 100000
set_option maxHeartbeats 4000000
namespace Hk
open PySem PySem.Spec PyProof.Rows L2
open TL SetS
section
variable {P : Program} {w : World} {K : PySem.W.Frag} {mg : Str → Option Value} {base : Heap}
def sp_law_first (P : Program) (w : World) (K : PySem.W.Frag) : Sp := fun vs H Q _ => ∃ (p q : Str) (k : Nat), vs = [.str p, .str q, .int ((k : Int) + 1)] ∧ k < 6 ∧ isPat p = true ∧ isPat q = true ∧ p.length ≤ 5000 ∧ q.length ≤ 5000 ∧ ∀ H', Same H H' → Q (.str ((mee1 p q k).getD "")) H'
theorem G_law_first (T : Tx K mg) : Glob P w K mg base (CX0) 5 "_law_first" p_law_first [] (sp_law_first P w K) := by
  obtain ⟨fd, F⟩ := T.f_law_first
  refine ⟨_, fd, [], F.ok sc_law_first (fun vs H Q E h => ?_) (fun cdv A outer s H vs Q E hr h => ?_), T.g__law_first, F.kp, .nil, F.bindsN fun _ _ _ _ _ _ us hl => match us, hl with | [_, _, _], _ => rfl⟩
  · obtain ⟨p, q, n, rfl, _⟩ := h; rfl
  · obtain ⟨p, q, k, rfl, hk, hp, hq, hpl, hql, qq⟩ := h
    refine ⟨_, PSs.nox (pss_cons (ps_par (i := 3) (j := 4) rfl sc_law_first.nd rfl rfl (by decide) rfl rfl (pa_cons (pe_callG (G_law_parts T) (hr.mono (by decide)) (by rfl) pass0 (pa_cons (pv 0) (pa_cons (pv 2) pa_nil))) (pa_cons (pe_callG (G_law_parts T) (hr.mono (by decide)) (by rfl) pass0 (pa_cons (pv 1) (pa_cons (pv 2) pa_nil))) pa_nil)) (by rfl))
      (pss_cons (ps_if (PW.pt (pw_or (pt_cmpR op_isN (pv 3) pe_non (nomark _)) (pw_or1 (pt_cmpR op_isN (pv 4) pe_non (nomark _)))))
      (pss_one (ps_ret pe_str))
      pss_nil)
      (pss_cons (ps_set (i := 5) sc_law_first.nd rfl (Or.inl rfl) (pe_lst (pa_cons pe_str pa_nil)))
      (pss_cons (ps_for PassesOwn.never rfl (pi_range1 (by rfl) T.b_range (pa_cons (pv 2) pa_nil)) (pg_name (i := 6) sc_law_first.nd rfl (Or.inr rfl))
      (pss_cons (ps_set (i := 7) sc_law_first.nd rfl (Or.inl rfl) (pe_callB (SetS.cr_sortedSetS (P := P) (w := w) rfl rfl rfl) (by rfl) T.b_sorted (by decide +kernel) (pa_cons (pe_callTy (SetS.cr_setOfS (K := K) (P := P) (w := w) rfl rfl rfl rfl) (by rfl) T.b_set (by decide +kernel) (pa_cons (pe_op op_cat (pe_lst (pa_cons pe_str pa_nil)) (pe_lc (own := [("_law_word", 8)]) (g := (gName 8)) rfl sc_law_first.nd (pi_listK (K := K) rfl (pe_lst (pa_cons (pe_ix (ix_listK (K := K) rfl) (pv 3) (pv 6) (fun _ _ => rfl)) (pa_cons (pe_ix (ix_listK (K := K) rfl) (pv 4) (pv 6) (fun _ _ => rfl)) pa_nil)))) (blkOk_by (by kernel_rfl)) (fun _ _ _ _ _ => (pg_name (i := 8) sc_law_first.nd rfl (Or.inl rfl))) (fun _ _ _ _ _ => (pts_one (pt_cmpR op_ne (pv 8) pe_str (nomark _)))) (fun _ _ _ _ _ => (pv 8)))) pa_nil)) pa_nil)))
      (pss_cons (ps_set (i := 9) sc_law_first.nd rfl (Or.inl rfl) (pe_lst pa_nil))
      (pss_cons (ps_for PassesOwn.never rfl (pi_listK (K := K) rfl (pv 5)) (pg_name (i := 10) sc_law_first.nd rfl (Or.inr rfl))
      (pss_one (ps_expr (pe_bmK (K := K) rfl PySem.F.plainAttrs_list PySem.F.slot_list_extend PySem.F.type_list_extend mt_extend (pv 9) (pa_cons (pe_lc (own := [("_law_word", 8)]) (g := (gName 8)) (tt := tYes) rfl sc_law_first.nd (pi_listK (K := K) rfl (pv 7)) (blkOk_by (by kernel_rfl)) (fun _ _ _ _ _ => (pg_name (i := 8) sc_law_first.nd rfl (Or.inl rfl))) (fun _ _ _ _ _ => pts_nil) (fun _ _ _ _ _ => (pe_op op_add_str (pe_op op_add_str (pv 10) (pe_op op_mulS pe_str (pe_callTy call_int1 (by rfl) T.b_int (by decide +kernel) (pa_cons (pe_cmpR op_gt (pv 6) pe_int (nomark _)) pa_nil)))) (pv 8)))) pa_nil)))))
      (pss_one (ps_set (i := 5) sc_law_first.nd rfl (Or.inl rfl) (pv 9)))))))
      (pss_cons (ps_setLc (i := 5) (own := [("_law_line_here", 10)]) (g := (gName 10)) rfl sc_law_first.nd rfl rfl (sw_true rfl rfl rfl (by kernel_rfl)) (pi_listK (K := K) rfl (pv 5)) (blkOk_by (by kernel_rfl)) (fun _ _ _ _ _ => (pg_name (i := 10) sc_law_first.nd rfl (Or.inl rfl))) (fun _ _ _ _ _ => (pts_one (PW.pt (pw_and (pt_val (pe_callG (G_law_fits T) (hr.mono (by decide)) (by rfl) pass0 (pa_cons (pv 0) (pa_cons (pv 10) pa_nil)))) (pw_and1 (pt_val (pe_callG (G_law_fits T) (hr.mono (by decide)) (by rfl) pass0 (pa_cons (pv 1) (pa_cons (pv 10) pa_nil))))))))) (fun _ _ _ _ _ => (pv 10)))
      (pss_one (ps_ret (pe_ifExp (pt_cmpR (op_neDK (K := K) rfl hr.units) (pv 5) (pe_lst pa_nil) (nomark _)) (pe_callB (SetS.cr_minS1 (K := K) rfl rfl hr.units) (by rfl) T.b_min (by decide +kernel) (pa_cons (pv 5) pa_nil)) pe_str)))))))), ?_⟩
    simp only [tCutE, false_and, exists_false, false_or, or_false, tRet, tRetN, tAndV, tOrV, tNotV, tChain, rI, rI0, rU, tC, tCB, tCons, tNil, tVar, tOp, tUn, tTest, tB, tAnd, tOr, tNot, tIf, tIfS, tSeq, tAsg, tDrop, tNext, gName, gTup_ref, gCons_cons, gNil_nil, and_assoc, tYes, wipe, rEq, rNe, scal_ss, scal_ii, scal_bb, scal_ns, scal_sn, scal_nn, scal_in, scal_ni, tLc_eq, tFor_eq, iList, iTup, iStr, iRng1, iRng2, iZip, iEnum, gSub, tSl, rSetL_ref, rCat_ref, rRep_ref, rJoin_ref, rSlL_ref, rSlS_ref, rMulS_ref, rIxL_ref, rIxT_ref, rLenK_ref, rAll_ref, rIn_ref, tLst, tTup, tPar, tPar3, tAug, tPart, tNoPart, tCall, List.getElem?_cons_zero, List.getElem?_cons_succ, List.set_cons_zero, List.set_cons_succ, List.map_cons, List.map_nil, List.append_nil, List.nil_append, List.cons_append, Option.some.injEq, exists_eq_left', exists_eq_left, exists_eq_right, exists_eq_right', exists_eq', V.int.injEq, V.str.injEq, V.bl.injEq, V.ref.injEq, List.cons.injEq, tM0, tM1, rNewStrs, sgn_eq, split_dot, split_sp, split_nl, dot_len, sp_len, nl_len, cxOf_K, L2.start, List.length_cons, List.length_nil, List.replicate_succ, List.replicate_zero, Nat.reduceSub, Nat.zero_add, and_true, true_and, and_self, exists_and_left, exists_const, Bool.false_eq_true, if_false, if_true, ite_true, ite_false, reduceIte, decide_eq_true_eq, reduceCtorEq, Nat.reduceAdd, Nat.reduceLT, tListZip]
    refine ⟨p, _, rfl, by omega, by omega, by omega, fun e1 H1 s1 => ?_, fun xs e1 H1 D1 s1 n1 f1 => ?_⟩
    · have em : mee1 p q k = none := by unfold mee1; rw [e1]
      rw [em] at qq
      refine ⟨q, _, rfl, by omega, by omega, by omega, fun e2 H2 s2 => ?_, fun ys e2 H2 D2 s2 n2 f2 => ?_⟩
      · exact ifP rfl (qq _ (s1.trans s2))
      · exact ifP rfl (qq _ (s1.trans s2))
    · refine ⟨q, _, rfl, by omega, by omega, by omega, fun e2 H2 s2 => ?_, fun ys e2 H2 D2 s2 n2 f2 => ?_⟩
      · have em : mee1 p q k = none := by unfold mee1; rw [e1, e2]
        rw [em] at qq
        exact ifN (by simp) (ifP rfl (qq _ (s1.trans s2)))
      · refine ifN (by simp) (ifN (by simp) ?_)
        have lx : xs.length = k + 1 := by have := (ofLen_us e1).1; omega
        have ly : ys.length = k + 1 := by have := (ofLen_us e2).1; omega
        refine ⟨by decide, fun p0 hp0 => ⟨by omega, by omega, ?_⟩⟩
        generalize hA : upd H2 p0 _ = H3
        obtain ⟨s3, f3⟩ := newF hA hp0
        have s03 := (s1.trans s2).trans s3
        have f1 := s3 _ _ (s2 _ _ f1)
        have f2 := s3 _ _ f2
        have hsx := ofLen_star hp e1
        have hsy := ofLen_star hq e2
        obtain ⟨Pv, hPv⟩ : ∃ Pv : Nat → L2.St → Hp → Prop, ∀ i σ H', Pv i σ H' ↔ ∃ (D : Addr) (L : List (List Str)) (c6 c7 c8 c9 c10 : Option V), σ = [some (.str p), some (.str q), some (.int ((k : Int) + 1)), some (.ref D1), some (.ref D2), some (.ref D), c6, c7, c8, c9, c10] ∧ Same H3 H' ∧ H' D = some (.lst (L.map fun l => V.str (Txt.join "." l))) ∧ FInv (xs.zip ys) i L := ⟨_, fun _ _ _ => Iff.rfl⟩
        refine forG walk_range Pv ((hPv _ _ _).mpr ⟨p0, [[]], none, none, none, none, none, rfl, Same.refl _, f3, FInv.zero _⟩) (fun _ _ _ _ _ => trivial) (fun i x σ Ha Hb hi hP hy => ?_) (fun σ Ha hP => ?_)
        · obtain ⟨rfl, rfl⟩ := hy
          obtain ⟨D, L, c6, c7, c8, c9, c10, rfl, sa, fD, F⟩ := (hPv _ _ _).mp hP
          simp only [tCutE, false_and, exists_false, false_or, or_false, tRet, tRetN, tAndV, tOrV, tNotV, tChain, rI, rI0, rU, tC, tCB, tCons, tNil, tVar, tOp, tUn, tTest, tB, tAnd, tOr, tNot, tIf, tIfS, tSeq, tAsg, tDrop, tNext, gName, gTup_ref, gCons_cons, gNil_nil, and_assoc, tYes, wipe, rEq, rNe, scal_ss, scal_ii, scal_bb, scal_ns, scal_sn, scal_nn, scal_in, scal_ni, tLc_eq, tFor_eq, iList, iTup, iStr, iRng1, iRng2, iZip, iEnum, gSub, tSl, rSetL_ref, rCat_ref, rRep_ref, rJoin_ref, rSlL_ref, rSlS_ref, rMulS_ref, rIxL_ref, rIxT_ref, rLenK_ref, rAll_ref, rIn_ref, tLst, tTup, tPar, tPar3, tAug, tPart, tNoPart, tCall, List.getElem?_cons_zero, List.getElem?_cons_succ, List.set_cons_zero, List.set_cons_succ, List.map_cons, List.map_nil, List.append_nil, List.nil_append, List.cons_append, Option.some.injEq, exists_eq_left', exists_eq_left, exists_eq_right, exists_eq_right', exists_eq', V.int.injEq, V.str.injEq, V.bl.injEq, V.ref.injEq, List.cons.injEq, tM0, tM1, rNewStrs, sgn_eq, split_dot, split_sp, split_nl, dot_len, sp_len, nl_len, cxOf_K, L2.start, List.length_cons, List.length_nil, List.replicate_succ, List.replicate_zero, Nat.reduceSub, Nat.zero_add, and_true, true_and, and_self, exists_and_left, exists_const, Bool.false_eq_true, if_false, if_true, ite_true, ite_false, reduceIte, decide_eq_true_eq, reduceCtorEq, Nat.reduceAdd, Nat.reduceLT, tListZip]
          have hi' : i < k + 1 := by omega
          refine ⟨by decide, fun p1 hp1 => ?_⟩
          generalize hB : upd Hb p1 _ = H4
          obtain ⟨s4, f4⟩ := newF hB hp1
          obtain ⟨x, y, hx, hy, hz⟩ := zipAt (xs := xs) (ys := ys) (by omega) (k := i) (by omega)
          refine ⟨_, .of (s4 _ _ (sa _ _ f1)), .str x, ?_, _, .of (s4 _ _ (sa _ _ f2)), .str y, ?_, by decide, fun p2 hp2 => ?_⟩
          · rw [Int.zero_add]; exact atI_nat (by rw [List.getElem?_map, hx]; rfl)
          · rw [Int.zero_add]; exact atI_nat (by rw [List.getElem?_map, hy]; rfl)
          generalize hC : upd H4 p2 _ = H5
          obtain ⟨s5, f5⟩ := newF hC hp2
          refine ⟨⟨_, .of f5⟩, lc_fil [x, y] (fun w => if w = ("*" : Str) then none else some (V.str w)) (walk_listm [x, y] V.str) (by simp) (fun H6 s6 => s6.seq (.of f5)) (fun j w v H6 H7 R hw s6 hy' r => ?_) (fun D6 H6 n6 s6 f6 => ?_)⟩
          · obtain ⟨rfl, u, hu, rfl⟩ := hy'
            rw [hw] at hu; cases hu
            simp only [tCutE, false_and, exists_false, false_or, or_false, tRet, tRetN, tAndV, tOrV, tNotV, tChain, rI, rI0, rU, tC, tCB, tCons, tNil, tVar, tOp, tUn, tTest, tB, tAnd, tOr, tNot, tIf, tIfS, tSeq, tAsg, tDrop, tNext, gName, gTup_ref, gCons_cons, gNil_nil, and_assoc, tYes, wipe, rEq, rNe, scal_ss, scal_ii, scal_bb, scal_ns, scal_sn, scal_nn, scal_in, scal_ni, tLc_eq, tFor_eq, iList, iTup, iStr, iRng1, iRng2, iZip, iEnum, gSub, tSl, rSetL_ref, rCat_ref, rRep_ref, rJoin_ref, rSlL_ref, rSlS_ref, rMulS_ref, rIxL_ref, rIxT_ref, rLenK_ref, rAll_ref, rIn_ref, tLst, tTup, tPar, tPar3, tAug, tPart, tNoPart, tCall, List.getElem?_cons_zero, List.getElem?_cons_succ, List.set_cons_zero, List.set_cons_succ, List.map_cons, List.map_nil, List.append_nil, List.nil_append, List.cons_append, Option.some.injEq, exists_eq_left', exists_eq_left, exists_eq_right, exists_eq_right', exists_eq', V.int.injEq, V.str.injEq, V.bl.injEq, V.ref.injEq, List.cons.injEq, tM0, tM1, rNewStrs, sgn_eq, split_dot, split_sp, split_nl, dot_len, sp_len, nl_len, cxOf_K, L2.start, List.length_cons, List.length_nil, List.replicate_succ, List.replicate_zero, Nat.reduceSub, Nat.zero_add, and_true, true_and, and_self, exists_and_left, exists_const, Bool.false_eq_true, if_false, if_true, ite_true, ite_false, reduceIte, decide_eq_true_eq, reduceCtorEq, Nat.reduceAdd, Nat.reduceLT, tListZip]
            by_cases e : w = ("*" : Str)
            · have := r _ (Same.refl _)
              rw [if_pos e] at this
              exact ifN (by simp [e]) this
            · have := r _ (Same.refl _)
              rw [if_neg e] at this
              exact ifP (by simp [e]) this
          · have f6' : H6 D6 = some (.lst (([x, y].filter fun w => decide (w ≠ ("*" : Str))).map V.str)) := by
              rw [f6]
              by_cases e1 : x = ("*" : Str) <;> by_cases e2 : y = ("*" : Str) <;> simp [e1, e2]
            simp only [tCutE, false_and, exists_false, false_or, or_false, tRet, tRetN, tAndV, tOrV, tNotV, tChain, rI, rI0, rU, tC, tCB, tCons, tNil, tVar, tOp, tUn, tTest, tB, tAnd, tOr, tNot, tIf, tIfS, tSeq, tAsg, tDrop, tNext, gName, gTup_ref, gCons_cons, gNil_nil, and_assoc, tYes, wipe, rEq, rNe, scal_ss, scal_ii, scal_bb, scal_ns, scal_sn, scal_nn, scal_in, scal_ni, tLc_eq, tFor_eq, iList, iTup, iStr, iRng1, iRng2, iZip, iEnum, gSub, tSl, rSetL_ref, rCat_ref, rRep_ref, rJoin_ref, rSlL_ref, rSlS_ref, rMulS_ref, rIxL_ref, rIxT_ref, rLenK_ref, rAll_ref, rIn_ref, tLst, tTup, tPar, tPar3, tAug, tPart, tNoPart, tCall, List.getElem?_cons_zero, List.getElem?_cons_succ, List.set_cons_zero, List.set_cons_succ, List.map_cons, List.map_nil, List.append_nil, List.nil_append, List.cons_append, Option.some.injEq, exists_eq_left', exists_eq_left, exists_eq_right, exists_eq_right', exists_eq', V.int.injEq, V.str.injEq, V.bl.injEq, V.ref.injEq, List.cons.injEq, tM0, tM1, rNewStrs, sgn_eq, split_dot, split_sp, split_nl, dot_len, sp_len, nl_len, cxOf_K, L2.start, List.length_cons, List.length_nil, List.replicate_succ, List.replicate_zero, Nat.reduceSub, Nat.zero_add, and_true, true_and, and_self, exists_and_left, exists_const, Bool.false_eq_true, if_false, if_true, ite_true, ite_false, reduceIte, decide_eq_true_eq, reduceCtorEq, Nat.reduceAdd, Nat.reduceLT, tListZip]
            have hkl : ([x, y].filter fun w => decide (w ≠ ("*" : Str))).length ≤ 2 := List.length_filter_le _ _
            have hkm : ∀ w, w ∈ ("a" : Str) :: ([x, y].filter fun w => decide (w ≠ ("*" : Str))) ↔ Cand (x, y) w := fun w => by
              unfold Cand
              simp [List.mem_filter]
            generalize ([x, y].filter fun w => decide (w ≠ ("*" : Str))) = ks at f6' hkl hkm
            refine ⟨_, s6 _ _ (s5 _ _ f4), _, f6', small (by simp; omega), fun p3 hp3 => ?_⟩
            generalize hD : upd H6 p3 _ = H7
            obtain ⟨s7, f7⟩ := newF hD hp3
            refine ⟨p3, ("a" : Str) :: ks, rfl, .of f7, by simp; omega, fun a0 n0 na hn0 => ?_⟩
            generalize hE : upd H7 a0 _ = H8
            obtain ⟨s8, f8⟩ := newF hE na
            refine ⟨a0, _, n0, rfl, f8, hn0, fun S p4 hs hnd hmem hp4 => ?_⟩
            generalize hF : upd H8 p4 _ = H9
            obtain ⟨s9, f9⟩ := newF hF hp4
            have hcS : ∀ w, w ∈ S ↔ Cand (x, y) w := fun w => by rw [hmem w, decide_eq_true_eq, hkm w]
            have F' := F.step hz hnd hcS
            have hS3 := cand_len hnd hcS
            have words := F.words (by omega) (by omega) hsx hsy
            have hLl : L.length ≤ 243 := Nat.le_trans F.len (Nat.le_trans (Nat.pow_le_pow_right (by decide) (by omega : i ≤ 5)) (by decide))
            refine ⟨Nat.zero_le _, fun D9 hD9 => ?_⟩
            have s39 : Same H3 H9 := ((((((sa.trans s4).trans s5).trans s6).trans s7).trans s8).trans s9)
            have fD9 : H9 D = some (.lst (L.map fun l => V.str (Txt.join "." l))) := s9 _ _ (s8 _ _ (s7 _ _ (s6 _ _ (s5 _ _ (s4 _ _ fD)))))
            generalize hG : upd H9 D9 _ = HA
            obtain ⟨sA, fA⟩ := newF hG hD9
            have nD : D ≠ D9 := ne_of_none fD9 hD9
            have n4 : p4 ≠ D9 := ne_of_none f9 hD9
            refine ⟨⟨_, .of (sA _ _ fD9)⟩, ?_⟩
            obtain ⟨Pw, hPw⟩ : ∃ Pw : Nat → L2.St → Hp → Prop, ∀ j σ H', Pw j σ H' ↔ ∃ (c8 c10 : Option V), σ = [some (.str p), some (.str q), some (.int ((k : Int) + 1)), some (.ref D1), some (.ref D2), some (.ref D), some (.int (0 + (i : Int))), some (.ref p4), c8, some (.ref D9), c10] ∧ Ext (fun b => b = D9) HA H' ∧ H' D9 = some (.lst (((L.take j).flatMap fun l => S.map fun w => l ++ [w]).map fun l => V.str (Txt.join "." l))) := ⟨_, fun _ _ _ => Iff.rfl⟩
            refine forG (walk_listm L fun l => V.str (Txt.join "." l)) Pw ((hPw _ _ _).mpr ⟨_, _, rfl, Ext.refl _ _, by simpa using fA⟩) (fun j σ H' hj hP' => ?_) (fun j v σ Hc Hd hj hP' hyv => ?_) (fun σ Hc hP' => ?_)
            · obtain ⟨c8', c10', rfl, e', f'⟩ := (hPw _ _ _).mp hP'
              exact .of (e' _ _ nD (sA _ _ fD9))
            · obtain ⟨rfl, l, hl, rfl⟩ := hyv
              obtain ⟨c8', c10', rfl, e', f'⟩ := (hPw _ _ _).mp hP'
              simp only [tCutE, false_and, exists_false, false_or, or_false, tRet, tRetN, tAndV, tOrV, tNotV, tChain, rI, rI0, rU, tC, tCB, tCons, tNil, tVar, tOp, tUn, tTest, tB, tAnd, tOr, tNot, tIf, tIfS, tSeq, tAsg, tDrop, tNext, gName, gTup_ref, gCons_cons, gNil_nil, and_assoc, tYes, wipe, rEq, rNe, scal_ss, scal_ii, scal_bb, scal_ns, scal_sn, scal_nn, scal_in, scal_ni, tLc_eq, tFor_eq, iList, iTup, iStr, iRng1, iRng2, iZip, iEnum, gSub, tSl, rSetL_ref, rCat_ref, rRep_ref, rJoin_ref, rSlL_ref, rSlS_ref, rMulS_ref, rIxL_ref, rIxT_ref, rLenK_ref, rAll_ref, rIn_ref, tLst, tTup, tPar, tPar3, tAug, tPart, tNoPart, tCall, List.getElem?_cons_zero, List.getElem?_cons_succ, List.set_cons_zero, List.set_cons_succ, List.map_cons, List.map_nil, List.append_nil, List.nil_append, List.cons_append, Option.some.injEq, exists_eq_left', exists_eq_left, exists_eq_right, exists_eq_right', exists_eq', V.int.injEq, V.str.injEq, V.bl.injEq, V.ref.injEq, List.cons.injEq, tM0, tM1, rNewStrs, sgn_eq, split_dot, split_sp, split_nl, dot_len, sp_len, nl_len, cxOf_K, L2.start, List.length_cons, List.length_nil, List.replicate_succ, List.replicate_zero, Nat.reduceSub, Nat.zero_add, and_true, true_and, and_self, exists_and_left, exists_const, Bool.false_eq_true, if_false, if_true, ite_true, ite_false, reduceIte, decide_eq_true_eq, reduceCtorEq, Nat.reduceAdd, Nat.reduceLT, tListZip]
              refine ⟨_, rfl, .inl ⟨rfl, _, .of f'⟩, ?_⟩
              simp only [tCutE, false_and, exists_false, false_or, or_false, tRet, tRetN, tAndV, tOrV, tNotV, tChain, rI, rI0, rU, tC, tCB, tCons, tNil, tVar, tOp, tUn, tTest, tB, tAnd, tOr, tNot, tIf, tIfS, tSeq, tAsg, tDrop, tNext, gName, gTup_ref, gCons_cons, gNil_nil, and_assoc, tYes, wipe, rEq, rNe, scal_ss, scal_ii, scal_bb, scal_ns, scal_sn, scal_nn, scal_in, scal_ni, tLc_eq, tFor_eq, iList, iTup, iStr, iRng1, iRng2, iZip, iEnum, gSub, tSl, rSetL_ref, rCat_ref, rRep_ref, rJoin_ref, rSlL_ref, rSlS_ref, rMulS_ref, rIxL_ref, rIxT_ref, rLenK_ref, rAll_ref, rIn_ref, tLst, tTup, tPar, tPar3, tAug, tPart, tNoPart, tCall, List.getElem?_cons_zero, List.getElem?_cons_succ, List.set_cons_zero, List.set_cons_succ, List.map_cons, List.map_nil, List.append_nil, List.nil_append, List.cons_append, Option.some.injEq, exists_eq_left', exists_eq_left, exists_eq_right, exists_eq_right', exists_eq', V.int.injEq, V.str.injEq, V.bl.injEq, V.ref.injEq, List.cons.injEq, tM0, tM1, rNewStrs, sgn_eq, split_dot, split_sp, split_nl, dot_len, sp_len, nl_len, cxOf_K, L2.start, List.length_cons, List.length_nil, List.replicate_succ, List.replicate_zero, Nat.reduceSub, Nat.zero_add, and_true, true_and, and_self, exists_and_left, exists_const, Bool.false_eq_true, if_false, if_true, ite_true, ite_false, reduceIte, decide_eq_true_eq, reduceCtorEq, Nat.reduceAdd, Nat.reduceLT, tListZip]
              have f9' := e' _ _ n4 (sA _ _ f9)
              have hlm := List.mem_of_getElem? hl
              obtain ⟨hll, hlc⟩ := F.each l hlm
              refine ⟨⟨_, .of f9'⟩, lc_map S (fun w => V.str (Txt.join "." (l ++ [w]))) (walk_listm S V.str) ?_ (fun H6 s6 => s6.seq (.of f9')) (fun m w v H6 H7 R hw s6 hy' r => ?_) (fun D7 H7 n7 s7 f7 => ?_)⟩
              · omega
              · obtain ⟨rfl, u, hu, rfl⟩ := hy'
                rw [hw] at hu; cases hu
                simp only [tCutE, false_and, exists_false, false_or, or_false, tRet, tRetN, tAndV, tOrV, tNotV, tChain, rI, rI0, rU, tC, tCB, tCons, tNil, tVar, tOp, tUn, tTest, tB, tAnd, tOr, tNot, tIf, tIfS, tSeq, tAsg, tDrop, tNext, gName, gTup_ref, gCons_cons, gNil_nil, and_assoc, tYes, wipe, rEq, rNe, scal_ss, scal_ii, scal_bb, scal_ns, scal_sn, scal_nn, scal_in, scal_ni, tLc_eq, tFor_eq, iList, iTup, iStr, iRng1, iRng2, iZip, iEnum, gSub, tSl, rSetL_ref, rCat_ref, rRep_ref, rJoin_ref, rSlL_ref, rSlS_ref, rMulS_ref, rIxL_ref, rIxT_ref, rLenK_ref, rAll_ref, rIn_ref, tLst, tTup, tPar, tPar3, tAug, tPart, tNoPart, tCall, List.getElem?_cons_zero, List.getElem?_cons_succ, List.set_cons_zero, List.set_cons_succ, List.map_cons, List.map_nil, List.append_nil, List.nil_append, List.cons_append, Option.some.injEq, exists_eq_left', exists_eq_left, exists_eq_right, exists_eq_right', exists_eq', V.int.injEq, V.str.injEq, V.bl.injEq, V.ref.injEq, List.cons.injEq, tM0, tM1, rNewStrs, sgn_eq, split_dot, split_sp, split_nl, dot_len, sp_len, nl_len, cxOf_K, L2.start, List.length_cons, List.length_nil, List.replicate_succ, List.replicate_zero, Nat.reduceSub, Nat.zero_add, and_true, true_and, and_self, exists_and_left, exists_const, Bool.false_eq_true, if_false, if_true, ite_true, ite_false, reduceIte, decide_eq_true_eq, reduceCtorEq, Nat.reduceAdd, Nat.reduceLT, tListZip]
                have l1 := join_small (words l hlm) (by omega)
                have l2 := (word_signs (cand_word (x := (x, y)) (hsx x (List.mem_of_getElem? hx)) (hsy y (List.mem_of_getElem? hy)) ((hcS w).mp (List.mem_of_getElem? hw)))).2.1
                have e0 := sep_join hll w
                have l3 : (if (if (0 : Int) < 0 + (i : Int) then (1 : Int) else 0) = 1 then ("." : Str) else Str.empty).length ≤ 1 := by
                  split
                  · decide +kernel
                  · decide +kernel
                generalize (if (if (0 : Int) < 0 + (i : Int) then (1 : Int) else 0) = 1 then ("." : Str) else Str.empty) = sep at e0 l3
                refine ⟨by split <;> simp, small (by omega), small ?_, ?_⟩
                · rw [len_tl, tl_append, List.length_append, ← len_tl, ← len_tl]; omega
                · rw [e0]; exact r _ (Same.refl _)
              · have f'7 := s7 _ _ f'
                refine ⟨D9, D7, _, _, rfl, rfl, f'7, f7, small ?_, ?_⟩
                · have h1 := len_flat (L := L.take j) (f := fun l => S.map fun w => l ++ [w]) (k := 3) fun l _ => by rw [List.length_map]; exact hS3
                  have h2 : (L.take j).length ≤ L.length := List.length_take_le' ..
                  rw [List.length_map, List.length_map]
                  omega
                · refine (hPw _ _ _).mpr ⟨_, _, rfl, ?_, ?_⟩
                  · intro b o hb ho
                    rw [upd_ne hb]
                    exact s7 _ _ (e' _ _ hb ho)
                  · rw [upd_same, List.take_add_one, hl]
                    simp only [Option.toList_some, List.flatMap_append, List.flatMap_cons, List.flatMap_nil, List.append_nil, List.map_append, List.map_map]
                    rfl
            · obtain ⟨c8', c10', rfl, e', f'⟩ := (hPw _ _ _).mp hP'
              simp only [tCutE, false_and, exists_false, false_or, or_false, tRet, tRetN, tAndV, tOrV, tNotV, tChain, rI, rI0, rU, tC, tCB, tCons, tNil, tVar, tOp, tUn, tTest, tB, tAnd, tOr, tNot, tIf, tIfS, tSeq, tAsg, tDrop, tNext, gName, gTup_ref, gCons_cons, gNil_nil, and_assoc, tYes, wipe, rEq, rNe, scal_ss, scal_ii, scal_bb, scal_ns, scal_sn, scal_nn, scal_in, scal_ni, tLc_eq, tFor_eq, iList, iTup, iStr, iRng1, iRng2, iZip, iEnum, gSub, tSl, rSetL_ref, rCat_ref, rRep_ref, rJoin_ref, rSlL_ref, rSlS_ref, rMulS_ref, rIxL_ref, rIxT_ref, rLenK_ref, rAll_ref, rIn_ref, tLst, tTup, tPar, tPar3, tAug, tPart, tNoPart, tCall, List.getElem?_cons_zero, List.getElem?_cons_succ, List.set_cons_zero, List.set_cons_succ, List.map_cons, List.map_nil, List.append_nil, List.nil_append, List.cons_append, Option.some.injEq, exists_eq_left', exists_eq_left, exists_eq_right, exists_eq_right', exists_eq', V.int.injEq, V.str.injEq, V.bl.injEq, V.ref.injEq, List.cons.injEq, tM0, tM1, rNewStrs, sgn_eq, split_dot, split_sp, split_nl, dot_len, sp_len, nl_len, cxOf_K, L2.start, List.length_cons, List.length_nil, List.replicate_succ, List.replicate_zero, Nat.reduceSub, Nat.zero_add, and_true, true_and, and_self, exists_and_left, exists_const, Bool.false_eq_true, if_false, if_true, ite_true, ite_false, reduceIte, decide_eq_true_eq, reduceCtorEq, Nat.reduceAdd, Nat.reduceLT, tListZip]
              rw [List.take_length] at f'
              refine (hPv _ _ _).mpr ⟨D9, _, _, _, _, _, _, rfl, fun b o hb => ?_, f', F'⟩
              have hb9 := s39 _ _ hb
              exact e' _ _ (ne_of_none hb9 hD9) (sA _ _ hb9)
        · obtain ⟨D, L, c6, c7, c8, c9, c10, rfl, sa, fD, F⟩ := (hPv _ _ _).mp hP
          simp only [tCutE, false_and, exists_false, false_or, or_false, tRet, tRetN, tAndV, tOrV, tNotV, tChain, rI, rI0, rU, tC, tCB, tCons, tNil, tVar, tOp, tUn, tTest, tB, tAnd, tOr, tNot, tIf, tIfS, tSeq, tAsg, tDrop, tNext, gName, gTup_ref, gCons_cons, gNil_nil, and_assoc, tYes, wipe, rEq, rNe, scal_ss, scal_ii, scal_bb, scal_ns, scal_sn, scal_nn, scal_in, scal_ni, tLc_eq, tFor_eq, iList, iTup, iStr, iRng1, iRng2, iZip, iEnum, gSub, tSl, rSetL_ref, rCat_ref, rRep_ref, rJoin_ref, rSlL_ref, rSlS_ref, rMulS_ref, rIxL_ref, rIxT_ref, rLenK_ref, rAll_ref, rIn_ref, tLst, tTup, tPar, tPar3, tAug, tPart, tNoPart, tCall, List.getElem?_cons_zero, List.getElem?_cons_succ, List.set_cons_zero, List.set_cons_succ, List.map_cons, List.map_nil, List.append_nil, List.nil_append, List.cons_append, Option.some.injEq, exists_eq_left', exists_eq_left, exists_eq_right, exists_eq_right', exists_eq', V.int.injEq, V.str.injEq, V.bl.injEq, V.ref.injEq, List.cons.injEq, tM0, tM1, rNewStrs, sgn_eq, split_dot, split_sp, split_nl, dot_len, sp_len, nl_len, cxOf_K, L2.start, List.length_cons, List.length_nil, List.replicate_succ, List.replicate_zero, Nat.reduceSub, Nat.zero_add, and_true, true_and, and_self, exists_and_left, exists_const, Bool.false_eq_true, if_false, if_true, ite_true, ite_false, reduceIte, decide_eq_true_eq, reduceCtorEq, Nat.reduceAdd, Nat.reduceLT, tListZip]
          have hk1 : ((k : Int) + 1).toNat = k + 1 := by omega
          rw [hk1] at F
          have words := F.words (by omega) (by omega) hsx hsy
          have hLl : L.length ≤ 729 := Nat.le_trans F.len (Nat.le_trans (Nat.pow_le_pow_right (by decide) (by omega : k + 1 ≤ 6)) (by decide))
          refine ⟨⟨_, .of fD⟩, lc_fil L (fun l => if (doesFit p (Txt.join "." l) && doesFit q (Txt.join "." l)) = true then some (V.str (Txt.join "." l)) else none) (walk_listm L fun l => V.str (Txt.join "." l)) (by omega) (fun H4 s4 => s4.seq (.of fD)) (fun j l v H4 H5 R hl s4 hy r => ?_) (fun D5 H5 n5 s5 f5 => ?_)⟩
          · obtain ⟨rfl, u, hu, rfl⟩ := hy
            rw [hl] at hu; cases hu
            simp only [tCutE, false_and, exists_false, false_or, or_false, tRet, tRetN, tAndV, tOrV, tNotV, tChain, rI, rI0, rU, tC, tCB, tCons, tNil, tVar, tOp, tUn, tTest, tB, tAnd, tOr, tNot, tIf, tIfS, tSeq, tAsg, tDrop, tNext, gName, gTup_ref, gCons_cons, gNil_nil, and_assoc, tYes, wipe, rEq, rNe, scal_ss, scal_ii, scal_bb, scal_ns, scal_sn, scal_nn, scal_in, scal_ni, tLc_eq, tFor_eq, iList, iTup, iStr, iRng1, iRng2, iZip, iEnum, gSub, tSl, rSetL_ref, rCat_ref, rRep_ref, rJoin_ref, rSlL_ref, rSlS_ref, rMulS_ref, rIxL_ref, rIxT_ref, rLenK_ref, rAll_ref, rIn_ref, tLst, tTup, tPar, tPar3, tAug, tPart, tNoPart, tCall, List.getElem?_cons_zero, List.getElem?_cons_succ, List.set_cons_zero, List.set_cons_succ, List.map_cons, List.map_nil, List.append_nil, List.nil_append, List.cons_append, Option.some.injEq, exists_eq_left', exists_eq_left, exists_eq_right, exists_eq_right', exists_eq', V.int.injEq, V.str.injEq, V.bl.injEq, V.ref.injEq, List.cons.injEq, tM0, tM1, rNewStrs, sgn_eq, split_dot, split_sp, split_nl, dot_len, sp_len, nl_len, cxOf_K, L2.start, List.length_cons, List.length_nil, List.replicate_succ, List.replicate_zero, Nat.reduceSub, Nat.zero_add, and_true, true_and, and_self, exists_and_left, exists_const, Bool.false_eq_true, if_false, if_true, ite_true, ite_false, reduceIte, decide_eq_true_eq, reduceCtorEq, Nat.reduceAdd, Nat.reduceLT, tListZip]
            have l1 := join_small (words l (List.mem_of_getElem? hl)) (by have := (F.each l (List.mem_of_getElem? hl)).1; omega)
            refine ⟨p, _, rfl, by omega, by omega, fun H6 s6 => ⟨_, rfl, ?_⟩⟩
            by_cases d1 : doesFit p (Txt.join "." l) = true
            · refine ifP d1 ⟨q, _, rfl, by omega, by omega, fun H7 s7 => ⟨_, rfl, ?_⟩⟩
              by_cases d2 : doesFit q (Txt.join "." l) = true
              · have := r _ (s6.trans s7)
                rw [if_pos (by rw [d1, d2]; rfl)] at this
                exact ifP d2 this
              · have := r _ (s6.trans s7)
                rw [if_neg (by rw [d1, Bool.true_and]; exact d2)] at this
                exact ifN d2 this
            · have := r _ s6
              rw [if_neg (fun z => d1 (Bool.and_eq_true_iff.mp z).1)] at this
              exact ifN d1 this
          · rw [first_fil (n := k + 1) hp hq (by omega) e1 e2 F] at f5
            refine ⟨Nat.zero_le _, fun p6 hp6 => ?_⟩
            generalize hG : upd H5 p6 _ = H6
            obtain ⟨s6, f6⟩ := newF hG hp6
            have f5' := s6 _ _ f5
            have em : mee1 p q k = if (xs.zip ys).all can1 = true then some (Txt.join "." ((xs.zip ys).map met1)) else none := by
              have e1' : ofLen p ((k : Int) + 1) = some xs := e1
              have e2' : ofLen q ((k : Int) + 1) = some ys := e2
              unfold mee1; rw [e1', e2']
            have s36 : Same H H6 := ((s03.trans sa).trans s5).trans s6
            rw [em] at qq
            by_cases hc : (xs.zip ys).all can1 = true
            · rw [if_pos hc] at f5' qq
              refine ⟨.list ([Txt.join "." ((xs.zip ys).map met1)].map PyData.str), .list [], .lst (.of f5') (.cons (.str _) .nil), .lst (.of f6) .nil, shaped_strs fun z hz => ?_, by decide, _, rfl, ?_⟩
              · rw [List.mem_singleton.mp hz]; exact join_ok (met_words hp hq e1 e2)
              rw [eqv_nil]
              exact ifP rfl ⟨D5, _, rfl, .of f5', qq _ s36⟩
            · rw [if_neg hc] at f5' qq
              refine ⟨.list [], .list [], .lst (.of f5') .nil, .lst (.of f6) .nil, by decide, by decide, _, rfl, ?_⟩
              rw [eqv_nil]
              exact ifN (by decide) (qq _ s36)
end
end Hk

set_option Elab.async false
set_option linter.all false
set_option maxRecDepth 100000
set_option maxHeartbeats 4000000
namespace Hk
open PySem PySem.Spec PyProof.Rows L2
open TL SetS
section
variable {P : Program} {w : World} {K : PySem.W.Frag} {mg : Str → Option Value} {base : Heap}
theorem SrcOk.same0 {H H' : Hp} {h l : Addr} (s : Same H H') (S : SrcOk H h l) : SrcOk H' h l := by
  obtain ⟨m, p, cs, h1, h2, r⟩ := S
  exact ⟨m, p, cs, s _ _ h1, s _ _ h2, r⟩
theorem three_six {r : Int} (h0 : 0 ≤ r) (h1 : r < 2) : ∃ n : Int, 1 ≤ n ∧ n ≤ 6 ∧ atI [V.int 3, V.int 6] r = some (.int n) := by
  rcases (show r = 0 ∨ r = 1 by omega) with e | e
  · rw [e]; exact ⟨3, by decide, by decide, rfl⟩
  · rw [e]; exact ⟨6, by decide, by decide, rfl⟩
def sp_law (K : PySem.W.Frag) : Sp := fun vs H Q _ => ∃ (a : Addr) (ns : List Int), vs = [.ref a] ∧ SqL K H a (ns.map V.int) ∧ ns.length ≤ 63 ∧ ∀ H', Q (.bl true) H'
theorem F_law_ok (T : Tx K mg) {f : Addr} {fd : FuncData} (F : F_law K f fd) : FnOk P w K mg base CX0 8 f fd p_law (sp_law K) := by
  refine F.ok sc_law (fun vs H Q E h => ?_) (fun cdv A outer s H vs Q E hr h => ?_)
  · obtain ⟨a, ns, rfl, _⟩ := h; rfl
  · obtain ⟨a, ns, rfl, hS, hn, qq⟩ := h
    refine ⟨_, PSs.nox (pss_cons (ps_set (i := 1) sc_law.nd rfl (Or.inl rfl) (pe_callG (G_law_mix T) (hr.mono (by decide)) (by rfl) pass0 (pa_cons (pv 0) (pa_cons pe_int pa_nil))))
      (pss_cons (ps_for PassesOwn.never rfl (pi_range1 (by rfl) T.b_range (pa_cons pe_int pa_nil)) (pg_name (i := 2) sc_law.nd rfl (Or.inl rfl))
      (pss_cons (ps_set (i := 3) sc_law.nd rfl (Or.inl rfl) (pe_op op_add pe_int (pe_callG (G_law_next T) (hr.mono (by decide)) (by rfl) pass0 (pa_cons (pv 1) (pa_cons pe_int pa_nil)))))
      (pss_cons (ps_asg (pe_tup (pa_cons (pe_callG (G_law_pattern T) (hr.mono (by decide)) (by rfl) pass0 (pa_cons (pv 1) (pa_cons (pe_ix (ix_listK (K := K) rfl) (pe_lst (pa_cons pe_int (pa_cons pe_int pa_nil))) (pe_callG (G_law_next T) (hr.mono (by decide)) (by rfl) pass0 (pa_cons (pv 1) (pa_cons pe_int pa_nil))) (fun _ _ => rfl)) (pa_cons (pv 3) pa_nil)))) (pa_cons (pe_callG (G_law_pattern T) (hr.mono (by decide)) (by rfl) pass0 (pa_cons (pv 1) (pa_cons (pe_ix (ix_listK (K := K) rfl) (pe_lst (pa_cons pe_int (pa_cons pe_int pa_nil))) (pe_callG (G_law_next T) (hr.mono (by decide)) (by rfl) pass0 (pa_cons (pv 1) (pa_cons pe_int pa_nil))) (fun _ _ => rfl)) (pa_cons (pv 3) pa_nil)))) pa_nil))) (pg_tupK (K := K) rfl rfl (pgs_cons (pg_name (i := 4) sc_law.nd rfl (Or.inr rfl)) (pgs_cons (pg_name (i := 5) sc_law.nd rfl (Or.inr rfl)) pgs_nil))))
      (pss_cons (ps_set (i := 6) sc_law.nd rfl (Or.inl rfl) (pe_lst pa_nil))
      (pss_cutE (ps_for PassesOwn.never rfl (pi_range2 (by rfl) T.b_range (pa_cons pe_int (pa_cons pe_int pa_nil))) (pg_name (i := 7) sc_law.nd rfl (Or.inl rfl))
      (pss_cons (ps_set (i := 8) sc_law.nd rfl (Or.inl rfl) (pe_callG (G_law_parts T) (hr.mono (by decide)) (by rfl) pass0 (pa_cons (pv 4) (pa_cons (pv 7) pa_nil))))
      (pss_one (ps_if (pt_cmpR op_notN (pv 8) pe_non (nomark _))
      (pss_one (ps_expr (pe_bmK (K := K) rfl PySem.F.plainAttrs_list PySem.F.slot_list_append PySem.F.type_list_append mt_append (pv 6) (pa_cons (pe_joinK (K := K) rfl pe_str (pe_lc (own := [("_law_word", 9)]) (g := (gName 9)) (tt := tYes) rfl sc_law.nd (pi_listK (K := K) rfl (pv 8)) (blkOk_by (by kernel_rfl)) (fun _ _ _ _ _ => (pg_name (i := 9) sc_law.nd rfl (Or.inl rfl))) (fun _ _ _ _ _ => pts_nil) (fun _ _ _ _ _ => (pe_ifExp (pt_cmpR op_eq (pv 9) pe_str (nomark _)) pe_str (pv 9))))) pa_nil))))
      pss_nil))))
      (pss_cutE (ps_if (pt_cmpR op_ne (pe_callG (G_narrower T) (hr.mono (by decide)) (by rfl) passN (pa_cons (pv 4) (pa_cons (pv 5) pa_nil))) (pe_cmpR (op_eqDK (K := K) rfl hr.units) (pe_lc (own := [("_law_line_here", 10)]) (g := (gName 10)) rfl sc_law.nd (pi_listK (K := K) rfl (pv 6)) (blkOk_by (by kernel_rfl)) (fun _ _ _ _ _ => (pg_name (i := 10) sc_law.nd rfl (Or.inl rfl))) (fun _ _ _ _ _ => (pts_one (pt_not (pt_val (pe_callG (G_law_fits T) (hr.mono (by decide)) (by rfl) pass0 (pa_cons (pv 5) (pa_cons (pv 10) pa_nil))))))) (fun _ _ _ _ _ => (pv 10))) (pe_lst pa_nil) (nomark _)) (nomark _))
      (pss_one (ps_ret pe_bl))
      pss_nil)
      (pss_cutE (ps_setLc (i := 11) (own := [("_law_line_here", 10)]) (g := (gName 10)) rfl sc_law.nd rfl rfl (sw_true rfl rfl rfl (by kernel_rfl)) (pi_listK (K := K) rfl (pe_lc (own := [("_law_wide", 7)]) (g := (gName 7)) (tt := tYes) rfl sc_law.nd (pi_range2 (by rfl) T.b_range (pa_cons pe_int (pa_cons pe_int pa_nil))) (blkOk_by (by kernel_rfl)) (fun _ _ _ _ _ => (pg_name (i := 7) sc_law.nd rfl (Or.inl rfl))) (fun _ _ _ _ _ => pts_nil) (fun _ _ _ _ _ => (pe_callG (G_law_first T) (hr.mono (by decide)) (by rfl) pass0 (pa_cons (pv 4) (pa_cons (pv 5) (pa_cons (pv 7) pa_nil))))))) (blkOk_by (by kernel_rfl)) (fun _ _ _ _ _ => (pg_name (i := 10) sc_law.nd rfl (Or.inl rfl))) (fun _ _ _ _ _ => (pts_one (pt_cmpR op_ne (pv 10) pe_str (nomark _)))) (fun _ _ _ _ _ => (pv 10)))
      (pss_cons (ps_set (i := 12) sc_law.nd rfl (Or.inl rfl) (pe_callG (G_meets T) (hr.mono (by decide)) (by rfl) passN (pa_cons (pv 4) (pa_cons (pv 5) pa_nil))))
      (pss_cutE (ps_if (PW.pt (pw_or (pt_cmpR op_ne (pv 12) (pe_ix (ix_listK (K := K) rfl) (pe_op op_cat (pv 11) (pe_lst (pa_cons pe_non pa_nil))) pe_int (fun _ _ => rfl)) (nomark _)) (pw_or1 (pt_cmpR op_ne (pv 12) (pe_callG (G_meets T) (hr.mono (by decide)) (by rfl) passN (pa_cons (pv 5) (pa_cons (pv 4) pa_nil))) (nomark _)))))
      (pss_one (ps_ret pe_bl))
      pss_nil)
      (pss_cutE (ps_if (PW.pt (pw_and (pt_cmpR op_notN (pv 12) pe_non (nomark _)) (pw_and1 (pt_not (PW.pt (pw_and (pt_val (pe_callG (G_fits T) (hr.mono (by decide)) (by rfl) passN (pa_cons (pv 4) (pa_cons (pv 12) pa_nil)))) (pw_and1 (pt_val (pe_callG (G_fits T) (hr.mono (by decide)) (by rfl) passN (pa_cons (pv 5) (pa_cons (pv 12) pa_nil)))))))))))
      (pss_one (ps_ret pe_bl))
      pss_nil)
      (pss_one (ps_if (PW.pt (pw_or (pt_not (pt_val (pe_callG (G_narrower T) (hr.mono (by decide)) (by rfl) passN (pa_cons (pv 4) (pa_cons (pv 4) pa_nil))))) (pw_or (pt_not (pt_val (pe_callG (G_narrower T) (hr.mono (by decide)) (by rfl) passN (pa_cons (pv 4) (pa_cons pe_str pa_nil))))) (pw_or1 (pt_cmpR op_isN (pe_callG (G_meets T) (hr.mono (by decide)) (by rfl) passN (pa_cons (pv 4) (pa_cons pe_str pa_nil))) pe_non (nomark _))))))
      (pss_one (ps_ret pe_bl))
      pss_nil))))))))))))
      (pss_one (ps_ret pe_bl)))), ?_⟩
    simp only [tCutE, false_and, exists_false, false_or, or_false, tRet, tRetN, tAndV, tOrV, tNotV, tChain, rI, rI0, rU, tC, tCB, tCons, tNil, tVar, tOp, tUn, tTest, tB, tAnd, tOr, tNot, tIf, tIfS, tSeq, tAsg, tDrop, tNext, gName, gTup_ref, gCons_cons, gNil_nil, and_assoc, tYes, wipe, rEq, rNe, scal_ss, scal_ii, scal_bb, scal_ns, scal_sn, scal_nn, scal_in, scal_ni, tLc_eq, tFor_eq, iList, iTup, iStr, iRng1, iRng2, iZip, iEnum, gSub, tSl, rSetL_ref, rCat_ref, rRep_ref, rJoin_ref, rSlL_ref, rSlS_ref, rMulS_ref, rIxL_ref, rIxT_ref, rLenK_ref, rAll_ref, rIn_ref, tLst, tTup, tPar, tPar3, tAug, tPart, tNoPart, tCall, List.getElem?_cons_zero, List.getElem?_cons_succ, List.set_cons_zero, List.set_cons_succ, List.map_cons, List.map_nil, List.append_nil, List.nil_append, List.cons_append, Option.some.injEq, exists_eq_left', exists_eq_left, exists_eq_right, exists_eq_right', exists_eq', V.int.injEq, V.str.injEq, V.bl.injEq, V.ref.injEq, List.cons.injEq, tM0, tM1, rNewStrs, sgn_eq, split_dot, split_sp, split_nl, dot_len, sp_len, nl_len, cxOf_K, L2.start, List.length_cons, List.length_nil, List.replicate_succ, List.replicate_zero, Nat.reduceSub, Nat.zero_add, and_true, true_and, and_self, exists_and_left, exists_const, Bool.false_eq_true, if_false, if_true, ite_true, ite_false, reduceIte, decide_eq_true_eq, reduceCtorEq, Nat.reduceAdd, Nat.reduceLT, tListZip]
    refine ⟨a, ns, 7, rfl, hS, hn, by decide, by decide, fun H1 h l s1 hh hl S1 => ?_⟩
    simp only [tCutE, false_and, exists_false, false_or, or_false, tRet, tRetN, tAndV, tOrV, tNotV, tChain, rI, rI0, rU, tC, tCB, tCons, tNil, tVar, tOp, tUn, tTest, tB, tAnd, tOr, tNot, tIf, tIfS, tSeq, tAsg, tDrop, tNext, gName, gTup_ref, gCons_cons, gNil_nil, and_assoc, tYes, wipe, rEq, rNe, scal_ss, scal_ii, scal_bb, scal_ns, scal_sn, scal_nn, scal_in, scal_ni, tLc_eq, tFor_eq, iList, iTup, iStr, iRng1, iRng2, iZip, iEnum, gSub, tSl, rSetL_ref, rCat_ref, rRep_ref, rJoin_ref, rSlL_ref, rSlS_ref, rMulS_ref, rIxL_ref, rIxT_ref, rLenK_ref, rAll_ref, rIn_ref, tLst, tTup, tPar, tPar3, tAug, tPart, tNoPart, tCall, List.getElem?_cons_zero, List.getElem?_cons_succ, List.set_cons_zero, List.set_cons_succ, List.map_cons, List.map_nil, List.append_nil, List.nil_append, List.cons_append, Option.some.injEq, exists_eq_left', exists_eq_left, exists_eq_right, exists_eq_right', exists_eq', V.int.injEq, V.str.injEq, V.bl.injEq, V.ref.injEq, List.cons.injEq, tM0, tM1, rNewStrs, sgn_eq, split_dot, split_sp, split_nl, dot_len, sp_len, nl_len, cxOf_K, L2.start, List.length_cons, List.length_nil, List.replicate_succ, List.replicate_zero, Nat.reduceSub, Nat.zero_add, and_true, true_and, and_self, exists_and_left, exists_const, Bool.false_eq_true, if_false, if_true, ite_true, ite_false, reduceIte, decide_eq_true_eq, reduceCtorEq, Nat.reduceAdd, Nat.reduceLT, tListZip]
    refine ⟨by decide, by decide, ?_⟩
    obtain ⟨Pv, hPv⟩ : ∃ Pv : Nat → L2.St → Hp → Prop, ∀ i σ H', Pv i σ H' ↔ ∃ c2 c3 c4 c5 c6 c7 c8 c9 c10 c11 c12, σ = [some (.ref a), some (.ref h), c2, c3, c4, c5, c6, c7, c8, c9, c10, c11, c12] ∧ SrcOk H' h l := ⟨_, fun _ _ _ => Iff.rfl⟩
    refine forG walk_range Pv ((hPv _ _ _).mpr ⟨_, _, _, _, _, _, _, _, _, _, _, rfl, S1⟩) (fun _ _ _ _ _ => trivial) (fun i x σ Ha Hb hi hP hy => ?_) (fun σ Ha hP => ?_)
    · obtain ⟨rfl, rfl⟩ := hy
      obtain ⟨c2, c3, c4, c5, c6, c7, c8, c9, c10, c11, c12, rfl, Sa⟩ := (hPv _ _ _).mp hP
      simp only [tCutE, false_and, exists_false, false_or, or_false, tRet, tRetN, tAndV, tOrV, tNotV, tChain, rI, rI0, rU, tC, tCB, tCons, tNil, tVar, tOp, tUn, tTest, tB, tAnd, tOr, tNot, tIf, tIfS, tSeq, tAsg, tDrop, tNext, gName, gTup_ref, gCons_cons, gNil_nil, and_assoc, tYes, wipe, rEq, rNe, scal_ss, scal_ii, scal_bb, scal_ns, scal_sn, scal_nn, scal_in, scal_ni, tLc_eq, tFor_eq, iList, iTup, iStr, iRng1, iRng2, iZip, iEnum, gSub, tSl, rSetL_ref, rCat_ref, rRep_ref, rJoin_ref, rSlL_ref, rSlS_ref, rMulS_ref, rIxL_ref, rIxT_ref, rLenK_ref, rAll_ref, rIn_ref, tLst, tTup, tPar, tPar3, tAug, tPart, tNoPart, tCall, List.getElem?_cons_zero, List.getElem?_cons_succ, List.set_cons_zero, List.set_cons_succ, List.map_cons, List.map_nil, List.append_nil, List.nil_append, List.cons_append, Option.some.injEq, exists_eq_left', exists_eq_left, exists_eq_right, exists_eq_right', exists_eq', V.int.injEq, V.str.injEq, V.bl.injEq, V.ref.injEq, List.cons.injEq, tM0, tM1, rNewStrs, sgn_eq, split_dot, split_sp, split_nl, dot_len, sp_len, nl_len, cxOf_K, L2.start, List.length_cons, List.length_nil, List.replicate_succ, List.replicate_zero, Nat.reduceSub, Nat.zero_add, and_true, true_and, and_self, exists_and_left, exists_const, Bool.false_eq_true, if_false, if_true, ite_true, ite_false, reduceIte, decide_eq_true_eq, reduceCtorEq, Nat.reduceAdd, Nat.reduceLT, tListZip]
      refine ⟨h, l, 2, rfl, Sa, by decide, by decide, fun H2 r2 x2 S2 h20 h21 => ?_⟩
      simp only [tCutE, false_and, exists_false, false_or, or_false, tRet, tRetN, tAndV, tOrV, tNotV, tChain, rI, rI0, rU, tC, tCB, tCons, tNil, tVar, tOp, tUn, tTest, tB, tAnd, tOr, tNot, tIf, tIfS, tSeq, tAsg, tDrop, tNext, gName, gTup_ref, gCons_cons, gNil_nil, and_assoc, tYes, wipe, rEq, rNe, scal_ss, scal_ii, scal_bb, scal_ns, scal_sn, scal_nn, scal_in, scal_ni, tLc_eq, tFor_eq, iList, iTup, iStr, iRng1, iRng2, iZip, iEnum, gSub, tSl, rSetL_ref, rCat_ref, rRep_ref, rJoin_ref, rSlL_ref, rSlS_ref, rMulS_ref, rIxL_ref, rIxT_ref, rLenK_ref, rAll_ref, rIn_ref, tLst, tTup, tPar, tPar3, tAug, tPart, tNoPart, tCall, List.getElem?_cons_zero, List.getElem?_cons_succ, List.set_cons_zero, List.set_cons_succ, List.map_cons, List.map_nil, List.append_nil, List.nil_append, List.cons_append, Option.some.injEq, exists_eq_left', exists_eq_left, exists_eq_right, exists_eq_right', exists_eq', V.int.injEq, V.str.injEq, V.bl.injEq, V.ref.injEq, List.cons.injEq, tM0, tM1, rNewStrs, sgn_eq, split_dot, split_sp, split_nl, dot_len, sp_len, nl_len, cxOf_K, L2.start, List.length_cons, List.length_nil, List.replicate_succ, List.replicate_zero, Nat.reduceSub, Nat.zero_add, and_true, true_and, and_self, exists_and_left, exists_const, Bool.false_eq_true, if_false, if_true, ite_true, ite_false, reduceIte, decide_eq_true_eq, reduceCtorEq, Nat.reduceAdd, Nat.reduceLT, tListZip]
      refine ⟨by decide, fun t1 ht1 => ?_⟩
      generalize hA1 : upd H2 t1 _ = H3
      obtain ⟨s3, f3⟩ := newF hA1 ht1
      have S3 := S2.same0 s3
      refine ⟨h, l, 2, rfl, S3, by decide, by decide, fun H4 r4 x4 S4 h40 h41 => ?_⟩
      obtain ⟨n4, hn41, hn46, en4⟩ := three_six h40 h41
      refine ⟨_, _, r4, _, rfl, rfl, .of (x4 _ _ (S2.nD ht1) f3), en4, ?_⟩
      refine ⟨h, l, n4, 1 + r2, rfl, S4, hn41, hn46, by omega, by omega, fun H5 p x5 S5 hp hpl hpf => ?_⟩
      refine ⟨by decide, fun t2 ht2 => ?_⟩
      generalize hA2 : upd H5 t2 _ = H6
      obtain ⟨s6, f6⟩ := newF hA2 ht2
      have S6 := S5.same0 s6
      refine ⟨h, l, 2, rfl, S6, by decide, by decide, fun H7 r7 x7 S7 h70 h71 => ?_⟩
      obtain ⟨n7, hn71, hn76, en7⟩ := three_six h70 h71
      refine ⟨_, _, r7, _, rfl, rfl, .of (x7 _ _ (S5.nD ht2) f6), en7, ?_⟩
      refine ⟨h, l, n7, 1 + r2, rfl, S7, hn71, hn76, by omega, by omega, fun H8 q x8 S8 hq hql hqf => ?_⟩
      refine ⟨by decide, fun t3 ht3 => ⟨_, .of upd_same, rfl, ?_⟩⟩
      generalize hA3 : upd H8 t3 _ = H9
      obtain ⟨s9, f9⟩ := newF hA3 ht3
      have S9 := S8.same0 s9
      simp only [tCutE, false_and, exists_false, false_or, or_false, tRet, tRetN, tAndV, tOrV, tNotV, tChain, rI, rI0, rU, tC, tCB, tCons, tNil, tVar, tOp, tUn, tTest, tB, tAnd, tOr, tNot, tIf, tIfS, tSeq, tAsg, tDrop, tNext, gName, gTup_ref, gCons_cons, gNil_nil, and_assoc, tYes, wipe, rEq, rNe, scal_ss, scal_ii, scal_bb, scal_ns, scal_sn, scal_nn, scal_in, scal_ni, tLc_eq, tFor_eq, iList, iTup, iStr, iRng1, iRng2, iZip, iEnum, gSub, tSl, rSetL_ref, rCat_ref, rRep_ref, rJoin_ref, rSlL_ref, rSlS_ref, rMulS_ref, rIxL_ref, rIxT_ref, rLenK_ref, rAll_ref, rIn_ref, tLst, tTup, tPar, tPar3, tAug, tPart, tNoPart, tCall, List.getElem?_cons_zero, List.getElem?_cons_succ, List.set_cons_zero, List.set_cons_succ, List.map_cons, List.map_nil, List.append_nil, List.nil_append, List.cons_append, Option.some.injEq, exists_eq_left', exists_eq_left, exists_eq_right, exists_eq_right', exists_eq', V.int.injEq, V.str.injEq, V.bl.injEq, V.ref.injEq, List.cons.injEq, tM0, tM1, rNewStrs, sgn_eq, split_dot, split_sp, split_nl, dot_len, sp_len, nl_len, cxOf_K, L2.start, List.length_cons, List.length_nil, List.replicate_succ, List.replicate_zero, Nat.reduceSub, Nat.zero_add, and_true, true_and, and_self, exists_and_left, exists_const, Bool.false_eq_true, if_false, if_true, ite_true, ite_false, reduceIte, decide_eq_true_eq, reduceCtorEq, Nat.reduceAdd, Nat.reduceLT, tListZip]
      refine ⟨Nat.zero_le _, fun DL hDL => ⟨by decide, by decide, by decide, by decide, ?_⟩⟩
      generalize hA4 : upd H9 DL _ = HA
      obtain ⟨sA, fA⟩ := newF hA4 hDL
      have SA := S9.same0 sA
      have nDL := S9.nD hDL
      obtain ⟨R1, hR1⟩ : ∃ R : L2.St → Hp → Prop, ∀ σ H', R σ H' ↔ ∃ c7 c8 c9 c10 c11 c12 : Option V, σ = [some (.ref a), some (.ref h), some (.int (0 + (i : Int))), some (.int (1 + r2)), some (.str p), some (.str q), some (.ref DL), c7, c8, c9, c10, c11, c12] ∧ SrcOk H' h l ∧ H' DL = some (.lst (((List.range 6).filterMap (line1 p)).map V.str)) := ⟨_, fun _ _ => Iff.rfl⟩
      refine ⟨R1, ?_, fun σ1 HB hB => ?_⟩
      · obtain ⟨PL, hPL⟩ : ∃ Pv : Nat → L2.St → Hp → Prop, ∀ j σ H', Pv j σ H' ↔ ∃ c7 c8 c9 c10 c11 c12 : Option V, σ = [some (.ref a), some (.ref h), some (.int (0 + (i : Int))), some (.int (1 + r2)), some (.str p), some (.str q), some (.ref DL), c7, c8, c9, c10, c11, c12] ∧ SrcOk H' h l ∧ H' DL = some (.lst (((List.range j).filterMap (line1 p)).map V.str)) := ⟨_, fun _ _ _ => Iff.rfl⟩
        refine forG walk_range PL ((hPL _ _ _).mpr ⟨_, _, _, _, _, _, rfl, SA, fA⟩) (fun _ _ _ _ _ => trivial) (fun j x σ Hc Hd hj hP hy => ?_) (fun σ Hc hP => (hR1 _ _).mpr ((hPL _ _ _).mp hP))
        obtain ⟨rfl, rfl⟩ := hy
        obtain ⟨c7, c8, c9, c10, c11, c12, rfl, Sc, fc⟩ := (hPL _ _ _).mp hP
        have hj6 : j < 6 := hj
        have ej : (1 : Int) + (j : Int) = (j : Int) + 1 := Int.add_comm _ _
        have hlen : ((List.range j).filterMap (line1 p)).length ≤ 6 := Nat.le_trans (List.length_filterMap_le _ _) (by rw [List.length_range]; omega)
        simp only [tCutE, false_and, exists_false, false_or, or_false, tRet, tRetN, tAndV, tOrV, tNotV, tChain, rI, rI0, rU, tC, tCB, tCons, tNil, tVar, tOp, tUn, tTest, tB, tAnd, tOr, tNot, tIf, tIfS, tSeq, tAsg, tDrop, tNext, gName, gTup_ref, gCons_cons, gNil_nil, and_assoc, tYes, wipe, rEq, rNe, scal_ss, scal_ii, scal_bb, scal_ns, scal_sn, scal_nn, scal_in, scal_ni, tLc_eq, tFor_eq, iList, iTup, iStr, iRng1, iRng2, iZip, iEnum, gSub, tSl, rSetL_ref, rCat_ref, rRep_ref, rJoin_ref, rSlL_ref, rSlS_ref, rMulS_ref, rIxL_ref, rIxT_ref, rLenK_ref, rAll_ref, rIn_ref, tLst, tTup, tPar, tPar3, tAug, tPart, tNoPart, tCall, List.getElem?_cons_zero, List.getElem?_cons_succ, List.set_cons_zero, List.set_cons_succ, List.map_cons, List.map_nil, List.append_nil, List.nil_append, List.cons_append, Option.some.injEq, exists_eq_left', exists_eq_left, exists_eq_right, exists_eq_right', exists_eq', V.int.injEq, V.str.injEq, V.bl.injEq, V.ref.injEq, List.cons.injEq, tM0, tM1, rNewStrs, sgn_eq, split_dot, split_sp, split_nl, dot_len, sp_len, nl_len, cxOf_K, L2.start, List.length_cons, List.length_nil, List.replicate_succ, List.replicate_zero, Nat.reduceSub, Nat.zero_add, and_true, true_and, and_self, exists_and_left, exists_const, Bool.false_eq_true, if_false, if_true, ite_true, ite_false, reduceIte, decide_eq_true_eq, reduceCtorEq, Nat.reduceAdd, Nat.reduceLT, tListZip]
        refine ⟨p, _, rfl, by omega, by omega, by omega, fun e H10 s10 => ?_, fun ms e H10 D10 s10 n10 f10 => ?_⟩
        · rw [ej] at e
          have el : line1 p j = none := by unfold line1; rw [e]; rfl
          refine ifN (by simp) ((hPL _ _ _).mpr ⟨_, _, _, _, _, _, rfl, Sc.same0 s10, ?_⟩)
          rw [List.range_succ, List.filterMap_append, List.filterMap_cons_none el, List.filterMap_nil, List.append_nil]
          exact s10 _ _ fc
        · rw [ej] at e
          have el : line1 p j = some (Txt.join "." (ms.map qw)) := by unfold line1; rw [e]; rfl
          have lms : ms.length = j + 1 := by have := (ofLen_us e).1; omega
          have fc10 := s10 _ _ fc
          refine ifP (by simp) ⟨_, rfl, .inl ⟨rfl, _, .of fc10⟩, ?_⟩
          simp only [tCutE, false_and, exists_false, false_or, or_false, tRet, tRetN, tAndV, tOrV, tNotV, tChain, rI, rI0, rU, tC, tCB, tCons, tNil, tVar, tOp, tUn, tTest, tB, tAnd, tOr, tNot, tIf, tIfS, tSeq, tAsg, tDrop, tNext, gName, gTup_ref, gCons_cons, gNil_nil, and_assoc, tYes, wipe, rEq, rNe, scal_ss, scal_ii, scal_bb, scal_ns, scal_sn, scal_nn, scal_in, scal_ni, tLc_eq, tFor_eq, iList, iTup, iStr, iRng1, iRng2, iZip, iEnum, gSub, tSl, rSetL_ref, rCat_ref, rRep_ref, rJoin_ref, rSlL_ref, rSlS_ref, rMulS_ref, rIxL_ref, rIxT_ref, rLenK_ref, rAll_ref, rIn_ref, tLst, tTup, tPar, tPar3, tAug, tPart, tNoPart, tCall, List.getElem?_cons_zero, List.getElem?_cons_succ, List.set_cons_zero, List.set_cons_succ, List.map_cons, List.map_nil, List.append_nil, List.nil_append, List.cons_append, Option.some.injEq, exists_eq_left', exists_eq_left, exists_eq_right, exists_eq_right', exists_eq', V.int.injEq, V.str.injEq, V.bl.injEq, V.ref.injEq, List.cons.injEq, tM0, tM1, rNewStrs, sgn_eq, split_dot, split_sp, split_nl, dot_len, sp_len, nl_len, cxOf_K, L2.start, List.length_cons, List.length_nil, List.replicate_succ, List.replicate_zero, Nat.reduceSub, Nat.zero_add, and_true, true_and, and_self, exists_and_left, exists_const, Bool.false_eq_true, if_false, if_true, ite_true, ite_false, reduceIte, decide_eq_true_eq, reduceCtorEq, Nat.reduceAdd, Nat.reduceLT, tListZip]
          refine ⟨⟨_, .of f10⟩, lc_map ms (fun m => V.str (qw m)) (walk_listm ms V.str) (by omega) (fun H11 s11 => s11.seq (.of f10)) (fun m w v H11 H12 R hw s11 hy' r => ?_) (fun D11 H11 n11 s11 f11 => ?_)⟩
          · obtain ⟨rfl, u, hu, rfl⟩ := hy'
            rw [hw] at hu; cases hu
            simp only [tCutE, false_and, exists_false, false_or, or_false, tRet, tRetN, tAndV, tOrV, tNotV, tChain, rI, rI0, rU, tC, tCB, tCons, tNil, tVar, tOp, tUn, tTest, tB, tAnd, tOr, tNot, tIf, tIfS, tSeq, tAsg, tDrop, tNext, gName, gTup_ref, gCons_cons, gNil_nil, and_assoc, tYes, wipe, rEq, rNe, scal_ss, scal_ii, scal_bb, scal_ns, scal_sn, scal_nn, scal_in, scal_ni, tLc_eq, tFor_eq, iList, iTup, iStr, iRng1, iRng2, iZip, iEnum, gSub, tSl, rSetL_ref, rCat_ref, rRep_ref, rJoin_ref, rSlL_ref, rSlS_ref, rMulS_ref, rIxL_ref, rIxT_ref, rLenK_ref, rAll_ref, rIn_ref, tLst, tTup, tPar, tPar3, tAug, tPart, tNoPart, tCall, List.getElem?_cons_zero, List.getElem?_cons_succ, List.set_cons_zero, List.set_cons_succ, List.map_cons, List.map_nil, List.append_nil, List.nil_append, List.cons_append, Option.some.injEq, exists_eq_left', exists_eq_left, exists_eq_right, exists_eq_right', exists_eq', V.int.injEq, V.str.injEq, V.bl.injEq, V.ref.injEq, List.cons.injEq, tM0, tM1, rNewStrs, sgn_eq, split_dot, split_sp, split_nl, dot_len, sp_len, nl_len, cxOf_K, L2.start, List.length_cons, List.length_nil, List.replicate_succ, List.replicate_zero, Nat.reduceSub, Nat.zero_add, and_true, true_and, and_self, exists_and_left, exists_const, Bool.false_eq_true, if_false, if_true, ite_true, ite_false, reduceIte, decide_eq_true_eq, reduceCtorEq, Nat.reduceAdd, Nat.reduceLT, tListZip]
            have := r _ (Same.refl _)
            unfold qw at this
            by_cases e0 : w = ("*" : Str)
            · rw [if_pos e0] at this ⊢; exact this
            · rw [if_neg e0] at this ⊢; exact this
          · have f11' : H11 D11 = some (.lst ((ms.map qw).map V.str)) := by rw [f11, List.map_map]; rfl
            simp only [tCutE, false_and, exists_false, false_or, or_false, tRet, tRetN, tAndV, tOrV, tNotV, tChain, rI, rI0, rU, tC, tCB, tCons, tNil, tVar, tOp, tUn, tTest, tB, tAnd, tOr, tNot, tIf, tIfS, tSeq, tAsg, tDrop, tNext, gName, gTup_ref, gCons_cons, gNil_nil, and_assoc, tYes, wipe, rEq, rNe, scal_ss, scal_ii, scal_bb, scal_ns, scal_sn, scal_nn, scal_in, scal_ni, tLc_eq, tFor_eq, iList, iTup, iStr, iRng1, iRng2, iZip, iEnum, gSub, tSl, rSetL_ref, rCat_ref, rRep_ref, rJoin_ref, rSlL_ref, rSlS_ref, rMulS_ref, rIxL_ref, rIxT_ref, rLenK_ref, rAll_ref, rIn_ref, tLst, tTup, tPar, tPar3, tAug, tPart, tNoPart, tCall, List.getElem?_cons_zero, List.getElem?_cons_succ, List.set_cons_zero, List.set_cons_succ, List.map_cons, List.map_nil, List.append_nil, List.nil_append, List.cons_append, Option.some.injEq, exists_eq_left', exists_eq_left, exists_eq_right, exists_eq_right', exists_eq', V.int.injEq, V.str.injEq, V.bl.injEq, V.ref.injEq, List.cons.injEq, tM0, tM1, rNewStrs, sgn_eq, split_dot, split_sp, split_nl, dot_len, sp_len, nl_len, cxOf_K, L2.start, List.length_cons, List.length_nil, List.replicate_succ, List.replicate_zero, Nat.reduceSub, Nat.zero_add, and_true, true_and, and_self, exists_and_left, exists_const, Bool.false_eq_true, if_false, if_true, ite_true, ite_false, reduceIte, decide_eq_true_eq, reduceCtorEq, Nat.reduceAdd, Nat.reduceLT, tListZip]
            have hsum := sum_le (k := 4) fun w hw => (word_signs (qw_words hp e w hw)).2.1
            have hdot : (Str.ofString ".").length = 1 := by decide +kernel
            rw [List.length_map] at hsum
            refine ⟨ms.map qw, .inl (.of f11'), ?_, DL, _, _, rfl, rfl, s11 _ _ fc10, smallLt (by rw [List.length_map]; omega), ?_⟩
            · rw [hdot, List.length_map]; omega
            refine (hPL _ _ _).mpr ⟨_, _, _, _, _, _, rfl, (Sc.same0 (s10.trans s11)).put (S9.neD hDL).1 (S9.neD hDL).2, ?_⟩
            rw [upd_same, List.range_succ, List.filterMap_append, List.filterMap_cons_some el, List.filterMap_nil, List.map_append]
            rfl
      · obtain ⟨c7, c8, c9, c10, c11, c12, rfl, SB, fB⟩ := (hR1 _ _).mp hB
        obtain ⟨R2, hR2⟩ : ∃ R : L2.St → Hp → Prop, ∀ σ H', R σ H' ↔ ∃ c6 c7 c8 c9 c10 c11 c12 : Option V, σ = [some (.ref a), some (.ref h), some (.int (0 + (i : Int))), some (.int (1 + r2)), some (.str p), some (.str q), c6, c7, c8, c9, c10, c11, c12] ∧ SrcOk H' h l := ⟨_, fun _ _ => Iff.rfl⟩
        have hln : ∀ z ∈ (List.range 6).filterMap (line1 p), z.length ≤ 30 ∧ PyData.strOk z = true := fun z hz => by
          obtain ⟨k, hk, e⟩ := List.mem_filterMap.mp hz
          exact line1_small hp (List.mem_range.mp hk) e
        have hlen : ((List.range 6).filterMap (line1 p)).length ≤ 6 := List.length_filterMap_le _ _
        have hnar : narrowerM p q = (((List.range 6).filterMap (line1 p)).filterMap fun z => if (!doesFit q z) = true then some z else none).isEmpty := nar_lines hp hqf _
        generalize (List.range 6).filterMap (line1 p) = ls at fB hln hlen hnar
        refine ⟨R2, ⟨_, rfl, _, rfl, p, q, rfl, by omega, by omega, fun _ _ H10 s10 => ⟨_, rfl, _, rfl, ⟨_, .of (s10 _ _ fB)⟩, ?_⟩, fun _ e => absurd e (by rw [hq]; decide), fun e => absurd e (by rw [hp]; decide)⟩, fun σ2 HC hC => ?_⟩
        · refine lc_fil ls (fun z => if (!doesFit q z) = true then some (V.str z) else none) (walk_listm ls V.str) (by omega) (fun H11 s11 => s11.seq (.of (s10 _ _ fB))) (fun m w v H11 H12 R hw s11 hy' r => ?_) (fun D11 H11 n11 s11 f11 => ?_)
          · obtain ⟨rfl, u, hu, rfl⟩ := hy'
            rw [hw] at hu; cases hu
            simp only [tCutE, false_and, exists_false, false_or, or_false, tRet, tRetN, tAndV, tOrV, tNotV, tChain, rI, rI0, rU, tC, tCB, tCons, tNil, tVar, tOp, tUn, tTest, tB, tAnd, tOr, tNot, tIf, tIfS, tSeq, tAsg, tDrop, tNext, gName, gTup_ref, gCons_cons, gNil_nil, and_assoc, tYes, wipe, rEq, rNe, scal_ss, scal_ii, scal_bb, scal_ns, scal_sn, scal_nn, scal_in, scal_ni, tLc_eq, tFor_eq, iList, iTup, iStr, iRng1, iRng2, iZip, iEnum, gSub, tSl, rSetL_ref, rCat_ref, rRep_ref, rJoin_ref, rSlL_ref, rSlS_ref, rMulS_ref, rIxL_ref, rIxT_ref, rLenK_ref, rAll_ref, rIn_ref, tLst, tTup, tPar, tPar3, tAug, tPart, tNoPart, tCall, List.getElem?_cons_zero, List.getElem?_cons_succ, List.set_cons_zero, List.set_cons_succ, List.map_cons, List.map_nil, List.append_nil, List.nil_append, List.cons_append, Option.some.injEq, exists_eq_left', exists_eq_left, exists_eq_right, exists_eq_right', exists_eq', V.int.injEq, V.str.injEq, V.bl.injEq, V.ref.injEq, List.cons.injEq, tM0, tM1, rNewStrs, sgn_eq, split_dot, split_sp, split_nl, dot_len, sp_len, nl_len, cxOf_K, L2.start, List.length_cons, List.length_nil, List.replicate_succ, List.replicate_zero, Nat.reduceSub, Nat.zero_add, and_true, true_and, and_self, exists_and_left, exists_const, Bool.false_eq_true, if_false, if_true, ite_true, ite_false, reduceIte, decide_eq_true_eq, reduceCtorEq, Nat.reduceAdd, Nat.reduceLT, tListZip]
            have := hln w (List.mem_of_getElem? hw)
            refine ⟨q, w, rfl, by omega, by omega, fun H13 s13 => ⟨_, rfl, ?_⟩⟩
            have := r _ s13
            by_cases e0 : (!doesFit q w) = true
            · rw [if_pos e0] at this; exact ifP e0 this
            · rw [if_neg e0] at this; exact ifN e0 this
          · refine ⟨Nat.zero_le _, fun p12 hp12 => ?_⟩
            generalize hA5 : upd H11 p12 _ = H12
            obtain ⟨s12, f12⟩ := newF hA5 hp12
            have ef : (ls.filterMap fun z => if (!doesFit q z) = true then some (V.str z) else none) = (ls.filterMap fun z => if (!doesFit q z) = true then some z else none).map V.str := by
              rw [List.map_filterMap]
              congr 1
              funext z
              split <;> rfl
            have f11' := s12 _ _ f11
            rw [ef] at f11'
            have hok : ∀ z ∈ (ls.filterMap fun z => if (!doesFit q z) = true then some z else none), PyData.strOk z = true := fun z hz => by
              obtain ⟨z', hz', e⟩ := List.mem_filterMap.mp hz
              split at e
              · cases e; exact (hln _ hz').2
              · cases e
            rw [hnar]
            generalize (ls.filterMap fun z => if (!doesFit q z) = true then some z else none) = fs at f11' hok
            refine ⟨.list (fs.map PyData.str), .list [], .lst (.of f11') (dpAll_map fun a _ => .str _), .lst (.of f12) .nil, shaped_strs hok, by decide, ?_⟩
            rw [eqv_nil, List.isEmpty_map]
            refine ⟨rfl, ifN (by simp) ((hR2 _ _).mpr ⟨_, _, _, _, _, _, _, rfl, SB.same0 ((s10.trans s11).trans s12)⟩)⟩
        · obtain ⟨c6, c7, c8, c9, c10, c11, c12, rfl, SC⟩ := (hR2 _ _).mp hC
          refine ⟨by decide, by decide, by decide, by decide, ?_⟩
          have hfirst := firsts hp hq (List.range 6) fun k hk => List.mem_range.mp hk
          obtain ⟨ts, hts⟩ : ∃ ts : List Str, ts = (List.range 6).map fun k => (mee1 p q k).getD "" := ⟨_, rfl⟩
          have htl : ts.length ≤ 6 := by rw [hts, List.length_map]; exact Nat.le_refl _
          rw [← hts] at hfirst
          have hfl : (ts.filterMap fun z => if z ≠ ("" : Str) then some (V.str z) else none).length ≤ 6 := Nat.le_trans (List.length_filterMap_le _ _) htl
          obtain ⟨fs, hfs⟩ : ∃ fs : List V, fs = ts.filterMap fun z => if z ≠ ("" : Str) then some (V.str z) else none := ⟨_, rfl⟩
          rw [← hfs] at hfirst hfl
          obtain ⟨R3, hR3⟩ : ∃ R : L2.St → Hp → Prop, ∀ σ H', R σ H' ↔ ∃ (DF : Addr) (c6 c7 c8 c9 c10 c12 : Option V), σ = [some (.ref a), some (.ref h), some (.int (0 + (i : Int))), some (.int (1 + r2)), some (.str p), some (.str q), c6, c7, c8, c9, c10, some (.ref DF), c12] ∧ SrcOk H' h l ∧ H' DF = some (.lst fs) := ⟨_, fun _ _ => Iff.rfl⟩
          refine ⟨R3, ?_, fun σ3 HD hD => ?_⟩
          · refine lc_map (J := Itr 1 6) (List.range 6) (fun k => V.str ((mee1 p q k).getD "")) walk_range (by decide) (fun _ _ => trivial) (fun j k x H10 H11 R hk s10 hy r => ?_) (fun D11 H11 n11 s11 f11 => ?_)
            · obtain ⟨rfl, rfl⟩ := hy
              have hk' := List.getElem?_eq_some_iff.mp hk
              obtain ⟨hk1, hk2⟩ := hk'
              rw [List.getElem_range] at hk2
              rw [List.length_range] at hk1
              subst hk2
              simp only [tCutE, false_and, exists_false, false_or, or_false, tRet, tRetN, tAndV, tOrV, tNotV, tChain, rI, rI0, rU, tC, tCB, tCons, tNil, tVar, tOp, tUn, tTest, tB, tAnd, tOr, tNot, tIf, tIfS, tSeq, tAsg, tDrop, tNext, gName, gTup_ref, gCons_cons, gNil_nil, and_assoc, tYes, wipe, rEq, rNe, scal_ss, scal_ii, scal_bb, scal_ns, scal_sn, scal_nn, scal_in, scal_ni, tLc_eq, tFor_eq, iList, iTup, iStr, iRng1, iRng2, iZip, iEnum, gSub, tSl, rSetL_ref, rCat_ref, rRep_ref, rJoin_ref, rSlL_ref, rSlS_ref, rMulS_ref, rIxL_ref, rIxT_ref, rLenK_ref, rAll_ref, rIn_ref, tLst, tTup, tPar, tPar3, tAug, tPart, tNoPart, tCall, List.getElem?_cons_zero, List.getElem?_cons_succ, List.set_cons_zero, List.set_cons_succ, List.map_cons, List.map_nil, List.append_nil, List.nil_append, List.cons_append, Option.some.injEq, exists_eq_left', exists_eq_left, exists_eq_right, exists_eq_right', exists_eq', V.int.injEq, V.str.injEq, V.bl.injEq, V.ref.injEq, List.cons.injEq, tM0, tM1, rNewStrs, sgn_eq, split_dot, split_sp, split_nl, dot_len, sp_len, nl_len, cxOf_K, L2.start, List.length_cons, List.length_nil, List.replicate_succ, List.replicate_zero, Nat.reduceSub, Nat.zero_add, and_true, true_and, and_self, exists_and_left, exists_const, Bool.false_eq_true, if_false, if_true, ite_true, ite_false, reduceIte, decide_eq_true_eq, reduceCtorEq, Nat.reduceAdd, Nat.reduceLT, tListZip]
              exact ⟨j, Int.add_comm _ _, hk1, hp, hq, by omega, by omega, fun H12 s12 => r _ s12⟩
            · have f11' : H11 D11 = some (.lst (ts.map V.str)) := by rw [f11, hts, List.map_map]; rfl
              refine ⟨_, rfl, ⟨_, .of f11'⟩, lc_fil ts (fun z => if z ≠ ("" : Str) then some (V.str z) else none) (walk_listm ts V.str) (by omega) (fun H12 s12 => s12.seq (.of f11')) (fun m w v H12 H13 R hw s12 hy' r => ?_) (fun D12 H12 n12 s12 f12 => ?_)⟩
              · obtain ⟨rfl, u, hu, rfl⟩ := hy'
                rw [hw] at hu; cases hu
                simp only [tCutE, false_and, exists_false, false_or, or_false, tRet, tRetN, tAndV, tOrV, tNotV, tChain, rI, rI0, rU, tC, tCB, tCons, tNil, tVar, tOp, tUn, tTest, tB, tAnd, tOr, tNot, tIf, tIfS, tSeq, tAsg, tDrop, tNext, gName, gTup_ref, gCons_cons, gNil_nil, and_assoc, tYes, wipe, rEq, rNe, scal_ss, scal_ii, scal_bb, scal_ns, scal_sn, scal_nn, scal_in, scal_ni, tLc_eq, tFor_eq, iList, iTup, iStr, iRng1, iRng2, iZip, iEnum, gSub, tSl, rSetL_ref, rCat_ref, rRep_ref, rJoin_ref, rSlL_ref, rSlS_ref, rMulS_ref, rIxL_ref, rIxT_ref, rLenK_ref, rAll_ref, rIn_ref, tLst, tTup, tPar, tPar3, tAug, tPart, tNoPart, tCall, List.getElem?_cons_zero, List.getElem?_cons_succ, List.set_cons_zero, List.set_cons_succ, List.map_cons, List.map_nil, List.append_nil, List.nil_append, List.cons_append, Option.some.injEq, exists_eq_left', exists_eq_left, exists_eq_right, exists_eq_right', exists_eq', V.int.injEq, V.str.injEq, V.bl.injEq, V.ref.injEq, List.cons.injEq, tM0, tM1, rNewStrs, sgn_eq, split_dot, split_sp, split_nl, dot_len, sp_len, nl_len, cxOf_K, L2.start, List.length_cons, List.length_nil, List.replicate_succ, List.replicate_zero, Nat.reduceSub, Nat.zero_add, and_true, true_and, and_self, exists_and_left, exists_const, Bool.false_eq_true, if_false, if_true, ite_true, ite_false, reduceIte, decide_eq_true_eq, reduceCtorEq, Nat.reduceAdd, Nat.reduceLT, tListZip]
                have := r _ (Same.refl _)
                by_cases e0 : w = ("" : Str)
                · rw [if_neg (fun z => z e0)] at this
                  exact ifN (by simp [e0]) this
                · rw [if_pos e0] at this
                  exact ifP (by simp [e0]) this
              · rw [← hfs] at f12
                exact (hR3 _ _).mpr ⟨D12, _, _, _, _, _, _, rfl, SC.same0 (s11.trans s12), f12⟩
          · obtain ⟨DF, c6, c7, c8, c9, c10, c12, rfl, SD, fDF⟩ := (hR3 _ _).mp hD
            refine ⟨_, rfl, _, rfl, p, q, rfl, by omega, by omega, fun _ _ H10 s10 => ?_, fun _ e => absurd e (by rw [hq]; decide), fun e => absurd e (by rw [hp]; decide)⟩
            obtain ⟨mv, hmv⟩ : ∃ mv : V, mv = meetV (meetsM p q) := ⟨_, rfl⟩
            rw [← hmv]
            simp only [tCutE, false_and, exists_false, false_or, or_false, tRet, tRetN, tAndV, tOrV, tNotV, tChain, rI, rI0, rU, tC, tCB, tCons, tNil, tVar, tOp, tUn, tTest, tB, tAnd, tOr, tNot, tIf, tIfS, tSeq, tAsg, tDrop, tNext, gName, gTup_ref, gCons_cons, gNil_nil, and_assoc, tYes, wipe, rEq, rNe, scal_ss, scal_ii, scal_bb, scal_ns, scal_sn, scal_nn, scal_in, scal_ni, tLc_eq, tFor_eq, iList, iTup, iStr, iRng1, iRng2, iZip, iEnum, gSub, tSl, rSetL_ref, rCat_ref, rRep_ref, rJoin_ref, rSlL_ref, rSlS_ref, rMulS_ref, rIxL_ref, rIxT_ref, rLenK_ref, rAll_ref, rIn_ref, tLst, tTup, tPar, tPar3, tAug, tPart, tNoPart, tCall, List.getElem?_cons_zero, List.getElem?_cons_succ, List.set_cons_zero, List.set_cons_succ, List.map_cons, List.map_nil, List.append_nil, List.nil_append, List.cons_append, Option.some.injEq, exists_eq_left', exists_eq_left, exists_eq_right, exists_eq_right', exists_eq', V.int.injEq, V.str.injEq, V.bl.injEq, V.ref.injEq, List.cons.injEq, tM0, tM1, rNewStrs, sgn_eq, split_dot, split_sp, split_nl, dot_len, sp_len, nl_len, cxOf_K, L2.start, List.length_cons, List.length_nil, List.replicate_succ, List.replicate_zero, Nat.reduceSub, Nat.zero_add, and_true, true_and, and_self, exists_and_left, exists_const, Bool.false_eq_true, if_false, if_true, ite_true, ite_false, reduceIte, decide_eq_true_eq, reduceCtorEq, Nat.reduceAdd, Nat.reduceLT, tListZip]
            have hfirst : (fs ++ [V.non])[0]? = some mv := by rw [hmv]; exact hfirst
            have hsc : scal mv mv = true := by rw [hmv]; cases meetsM p q <;> rfl
            have hsym : meetV (meetsM q p) = mv := by rw [meets_sym, hmv]
            obtain ⟨R4, hR4⟩ : ∃ R : L2.St → Hp → Prop, ∀ σ H', R σ H' ↔ ∃ (c6 c7 c8 c9 c10 c11 : Option V), σ = [some (.ref a), some (.ref h), some (.int (0 + (i : Int))), some (.int (1 + r2)), some (.str p), some (.str q), c6, c7, c8, c9, c10, c11, some mv] ∧ SrcOk H' h l := ⟨_, fun _ _ => Iff.rfl⟩
            refine ⟨by decide, R4, fun p11 hp11 => ?_, fun σ4 HE hE => ?_⟩
            · generalize hA5 : upd H10 p11 _ = H11
              obtain ⟨s11, f11⟩ := newF hA5 hp11
              refine ⟨_, s11 _ _ (s10 _ _ fDF), _, f11, small (by simp; omega), fun p12 hp12 => ?_⟩
              generalize hA6 : upd H11 p12 _ = H12
              obtain ⟨s12, f12⟩ := newF hA6 hp12
              refine ⟨_, .of f12, mv, atI_nat (j := 0) hfirst, hsc, ifN (by simp) ?_⟩
              refine ⟨q, p, rfl, by omega, by omega, fun _ _ H13 s13 => ?_, fun _ e => absurd e (by rw [hp]; decide), fun e => absurd e (by rw [hq]; decide)⟩
              rw [hsym]
              exact ⟨hsc, ifN (by simp) ((hR4 _ _).mpr ⟨_, _, _, _, _, _, rfl, SD.same0 (((s10.trans s11).trans s12).trans s13)⟩)⟩
            · obtain ⟨c6, c7, c8, c9, c10, c11, rfl, SE⟩ := (hR4 _ _).mp hE
              obtain ⟨R5, hR5⟩ : ∃ R : L2.St → Hp → Prop, ∀ σ H', R σ H' ↔ ∃ (c6 c7 c8 c9 c10 c11 c12 : Option V), σ = [some (.ref a), some (.ref h), some (.int (0 + (i : Int))), some (.int (1 + r2)), some (.str p), some (.str q), c6, c7, c8, c9, c10, c11, c12] ∧ SrcOk H' h l := ⟨_, fun _ _ => Iff.rfl⟩
              refine ⟨R5, ⟨_, rfl, ?_⟩, fun σ5 HF hF => ?_⟩
              · cases hm : meetsM p q with
                | none =>
                  rw [hm] at hmv
                  exact ifN (by rw [hmv]; simp [meetV]) ((hR5 _ _).mpr ⟨_, _, _, _, _, _, _, rfl, SE⟩)
                | some z =>
                  rw [hm] at hmv
                  have hmv : mv = .str z := hmv
                  subst hmv
                  obtain ⟨k, hk, ek⟩ := meets_at hm
                  obtain ⟨z1, z2, z3, z4⟩ := mee_fits hp hq hk ek
                  refine ifP (by simp) ⟨_, rfl, _, rfl, p, z, rfl, by omega, by omega, fun _ _ H11 s11 => ⟨_, rfl, ifP z2 ⟨_, rfl, _, rfl, q, z, rfl, by omega, by omega, fun _ _ H12 s12 => ⟨_, rfl, ifN (by rw [z3]; simp) ((hR5 _ _).mpr ⟨_, _, _, _, _, _, _, rfl, SE.same0 (s11.trans s12)⟩)⟩, fun e => absurd e (by rw [hq]; decide), fun _ e => absurd e (by rw [z1]; decide)⟩⟩, fun e => absurd e (by rw [hp]; decide), fun _ e => absurd e (by rw [z1]; decide)⟩
              · obtain ⟨c6, c7, c8, c9, c10, c11, c12, rfl, SF⟩ := (hR5 _ _).mp hF
                have l1 : (Str.ofString "#").length = 1 := by decide +kernel
                refine ⟨_, rfl, _, rfl, p, p, rfl, by omega, by omega, fun _ _ H11 s11 => ⟨_, rfl, ifN (by rw [nar_self]; simp) ⟨_, rfl, p, _, rfl, by omega, by omega, fun _ _ H12 s12 => ⟨_, rfl, ifN (by rw [nar_hash]; simp) ⟨_, rfl, p, _, rfl, by omega, by omega, fun _ _ H13 s13 => ?_, fun _ e => absurd e (by rw [isPat_hash1]; decide), fun e => absurd e (by rw [hp]; decide)⟩⟩, fun _ e => absurd e (by rw [isPat_hash1]; decide), fun e => absurd e (by rw [hp]; decide)⟩⟩, fun _ e => absurd e (by rw [hp]; decide), fun e => absurd e (by rw [hp]; decide)⟩
                show if meetV (meetsM p ("#" : Str)) = V.non then _ else _
                cases hm : meetsM p ("#" : Str) with
                | none => exact absurd hm (meets_hash hp)
                | some z => exact ifN (by simp [meetV]) ((hPv _ _ _).mpr ⟨_, _, _, _, _, _, _, _, _, _, _, rfl, SF.same0 ((s11.trans s12).trans s13)⟩)
    · obtain ⟨c2, c3, c4, c5, c6, c7, c8, c9, c10, c11, c12, rfl, Sa⟩ := (hPv _ _ _).mp hP
      simp only [tCutE, false_and, exists_false, false_or, or_false, tRet, tRetN, tAndV, tOrV, tNotV, tChain, rI, rI0, rU, tC, tCB, tCons, tNil, tVar, tOp, tUn, tTest, tB, tAnd, tOr, tNot, tIf, tIfS, tSeq, tAsg, tDrop, tNext, gName, gTup_ref, gCons_cons, gNil_nil, and_assoc, tYes, wipe, rEq, rNe, scal_ss, scal_ii, scal_bb, scal_ns, scal_sn, scal_nn, scal_in, scal_ni, tLc_eq, tFor_eq, iList, iTup, iStr, iRng1, iRng2, iZip, iEnum, gSub, tSl, rSetL_ref, rCat_ref, rRep_ref, rJoin_ref, rSlL_ref, rSlS_ref, rMulS_ref, rIxL_ref, rIxT_ref, rLenK_ref, rAll_ref, rIn_ref, tLst, tTup, tPar, tPar3, tAug, tPart, tNoPart, tCall, List.getElem?_cons_zero, List.getElem?_cons_succ, List.set_cons_zero, List.set_cons_succ, List.map_cons, List.map_nil, List.append_nil, List.nil_append, List.cons_append, Option.some.injEq, exists_eq_left', exists_eq_left, exists_eq_right, exists_eq_right', exists_eq', V.int.injEq, V.str.injEq, V.bl.injEq, V.ref.injEq, List.cons.injEq, tM0, tM1, rNewStrs, sgn_eq, split_dot, split_sp, split_nl, dot_len, sp_len, nl_len, cxOf_K, L2.start, List.length_cons, List.length_nil, List.replicate_succ, List.replicate_zero, Nat.reduceSub, Nat.zero_add, and_true, true_and, and_self, exists_and_left, exists_const, Bool.false_eq_true, if_false, if_true, ite_true, ite_false, reduceIte, decide_eq_true_eq, reduceCtorEq, Nat.reduceAdd, Nat.reduceLT, tListZip]
      exact qq _
end
/-! ### the head -/
abbrev Rw : PySem.W.OpenRow := PySem.W.OpenLaw.row PySem.Challenge.rw_hearken_k03_whole_patterns_beside_patter
abbrev hk : PySem.W.Hook := He.hookD 5 fa fn
def ob (s : PySem.W.SharedT) : He.AlD := He.obsDG 5 fa fn (HandSHeadRun.getT s)
theorem ob_eq (s : PySem.W.SharedT) : ob s = hk.obs s.abs := He.obsDG_eq (HandSHeadRun.getT_eq s)
def loose : List Str := "HearError" :: "BadLine" :: "BadPattern" :: "LETTERS" :: "MOST_LETTERS" :: "MOST_WORDS" :: "ANY" :: "REST" :: "is_word" :: "is_line" :: "is_pattern" :: "need_line" :: "need_pattern" :: "of_length" :: "does_fit" :: "fits" :: "narrower" :: "meets" :: "met" :: "_law_mix" :: "_law_next" :: "_law_parts" :: "_law_fits" :: "_law_line" :: "_law_pattern" :: "_law_first" :: []
theorem run (w : World) : HandSHeadRun.RunEq Rw (PySem.W.view Rw.prog [29]) hk ob 4000 loose w := by
  intro os
  kernel_rfl
end Hk
open PySem PySem.W PySem.Calls PyProof.Rows
theorem PySem.Challenge.cw_hearken_k03_whole_patterns_beside_patter_holds : PySem.Challenge.rw_hearken_k03_whole_patterns_beside_patter.Holds := by
  w_on; o_law
  refine HandSHeadRun.head_any (r := OpenLaw.row PySem.Challenge.rw_hearken_k03_whole_patterns_beside_patter) (q := view (OpenLaw.row PySem.Challenge.rw_hearken_k03_whole_patterns_beside_patter).prog [29]) (H := Hk.hk) (ob := Hk.ob) (M := 4000) (loose := Hk.loose) (d := HandSHeadRun.topDef (OpenLaw.row PySem.Challenge.rw_hearken_k03_whole_patterns_beside_patter).prog 29) (kwd := []) Hk.ob_eq
    (by kernel_rfl) (fun s => by kernel_rfl) Hk.run (by kernel_rfl) (by kernel_rfl) (by kernel_rfl) (by rfl) (by first | assumption | decide +kernel) (by decide +kernel) ⟨rfl, rfl, rfl, rfl, rfl, by decide +kernel⟩ ?hw ?hc
  case hw => w_witness2
  case hc =>
    refine L2.walk_ofE (l := PySem.Challenge.rw_hearken_k03_whole_patterns_beside_patter) (n := 63) (k := 8) (x := "_law_script") (CX := L2.CX0) rfl (by decide) (by kernel_rfl) ⟨rfl, by decide, by decide⟩ ?F (fun _ _ _ _ z => z)
    intro w mg fa h Y G hmg0
    obtain ⟨K, KX, c⟩ := Y
    have hmg : mg ("law" : PySem.Str) = some (.ref fa) := by
      have e : (HandSHeadRun.topDef (OpenLaw.row PySem.Challenge.rw_hearken_k03_whole_patterns_beside_patter).prog 29).name = ("law" : PySem.Str) := by kernel_rfl
      rw [← e]
      exact hmg0
    have T : Hk.Tx K mg := ⟨h, KX, G, c, rfl⟩
    obtain ⟨fd, F⟩ := T.f_law
    have ef := hmg.symm.trans T.g_law
    cases ef
    have b := L2.FunD.bindsA (ps := ["_law_script"]) F fun _ _ _ _ _ _ us hl => match us, hl with | [_], _ => rfl
    exact ⟨K, fd, Hk.sp_law K, KX, fun s v => b s [v] rfl, fun H a ns hl _ hS => ⟨a, ns, rfl, hS, hl, fun _ => rfl⟩, fun base _ _ => Hk.F_law_ok T F⟩

