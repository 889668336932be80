import PyProof.Rows.All
import Wide.All
import OpenK.AllK
import Wide.FinOn
import HandS.ForMost
import HandS.ForExc
import HandS.Evl
import HandS.IsInst
import HandS.TupAny
import HandS.Style
import PySem.Challenge.RW_gatewhole_k09_whole_classes_kept
set_option Elab.async false
set_option linter.all false
set_option maxRecDepth 100000
set_option maxHeartbeats 8000000
set_option Elab.async false
set_option linter.all false
set_option maxRecDepth 100000
set_option maxHeartbeats 4000000
/-! Gatewhole, the base: defs as one fact (Fn, Def), heaps, lists of truths, comprehensions. -/
namespace GW
open PySem PySem.Spec PyProof.Rows L2

/-! ### defs -/
/-- a def under its global name that keeps a promise -/
structure Fn (P : Program) (w : World) (K : PySem.W.Frag) (mg : Str → Option Value) (base : Heap) (CX : CXT) (k : Nat) (x : Str) (ps : List Str) (sp : Sp) : Prop where
  ex : ∃ f fd, FnOk P w K mg base CX k f fd ps sp ∧ mg x = some (.ref f) ∧ PySem.W.keepIn K (.ref f) = true ∧ Binds K fd ps []
/-- a def of the text as it stands behind the top -/
structure Def (K : PySem.W.Frag) (mg : Str → Option Value) (x : Str) (st : Stmt) (ps : List Str) : Prop where
  ex : ∃ f fd, Fun K x x st f fd ∧ mg x = some (.ref f) ∧ Binds K fd ps []
section
variable {P : Program} {w : World} {K : PySem.W.Frag} {mg : Str → Option Value} {base : Heap} {CX : CXT} {k : Nat} {x : Str} {st : Stmt} {ps N : List Str} {sp sp' : Sp}
theorem Def.fn (D : Def K mg x st ps) (h : ∀ f fd, Fun K x x st f fd → FnOk P w K mg base CX k f fd ps sp) : Fn P w K mg base CX k x ps sp := by
  obtain ⟨f, fd, F, hm, hb⟩ := D.ex
  exact ⟨f, fd, h f fd F, hm, F.kp, hb⟩
theorem Fn.mono {j : Nat} (G : Fn P w K mg base CX j x ps sp) (h : j ≤ k) : Fn P w K mg base CX k x ps sp := by
  obtain ⟨f, fd, F, r⟩ := G.ex
  exact ⟨f, fd, F.mono h, r⟩
theorem Fn.imp (G : Fn P w K mg base CX k x ps sp) (h : ∀ vs H Q E, sp' vs H Q E → sp vs H Q E) : Fn P w K mg base CX k x ps sp' := by
  obtain ⟨f, fd, F, r⟩ := G.ex
  exact ⟨f, fd, F.imp h, r⟩
/-- nothing can be asked -/
theorem Def.none (D : Def K mg x st ps) (no : ∀ vs H Q E, ¬ sp vs H Q E) : Fn P w K mg base CX 0 x ps sp :=
  D.fn fun _ _ _ => ⟨fun vs H Q E h => absurd h (no vs H Q E), fun A outer s H args us vs Q E _ _ _ _ h => absurd h (no vs H Q E)⟩
end
/-- f(..) -/
def tFn (sp : Sp) (E : XK) (t : TA) : TE := fun σ H Q => t σ H fun vs H1 => sp vs H1 Q E
section
variable {X : Cx} {CX : CXT} {k : Nat} {ps : List Str} {sp : Sp} {E : XK} {x : Str} {p pos : Pos} {e : Expr} {es : List Expr} {t : TA}
theorem tFn_eq : tCall sp [] E t = tFn sp E t := by
  funext σ H Q
  unfold tCall tFn
  have : (fun (vs : List V) H1 => sp (vs ++ []) H1 Q E) = fun vs H1 => sp vs H1 Q E := by
    funext vs H1
    rw [List.append_nil]
  rw [this]
theorem pe_fn (G : Fn X.prog X.w X.K X.mg X.base CX k x ps sp) (hr : Room k X.A) (hg : Gl X x) (hx : Passes CX X E) (ha : PA X (e :: es) t) (hdb : (x == ("__debug__" : Str)) = false := by decide)
    (he : starEach (e :: es) X.env = (false, eval e X.env) :: starEach es X.env := by rfl) (hpl : (backTo pos (starEach es X.env)).any (·.1) = false := by rfl) :
    PE X (.Call (.Name x p) (e :: es) [] pos) (tFn sp E t) := by
  obtain ⟨f, fd, F, hm, hk, hb⟩ := G.ex
  rw [← tFn_eq]
  exact pe_call F hr hg hm hk hb .nil hx ha hdb he hpl
/-- in a try's body: W tells what the slots are then -/
theorem pe_fnS {E : L2.St → XK} (G : Fn X.prog X.w X.K X.mg X.base CX k x ps sp) (hr : Room k X.A) (hg : Gl X x) (hx : ∀ σ, PassesAt CX X σ (E σ)) (ha : PA X (e :: es) t) (hdb : (x == ("__debug__" : Str)) = false := by decide)
    (he : starEach (e :: es) X.env = (false, eval e X.env) :: starEach es X.env := by rfl) (hpl : (backTo pos (starEach es X.env)).any (·.1) = false := by rfl) :
    PE X (.Call (.Name x p) (e :: es) [] pos) (tCallS sp E t) := by
  obtain ⟨f, fd, F, hm, hk, hb⟩ := G.ex
  exact pe_callS F hr hg hm hk hb hx ha hdb he hpl
end
/-- an own class of error over ValueError, without __init__, as the written part has it -/
structure ErrC (K : PySem.W.Frag) (mg : Str → Option Value) (x : Str) (C : Addr) : Prop where
  g : mg x = some (.ref C)
  x : PySem.W.excIn K C [.type "ValueError", .type "Exception", .type "BaseException", .type "object"] "ValueError.__new__" = true
  k : PySem.W.keepIn K (.ref C) = true
  b : PySem.W.subIn K (.ref C) (.type "BaseException") = some true
  t : PySem.W.typeIn K (.ref C) = some (.type "type")

end GW
namespace L2
open PySem PySem.Spec PyProof.Rows
/-! ### heaps -/
theorem Same.new {H : Hp} {p : Addr} {o : HO} (h : H p = none) : Same H (upd H p o) := fun b u q => by rw [upd_ne (ne_of_none q h)]; exact q
theorem Same.mut {H H' : Hp} {p : Addr} {o : HO} (e : Same H H') (h : H p = none) : Same H (upd H' p o) := fun a u ha => by
  rw [upd_ne (ne_of_none ha h)]
  exact e a u ha
theorem Same.rd {H H' : Hp} {a : Addr} {u : HO} (e : Same H H') (h : Rd H a u) : Rd H' a u := by
  rcases h with h | ⟨o, h⟩
  · exact .inl (e _ _ h)
  · exact .inr ⟨o, e _ _ h⟩
theorem Same.tup {K : PySem.W.Frag} {H H' : Hp} {a : Addr} {xs : List V} (e : Same H H') (h : SqT K H a xs) : SqT K H' a xs := by
  rcases h with h | h
  · exact .inl (e.rd h)
  · exact .inr h
end L2
namespace GW
open PySem PySem.Spec PyProof.Rows L2
theorem sz {n : Nat} (h : n ≤ 100000) : n ≤ sizeLine := Nat.le_trans h (by decide)
theorem szl {n : Nat} (h : n < 100000) : n < sizeLine := Nat.lt_of_lt_of_le h (by decide)

/-! ### Paired over lists -/
theorem Paired.len {α β : Type} {R : α → β → Prop} : ∀ {xs : List α} {ys : List β}, Paired R xs ys → xs.length = ys.length := fun r => Paired.length r
theorem Paired.at {α β : Type} {R : α → β → Prop} : ∀ {xs : List α} {ys : List β} {i : Nat} {x : α}, Paired R xs ys → xs[i]? = some x → ∃ y, ys[i]? = some y ∧ R x y
  | _, _, _, _, .nil, e => by simp at e
  | _, _, 0, _, .cons r _, e => by simp at e; subst e; exact ⟨_, rfl, r⟩
  | _, _, i + 1, x, .cons _ t, e => by
    obtain ⟨u, h1, h2⟩ := Paired.at (i := i) (x := x) t (by simpa using e)
    exact ⟨u, by simpa using h1, h2⟩
theorem Paired.at' {α β : Type} {R : α → β → Prop} : ∀ {xs : List α} {ys : List β} {i : Nat} {y : β}, Paired R xs ys → ys[i]? = some y → ∃ x, xs[i]? = some x ∧ R x y
  | _, _, _, _, .nil, e => by simp at e
  | _, _, 0, _, .cons r _, e => by simp at e; subst e; exact ⟨_, rfl, r⟩
  | _, _, i + 1, y, .cons _ t, e => by
    obtain ⟨u, h1, h2⟩ := Paired.at' (i := i) (y := y) t (by simpa using e)
    exact ⟨u, by simpa using h1, h2⟩
theorem Paired.imp {α β : Type} {R S : α → β → Prop} (h : ∀ x y, R x y → S x y) : ∀ {xs : List α} {ys : List β}, Paired R xs ys → Paired S xs ys
  | _, _, .nil => .nil
  | _, _, .cons r t => .cons (h _ _ r) (Paired.imp h t)
theorem Paired.snoc {α β : Type} {R : α → β → Prop} {x : α} {y : β} (q : R x y) : ∀ {xs : List α} {ys : List β}, Paired R xs ys → Paired R (xs ++ [x]) (ys ++ [y])
  | _, _, .nil => .cons q .nil
  | _, _, .cons r t => .cons r (Paired.snoc q t)
theorem Paired.app {α β : Type} {R : α → β → Prop} : ∀ {xs : List α} {ys : List β} {xs' : List α} {ys' : List β}, Paired R xs ys → Paired R xs' ys' → Paired R (xs ++ xs') (ys ++ ys')
  | _, _, _, _, .nil, q => q
  | _, _, _, _, .cons r t, q => .cons r (Paired.app t q)

/-! ### lists of truths -/
abbrev LB (bs : List Bool) : List V := bs.map V.bl
/-- v is a list of the truths bs -/
def IsB (K : PySem.W.Frag) (H : Hp) (v : V) (bs : List Bool) : Prop := ∃ a, v = .ref a ∧ SqL K H a (LB bs)
theorem IsB.mono {K : PySem.W.Frag} {H H' : Hp} {v : V} {bs : List Bool} (e : Same H H') (h : IsB K H v bs) : IsB K H' v bs := by
  obtain ⟨a, rfl, h⟩ := h
  exact ⟨a, rfl, e.seq h⟩
/-- v is a list of lists of truths -/
def IsBs (K : PySem.W.Frag) (H : Hp) (v : V) (gs : List (List Bool)) : Prop := ∃ a vs, v = .ref a ∧ SqL K H a vs ∧ Paired (IsB K H) vs gs
theorem IsBs.mono {K : PySem.W.Frag} {H H' : Hp} {v : V} {gs : List (List Bool)} (e : Same H H') (h : IsBs K H v gs) : IsBs K H' v gs := by
  obtain ⟨a, vs, rfl, h, p⟩ := h
  exact ⟨a, vs, rfl, e.seq h, Paired.imp (fun _ _ q => q.mono e) p⟩
theorem lb_at {bs : List Bool} {i : Nat} {b : Bool} (h : bs[i]? = some b) : (LB bs)[i]? = some (.bl b) := by
  rw [List.getElem?_map, h]; rfl
theorem lb_get {bs : List Bool} {i : Nat} (h : i < bs.length) : (LB bs)[i]? = some (.bl (bs.getD i false)) := by
  rw [List.getElem?_map, List.getElem?_eq_getElem h, List.getD_eq_getElem?_getD, List.getElem?_eq_getElem h]; rfl
theorem lb_of {bs : List Bool} {i : Nat} {x : V} (h : (LB bs)[i]? = some x) : i < bs.length ∧ x = .bl (bs.getD i false) := by
  rw [List.getElem?_map] at h
  cases e : bs[i]? with
  | none => rw [e] at h; cases h
  | some b =>
    rw [e] at h
    have hi := (List.getElem?_eq_some_iff.mp e).1
    refine ⟨hi, ?_⟩
    rw [List.getD_eq_getElem?_getD, e]
    exact (Option.some.inj h).symm
theorem lb_len {bs : List Bool} : (LB bs).length = bs.length := List.length_map _

theorem lb_app {bs : List Bool} {b : Bool} : LB (bs ++ [b]) = LB bs ++ [V.bl b] := List.map_append
theorem map_bl {n : Nat} {f : Nat → Bool} : (List.range n).map (fun i => V.bl (f i)) = LB ((List.range n).map f) := by
  unfold LB
  rw [List.map_map]
  rfl

/-! ### data -/
def dB (bs : List Bool) : PyData := .list (bs.map .bool)
def dBs (gs : List (List Bool)) : PyData := .list (gs.map dB)
theorem dpAll_lb {K : PySem.W.Frag} {H : Hp} : ∀ bs : List Bool, DpAll K H (LB bs) (bs.map .bool)
  | [] => .nil
  | b :: r => .cons (.bl b) (dpAll_lb r)
theorem IsB.dp {K : PySem.W.Frag} {H : Hp} {v : V} {bs : List Bool} (h : IsB K H v bs) : Dp K H v (dB bs) := by
  obtain ⟨a, rfl, h⟩ := h
  exact .lst h (dpAll_lb bs)
theorem dpAll_of {K : PySem.W.Frag} {H : Hp} {α : Type} {R : V → α → Prop} {f : α → PyData} (h : ∀ v a, R v a → Dp K H v (f a)) : ∀ {vs : List V} {as : List α}, Paired R vs as → DpAll K H vs (as.map f)
  | _, _, .nil => .nil
  | _, _, .cons r t => .cons (h _ _ r) (dpAll_of h t)
theorem IsBs.dp {K : PySem.W.Frag} {H : Hp} {v : V} {gs : List (List Bool)} (h : IsBs K H v gs) : Dp K H v (dBs gs) := by
  obtain ⟨a, vs, rfl, h, p⟩ := h
  exact .lst h (dpAll_of (fun _ _ q => q.dp) p)
/-- of a right shape: no text beyond what can be laid, at most n deep -/
def Shp (n : Nat) (d : PyData) : Prop := d.canLay0 = true ∧ d.depth ≤ n
theorem shp_all {n : Nat} : ∀ {ds : List PyData}, (∀ d ∈ ds, Shp n d) → PyData.canLayAll0 ds = true ∧ PyData.depthAll ds ≤ n
  | [], _ => ⟨by simp only [PyData.canLayAll0], by simp only [PyData.depthAll]; omega⟩
  | d :: r, h => by
    have h1 := h d List.mem_cons_self
    have h2 := shp_all fun x hx => h x (List.mem_cons_of_mem _ hx)
    refine ⟨?_, ?_⟩
    · simp only [PyData.canLayAll0, h1.1, h2.1, Bool.and_self]
    · simp only [PyData.depthAll]
      exact Nat.max_le.mpr ⟨h1.2, h2.2⟩
theorem shp_list {n : Nat} {ds : List PyData} (h : ∀ d ∈ ds, Shp n d) : Shp (n + 1) (.list ds) := by
  have q := shp_all h
  refine ⟨?_, ?_⟩
  · simp only [PyData.canLay0, q.1]
  · simp only [PyData.depth]
    exact Nat.succ_le_succ q.2
theorem shp_tuple {n : Nat} {ds : List PyData} (h : ∀ d ∈ ds, Shp n d) : Shp (n + 1) (.tuple ds) := by
  have q := shp_all h
  refine ⟨?_, ?_⟩
  · simp only [PyData.canLay0, q.1]
  · simp only [PyData.depth]
    exact Nat.succ_le_succ q.2
theorem Shp.mono {n m : Nat} {d : PyData} (h : Shp n d) (l : n ≤ m) : Shp m d := ⟨h.1, Nat.le_trans h.2 l⟩
theorem Shp.ok {n : Nat} {d : PyData} (h : Shp n d) (l : n ≤ 64) : SeqAt.shaped d = true := by
  unfold SeqAt.shaped
  rw [h.1, decide_eq_true (Nat.le_trans h.2 l)]
  rfl
theorem shp_bool {n : Nat} {b : Bool} : Shp n (.bool b) := ⟨by simp only [PyData.canLay0], by simp only [PyData.depth]; omega⟩
theorem shp_int {n : Nat} {b : Int} : Shp n (.int b) := ⟨by simp only [PyData.canLay0], by simp only [PyData.depth]; omega⟩
theorem shp_dB {bs : List Bool} : Shp 1 (dB bs) := shp_list (n := 0) fun d h => by
  obtain ⟨b, _, rfl⟩ := List.mem_map.mp h
  exact shp_bool
theorem shp_dBs {gs : List (List Bool)} : Shp 2 (dBs gs) := shp_list (n := 1) fun d h => by
  obtain ⟨b, _, rfl⟩ := List.mem_map.mp h
  exact shp_dB
/-! == of data -/
theorem eqv_list (as bs : List PyData) : PyData.eqv (.list as) (.list bs) = PyData.eqvAll as bs := by simp only [PyData.eqv]
theorem eqvAll_map {α : Type} [DecidableEq α] {f : α → PyData} (h : ∀ a b, PyData.eqv (f a) (f b) = decide (a = b)) : ∀ as bs : List α, PyData.eqvAll (as.map f) (bs.map f) = decide (as = bs)
  | [], [] => by simp [PyData.eqvAll]
  | [], _ :: _ => by simp [PyData.eqvAll]
  | _ :: _, [] => by simp [PyData.eqvAll]
  | a :: as, b :: bs => by
    rw [List.map_cons, List.map_cons]
    simp only [PyData.eqvAll]
    rw [h a b, eqvAll_map h as bs]
    by_cases e1 : a = b
    · by_cases e2 : as = bs
      · simp [e1, e2]
      · simp [e1, e2]
    · simp [e1]
theorem eqv_dB (a b : List Bool) : PyData.eqv (dB a) (dB b) = decide (a = b) := by
  unfold dB
  rw [eqv_list]
  exact eqvAll_map (fun x y => by simp only [PyData.eqv]; cases x <;> cases y <;> rfl) a b
theorem eqv_dBs (a b : List (List Bool)) : PyData.eqv (dBs a) (dBs b) = decide (a = b) := by
  unfold dBs
  rw [eqv_list]
  exact eqvAll_map eqv_dB a b
end GW
/-! ### the rules with the written part K named (within a comprehension the context is another, K is the same) -/
namespace GW
open PySem PySem.Spec PyProof.Rows L2
section
variable {K : PySem.W.Frag} {X : Cx}
theorem ixL (h : X.K = K := by rfl) : IxR X (rIxL K) := h ▸ ix_list
theorem ixT (h : X.K = K := by rfl) : IxR X (rIxT K) := h ▸ ix_tup
theorem lenS (h : X.K = K := by rfl) : CallR X (.builtin "len") (Evl.rLenS K) := h ▸ call_len_seq
theorem listOf (h : X.K = K := by rfl) : CallR X (.type "list") (Evl.rListS K) := h ▸ call_list_of
def rTupS (K : PySem.W.Frag) : List V → Hp → VK → Prop := fun xs H Q => ∃ p ys, xs = [.ref p] ∧ ((SqL K H p ys ∧ ∀ l, H l = none → Q (.ref l) (upd H l (.tup ys))) ∨ (SqT K H p ys ∧ Q (.ref p) H))
theorem tupOf (h : X.K = K := by rfl) : CallR X (.type "tuple") (rTupS K) := h ▸ call_tuple_of
theorem inS (h : X.K = K := by rfl) : OpR X (compareOp .In) (rIn K false) := h ▸ op_in_seq
theorem notInS (h : X.K = K := by rfl) : OpR X (compareOp .NotIn) (rIn K true) := h ▸ op_notIn_seq
theorem eqD (hu : X.A.units + 64 < cLine) (h : X.K = K := by rfl) : OpR X (compareOp .Eq) (rEqD K) := h ▸ op_eqD hu
theorem neD (hu : X.A.units + 64 < cLine) (h : X.K = K := by rfl) : OpR X (compareOp .NotEq) (rNeD K) := h ▸ op_neD hu
theorem sumS (hc : X.calm = true) (h : X.K = K := by rfl) : CallR X (.builtin "sum") (rSum K) := h ▸ cr_sum hc
theorem allS (hc : X.calm = true) (h : X.K = K := by rfl) : CallR X (.builtin "all") (rAll K) := h ▸ cr_all hc
theorem anyS (hc : X.calm = true) (h : X.K = K := by rfl) : CallR X (.builtin "any") (rAny K) := h ▸ cr_any hc
theorem isiS (h : X.K = K := by rfl) : CallR X (.builtin "isinstance") (rIsi K) := h ▸ call_isi
theorem piL {tg l : Expr} {tl : TE} (hl : PE X l tl) (h : X.K = K := by rfl) : PI X tg l (iList K tl) := h ▸ pi_list hl
theorem piT {tg l : Expr} {tl : TE} (hl : PE X l tl) (h : X.K = K := by rfl) : PI X tg l (iTup K tl) := h ▸ pi_tup hl
end
end GW
/-! ### comprehensions whose elements are plain values -/
namespace GW
open PySem PySem.Spec PyProof.Rows L2
section
variable {K : PySem.W.Frag} {σ : L2.St} {H : Hp} {te : TE} {t : TT} {Q : VK}
/-- over range(n) -/
theorem lcR1 {ta : TA} {j : Nat} {vs : List Nat} (n : Int) (f : Nat → Bool) (v : Nat → V) (hn : 0 ≤ n ∧ n ≤ 40000) (h : Evl.EvA ta σ H [.int n]) (hw : ∀ x, wipe ((wipe σ vs).set j (some x)) vs = wipe σ vs)
    (ht : ∀ (i : Nat) H1, Same H H1 → (i : Int) < n → Evl.EvT t ((wipe σ vs).set j (some (.int (i : Int)))) H1 (f i)) (he : ∀ (i : Nat) H1, Same H H1 → (i : Int) < n → f i = true → Evl.Ev te ((wipe σ vs).set j (some (.int (i : Int)))) H1 (v i))
    (q : ∀ p H', H p = none → Same H H' → H' p = some (.lst (Evl.given n.toNat f v)) → Q (.ref p) H') : tLc (iRng1 ta) (gName j) t te vs σ H Q :=
  Evl.el_lcR1 f v h hn hw ht he H (Same.refl H) Q q
/-- over a list -/
theorem lcL {a : Addr} {xs : List V} {tl : TE} {j : Nat} {vs : List Nat} (f : Nat → Bool) (v : Nat → V) (hx : SqL K H a xs) (hz : xs.length ≤ 40000) (h : Evl.Ev tl σ H (.ref a)) (hw : ∀ x, wipe ((wipe σ vs).set j (some x)) vs = wipe σ vs)
    (ht : ∀ (i : Nat) (x : V) H1, Same H H1 → xs[i]? = some x → Evl.EvT t ((wipe σ vs).set j (some x)) H1 (f i)) (he : ∀ (i : Nat) (x : V) H1, Same H H1 → xs[i]? = some x → f i = true → Evl.Ev te ((wipe σ vs).set j (some x)) H1 (v i))
    (q : ∀ p H', H p = none → Same H H' → H' p = some (.lst (Evl.given xs.length f v)) → Q (.ref p) H') : tLc (iList K tl) (gName j) t te vs σ H Q :=
  Evl.el_lcL f v h hx hz hw ht he H (Same.refl H) Q q
theorem et_yes : Evl.EvT tYes σ H true := fun H1 _ _ q => q H1 (Evl.Ex.refl H1)
theorem given_all {n : Nat} {f : Nat → Bool} {v : Nat → V} (h : ∀ i, i < n → f i = true) : Evl.given n f v = (List.range n).map v := by
  unfold Evl.given
  rw [List.filter_eq_self.mpr fun i hi => h i (List.mem_range.mp hi)]
end
end GW
/-! ### readings opened one word at a time -/
namespace GW
open PySem PySem.Spec PyProof.Rows L2
section
variable {K : PySem.W.Frag} {σ : L2.St} {H : Hp} {te ta tb : TE} {tr t : TA} {c : TT} {ts tu : TS} {Q : VK} {D : Ends} {i : Nat}
theorem rd_ret (h : te σ H D.rt) : tRet te D σ H := h
theorem rd_cb {r : List V → Hp → VK → Prop} (h : t σ H fun vs H1 => r vs H1 Q) : tCB r t σ H Q := h
theorem rd_cons {Q : List V → Hp → Prop} (h : te σ H fun x H1 => tr σ H1 fun xs H2 => Q (x :: xs) H2) : tCons te tr σ H Q := h
theorem rd_nil {Q : List V → Hp → Prop} (h : Q [] H) : tNil σ H Q := h
theorem rd_set (h : te σ H fun x H1 => D.nx (σ.set i (some x)) H1) : tAsg te (gName i) D σ H := h
theorem rd_drop (h : te σ H fun _ H1 => D.nx σ H1) : tDrop te D σ H := h
theorem rd_op {r : R2} (h : ta σ H fun x H1 => tb σ H1 fun y H2 => r x y H2 Q) : tOp r ta tb σ H Q := h
theorem rd_fn {sp : Sp} {E : XK} (h : t σ H fun vs H1 => sp vs H1 Q E) : tFn sp E t σ H Q := h
theorem rd_seq (h : ts { D with nx := tu D } σ H) : tSeq ts tu D σ H := h
theorem rd_if (h : c σ H fun b H1 => if b = true then ts D σ H1 else tu D σ H1) : tIfS c ts tu D σ H := h
theorem rd_test {Q : Bool → Hp → Prop} (h : te σ H fun x H' => ∃ k, x = .bl k ∧ Q k H') : tTest te σ H Q := h
theorem rd_B {Q : Bool → Hp → Prop} (h : te σ H fun x H' => ∃ k, x = .bl k ∧ Q k H') : tB te σ H Q := h
theorem rd_lst (h : t σ H fun xs H1 => xs.length ≤ sizeLine ∧ ∀ p, H1 p = none → Q (.ref p) (upd H1 p (.lst xs))) : tLst t σ H Q := h
theorem rd_tup (h : t σ H fun xs H1 => xs.length ≤ sizeLine ∧ ∀ p, H1 p = none → Q (.ref p) (upd H1 p (.tup xs))) : tTup t σ H Q := h
theorem rd_not {Q : Bool → Hp → Prop} (h : c σ H fun b H1 => Q (!b) H1) : tNot c σ H Q := h
theorem rd_bm {T : String} {r : V → List V → Hp → VK → Prop} (h : ta σ H fun x H1 => tyV K T x H1 ∧ t σ H1 fun xs H2 => r x xs H2 Q) : tBM K T r ta t σ H Q := h
theorem rd_forR1 {g : TG} (h : t σ H fun vs H1 => ∃ j : Int, vs = [.int j] ∧ -(2 ^ 62) ≤ j ∧ j < 2 ^ 62 ∧ ∃ W : Nat → Nat → L2.St → Hp → Prop, (∃ m, W 0 m σ H1) ∧ ∀ i m σ H, W i m σ H →
  ((Itr 0 j.toNat).stop i H ∧ D.nx σ H) ∨ ((Itr 0 j.toNat).go i H ∧ ∃ N : L2.St → Hp → Prop, (∀ σ' H', N σ' H' → ∃ m', m' < m ∧ W (i + 1) m' σ' H') ∧ ∀ x H', (Itr 0 j.toNat).yld i H x H' → g x σ H' fun σ2 H2 => ts { D with nx := N, ct := N, bk := D.nx } σ2 H2)) : tFor (iRng1 t) g ts D σ H := h
end
end GW
/-! ### lists of lists that a def grows at r -/
namespace GW
open PySem PySem.Spec PyProof.Rows L2
theorem rd_upd {H : Hp} {a r : Addr} {u o : HO} (n : a ≠ r) (h : Rd H a u) : Rd (upd H r o) a u := by
  rcases h with h | ⟨z, h⟩
  · exact .inl (by rw [upd_ne n]; exact h)
  · exact .inr ⟨z, by rw [upd_ne n]; exact h⟩
theorem sql_upd {K : PySem.W.Frag} {H : Hp} {a r : Addr} {xs : List V} {o : HO} (n : a ≠ r) (h : SqL K H a xs) : SqL K (upd H r o) a xs := by
  rcases h with h | h
  · exact .inl (rd_upd n h)
  · exact .inr h
theorem sqt_upd {K : PySem.W.Frag} {H : Hp} {a r : Addr} {xs : List V} {o : HO} (n : a ≠ r) (h : SqT K H a xs) : SqT K (upd H r o) a xs := by
  rcases h with h | h
  · exact .inl (rd_upd n h)
  · exact .inr h
/-- a list of truths elsewhere than at r -/
def IsBN (K : PySem.W.Frag) (r : Addr) (H : Hp) (v : V) (bs : List Bool) : Prop := ∃ a, v = .ref a ∧ a ≠ r ∧ SqL K H a (LB bs)
theorem IsBN.isB {K : PySem.W.Frag} {r : Addr} {H : Hp} {v : V} {bs : List Bool} (h : IsBN K r H v bs) : IsB K H v bs := by
  obtain ⟨a, e, _, h⟩ := h
  exact ⟨a, e, h⟩
theorem IsBN.mono {K : PySem.W.Frag} {r : Addr} {H H' : Hp} {v : V} {bs : List Bool} (s : Same H H') (h : IsBN K r H v bs) : IsBN K r H' v bs := by
  obtain ⟨a, e, n, h⟩ := h
  exact ⟨a, e, n, s.seq h⟩
theorem IsBN.upd {K : PySem.W.Frag} {r : Addr} {H : Hp} {v : V} {bs : List Bool} {o : HO} (h : IsBN K r H v bs) : IsBN K r (upd H r o) v bs := by
  obtain ⟨a, e, n, h⟩ := h
  exact ⟨a, e, n, sql_upd n h⟩
/-- behind a step that leaves all as it was but the new list at r -/
theorem Same.step {H0 H H' : Hp} {r : Addr} {o : HO} (s : Same H0 H) (s2 : Same H H') (nr : H0 r = none) : Same H0 (L2.upd H' r o) := fun b u e => by
  rw [upd_ne (ne_of_none e nr)]
  exact s2 _ _ (s _ _ e)
end GW
/-! ### isinstance -/
namespace GW
open PySem PySem.Spec PyProof.Rows L2
section
variable {K : PySem.W.Frag} {H : Hp} {Q : VK}
theorem isi_bool {b : Bool} (h : Q (.bl true) H) : rIsi K [.bl b, .ty "bool"] H Q := ⟨_, _, _, _, true, rfl, .ty _, .base (.bl b), kit_ty (a := "bool") (b := "bool") (by decide +kernel), h⟩
theorem isi_int_bool {i : Int} (h : Q (.bl false) H) : rIsi K [.int i, .ty "bool"] H Q := ⟨_, _, _, _, false, rfl, .ty _, .base (.int i), kit_ty (a := "int") (b := "bool") (by decide +kernel), h⟩
theorem isi_int {i : Int} (h : Q (.bl true) H) : rIsi K [.int i, .ty "int"] H Q := ⟨_, _, _, _, true, rfl, .ty _, .base (.int i), kit_ty (a := "int") (b := "int") (by decide +kernel), h⟩
theorem isi_str {x : Str} (h : Q (.bl true) H) : rIsi K [.str x, .ty "str"] H Q := ⟨_, _, _, _, true, rfl, .ty _, .base (.str x), kit_ty (a := "str") (b := "str") (by decide +kernel), h⟩
theorem isi_list {a : Addr} {xs : List V} (e : H a = some (.lst xs)) (h : Q (.bl true) H) : rIsi K [.ref a, .ty "list"] H Q := ⟨_, _, _, _, true, rfl, .ty _, .base (.lst e), kit_ty (a := "list") (b := "list") (by decide +kernel), h⟩
theorem isi_tuple {a : Addr} {xs : List V} (e : H a = some (.tup xs)) (h : Q (.bl true) H) : rIsi K [.ref a, .ty "tuple"] H Q := ⟨_, _, _, _, true, rfl, .ty _, .base (.tup e), kit_ty (a := "tuple") (b := "tuple") (by decide +kernel), h⟩
theorem isi_none {t : String} (hk : kitB "NoneType" t = some false) (h : Q (.bl false) H) : rIsi K [.non, .ty t] H Q := ⟨_, _, _, _, false, rfl, .ty _, .base .non, kit_ty hk, h⟩
end
/-- [a, b] of two data -/
theorem dp_two {K : PySem.W.Frag} {H : Hp} {p : Addr} {x y : V} {d e : PyData} (h : SqL K H p [x, y]) (hx : Dp K H x d) (hy : Dp K H y e) : Dp K H (.ref p) (.list [d, e]) := .lst h (.cons hx (.cons hy .nil))
theorem shp_two {n : Nat} {d e : PyData} (hd : Shp n d) (he : Shp n e) : Shp (n + 1) (.list [d, e]) := shp_list fun x h => by
  rcases List.mem_cons.mp h with h | h
  · rw [h]; exact hd
  · rw [List.mem_singleton.mp h]; exact he
theorem eqv_two (a b c d : PyData) : PyData.eqv (.list [a, b]) (.list [c, d]) = (PyData.eqv a c && (PyData.eqv b d && true)) := by
  rw [eqv_list]
  simp only [PyData.eqvAll]
theorem eqv_same {n : Nat} {d : PyData} (h : Shp n d) : PyData.eqv d d = true := SeqAt.eqv_refl d h.1
end GW
namespace GW
open PySem PySem.Spec PyProof.Rows L2
section
variable {K : PySem.W.Frag}
theorem kBB : PySem.W.kitOne K (.type "bool") (.type "bool") = some true := kit_ty (by decide +kernel)
theorem kIB : PySem.W.kitOne K (.type "int") (.type "bool") = some false := kit_ty (by decide +kernel)
theorem kII : PySem.W.kitOne K (.type "int") (.type "int") = some true := kit_ty (by decide +kernel)
theorem kSS : PySem.W.kitOne K (.type "str") (.type "str") = some true := kit_ty (by decide +kernel)
theorem kLL : PySem.W.kitOne K (.type "list") (.type "list") = some true := kit_ty (by decide +kernel)
theorem kTT : PySem.W.kitOne K (.type "tuple") (.type "tuple") = some true := kit_ty (by decide +kernel)
end
end GW
/-! ### walks of known length, whatever is walked -/
namespace GW
open PySem PySem.Spec PyProof.Rows L2
/-- over any heap that extends H1 the iterator J yields it 0 .. it (n - 1), and stops -/
structure Wk (J : It) (H1 : Hp) (n : Nat) (it : Nat → V) : Prop where
  go : ∀ i H, Same H1 H → i < n → J.go i H
  yl : ∀ i H v H', Same H1 H → i < n → J.yld i H v H' → H' = H ∧ v = it i
  st : ∀ H, Same H1 H → J.stop n H
def itOf (xs : List V) (i : Nat) : V := xs.getD i .non
theorem itOf_at {xs : List V} {i : Nat} (h : i < xs.length) : xs[i]? = some (itOf xs i) := by
  unfold itOf
  rw [List.getD_eq_getElem?_getD, List.getElem?_eq_getElem h]
  rfl
section
variable {K : PySem.W.Frag} {H1 : Hp} {a : Addr} {xs : List V}
theorem wk_list (h : SqL K H1 a xs) : Wk (Itl K a) H1 xs.length (itOf xs) where
  go := fun i H s hi => ⟨xs, _, s.seq h, itOf_at hi⟩
  yl := fun i H v H' s hi y => ⟨y.1, Option.some.inj ((y.2 xs (s.seq h)).symm.trans (itOf_at hi))⟩
  st := fun H s => ⟨xs, s.seq h, Nat.le_refl _⟩
theorem wk_tup (h : SqT K H1 a xs) : Wk (Itt K a) H1 xs.length (itOf xs) where
  go := fun i H s hi => ⟨xs, _, s.tup h, itOf_at hi⟩
  yl := fun i H v H' s hi y => ⟨y.1, Option.some.inj ((y.2 xs (s.tup h)).symm.trans (itOf_at hi))⟩
  st := fun H s => ⟨xs, s.tup h, Nat.le_refl _⟩
theorem wk_rng {n : Nat} : Wk (Itr 0 n) H1 n (fun i => .int (i : Int)) where
  go := fun i H s hi => hi
  yl := fun i H v H' s hi y => ⟨y.1, y.2.trans (by rw [Int.zero_add])⟩
  st := fun H s => Nat.le_refl _
theorem wk_rev (h : SqL K H1 a xs) : Wk (Itv K a xs.length) H1 xs.length (fun i => itOf xs (xs.length - 1 - i)) where
  go := fun i H s hi => ⟨hi, xs, _, s.seq h, itOf_at (by omega)⟩
  yl := fun i H v H' s hi y => ⟨y.1, Option.some.inj ((y.2 xs (s.seq h)).symm.trans (itOf_at (by omega)))⟩
  st := fun H s => Nat.le_refl _
end
section
variable {J : It} {H1 : Hp} {n : Nat} {it : Nat → V} {te : TE} {t : TT} {vs : List Nat} {j : Nat} {σ : L2.St}
/-- a comprehension, its elements told by a relation (D: the new list) -/
theorem lc_R (W : Wk J H1 n it) (f : Nat → Bool) (R : Addr → Nat → V → Hp → Prop) (mono : ∀ D i v H H', Same H H' → R D i v H → R D i v H')
    (hupd : ∀ D i v H acc acc', H D = some (.lst acc) → R D i v H → R D i v (upd H D (.lst acc'))) (hn : n ≤ 40000) (hw : ∀ x, wipe ((wipe σ vs).set j (some x)) vs = wipe σ vs)
    (ht : ∀ (i : Nat) H, Same H1 H → i < n → Evl.EvT t ((wipe σ vs).set j (some (it i))) H (f i))
    (he : ∀ D (i : Nat) H acc (Q : VK), Same H1 H → H D = some (.lst acc) → i < n → f i = true → (∀ v H3, Same H H3 → R D i v H3 → Q v H3) → te ((wipe σ vs).set j (some (it i))) H Q)
    {Qd : Addr → Hp → Prop} (q : ∀ D H' ys, H1 D = none → Same H1 H' → H' D = some (.lst ys) → Paired (fun v i => R D i v H') ys ((List.range n).filter f) → Qd D H') :
    ∀ D, H1 D = none → ∃ W : Nat → Nat → Hp → Prop, (∃ m, W 0 m (upd H1 D (.lst []))) ∧ ∀ i m H, W i m H →
      (J.stop i H ∧ Qd D H) ∨ (J.go i H ∧ ∃ Nx : Hp → Prop, (∀ H', Nx H' → ∃ m', m' < m ∧ W (i + 1) m' H') ∧ ∀ x H', J.yld i H x H' → gName j x (wipe σ vs) H' fun σ2 H2 => wipe σ2 vs = wipe σ vs ∧ t σ2 H2 fun b H3 =>
        if b = true then te σ2 H3 fun y H4 => ∃ acc, H4 D = some (.lst acc) ∧ acc.length < sizeLine ∧ Nx (upd H4 D (.lst (acc ++ [y]))) else Nx H3) := by
  intro D hD
  have flt : ∀ i, (List.range (i + 1)).filter f = (List.range i).filter f ++ (if f i = true then [i] else []) := fun i => by
    rw [List.range_succ, List.filter_append, List.filter_cons, List.filter_nil]
  refine ⟨fun i m H => m = n - i ∧ i ≤ n ∧ Same H1 H ∧ ∃ ys, H D = some (.lst ys) ∧ Paired (fun v i => R D i v H) ys ((List.range i).filter f), ⟨n, rfl, Nat.zero_le _, Same.new hD, [], upd_same, .nil⟩, ?_⟩
  rintro i m H ⟨rfl, hi, sm, ys, eD, pr⟩
  by_cases hlt : i < n
  · refine .inr ⟨W.go i H sm hlt, fun H' => Same H1 H' ∧ ∃ ys, H' D = some (.lst ys) ∧ Paired (fun v i => R D i v H') ys ((List.range (i + 1)).filter f), fun H' ⟨a, b⟩ => ⟨n - (i + 1), by omega, rfl, hlt, a, b⟩, fun x H' y => ?_⟩
    obtain ⟨rfl, rfl⟩ := W.yl i H x H' sm hlt y
    have hys : ys.length < 50000 := by
      rw [Paired.len pr]
      refine Nat.lt_of_le_of_lt (List.length_filter_le _ _) ?_
      rw [List.length_range]; omega
    refine ⟨hw _, ht i H' sm hlt H' (Evl.Ex.refl _) _ fun H3 e3 => ?_⟩
    have e3' : Same H' H3 := e3
    cases hf : f i with
    | false =>
      refine iteF ⟨sm.trans e3', ys, e3 _ _ eD, ?_⟩
      rw [flt, hf]
      rw [if_neg (by decide), List.append_nil]
      exact Paired.imp (fun _ _ z => mono _ _ _ _ _ e3' z) pr
    | true =>
      refine iteT (he D i H3 ys _ (sm.trans e3') (e3 _ _ eD) hlt hf fun v H4 s4 r4 => ⟨ys, s4 _ _ (e3 _ _ eD), szl (by omega), ?_, ys ++ [v], upd_same, ?_⟩)
      · exact ((sm.trans e3').trans s4).mut hD
      · rw [flt, hf, if_pos rfl]
        exact Paired.snoc (R := fun u k => R D k u (upd H4 D (.lst (ys ++ [v])))) (hupd _ _ _ _ _ _ (s4 _ _ (e3 _ _ eD)) r4) (Paired.imp (fun _ _ z => hupd _ _ _ _ _ _ (s4 _ _ (e3 _ _ eD)) (mono _ _ _ _ _ s4 (mono _ _ _ _ _ e3' z))) pr)
  · have e : i = n := by omega
    subst e
    exact .inl ⟨W.st H sm, q D H ys hD sm eD pr⟩
/-- .. its elements plain values -/
theorem lc_P (W : Wk J H1 n it) (f : Nat → Bool) (val : Nat → V) (hn : n ≤ 40000) (hw : ∀ x, wipe ((wipe σ vs).set j (some x)) vs = wipe σ vs)
    (ht : ∀ (i : Nat) H, Same H1 H → i < n → Evl.EvT t ((wipe σ vs).set j (some (it i))) H (f i))
    (he : ∀ (i : Nat) H, Same H1 H → i < n → f i = true → Evl.Ev te ((wipe σ vs).set j (some (it i))) H (val i))
    {Qd : Addr → Hp → Prop} (q : ∀ D H', H1 D = none → Same H1 H' → H' D = some (.lst (Evl.given n f val)) → Qd D H') :
    ∀ D, H1 D = none → ∃ W : Nat → Nat → Hp → Prop, (∃ m, W 0 m (upd H1 D (.lst []))) ∧ ∀ i m H, W i m H →
      (J.stop i H ∧ Qd D H) ∨ (J.go i H ∧ ∃ Nx : Hp → Prop, (∀ H', Nx H' → ∃ m', m' < m ∧ W (i + 1) m' H') ∧ ∀ x H', J.yld i H x H' → gName j x (wipe σ vs) H' fun σ2 H2 => wipe σ2 vs = wipe σ vs ∧ t σ2 H2 fun b H3 =>
        if b = true then te σ2 H3 fun y H4 => ∃ acc, H4 D = some (.lst acc) ∧ acc.length < sizeLine ∧ Nx (upd H4 D (.lst (acc ++ [y]))) else Nx H3) := by
  refine lc_R W f (fun _ i v _ => v = val i) (fun _ _ _ _ _ _ z => z) (fun _ _ _ _ _ _ _ z => z) hn hw ht (fun D i H acc Q s _ hi hf k => he i H s hi hf H (Evl.Ex.refl _) Q fun H2 e2 => k _ H2 e2 rfl) fun D H' ys hD s e pr => q D H' hD s ?_
  rw [e]
  congr 2
  unfold Evl.given
  have : ∀ {ys : List V} {l : List Nat}, Paired (fun v i => v = val i) ys l → ys = l.map val := fun {ys l} p => by
    induction p with
    | nil => rfl
    | cons a _ ih => rw [List.map_cons, ← ih, ← a]
  exact this pr
end
end GW
/-! ### a slice of a tuple from its beginning -/
namespace GW
open PySem PySem.Spec PyProof.Rows L2
theorem slA {K : PySem.W.Frag} {X : Cx} (h : X.K = K := by rfl) : SlR X (rSlA K) := h ▸ sl_tupA
theorem sl_take {K : PySem.W.Frag} {H : Hp} {a : Addr} {xs : List V} {k : Nat} {Q : VK} (h : SqT K H a xs) (hk : k ≤ xs.length) (q : ∀ t H', Same H H' → SqT K H' t (xs.take k) → Q (.ref t) H') : rSlA K (.ref a) none (some (k : Int)) H Q := by
  have e0 : HT.sIx xs.length 0 none = 0 := rfl
  have e1 : HT.sIx xs.length xs.length (some (k : Int)) = k := by rw [HT.sIx_nat]; exact Nat.min_eq_left hk
  refine ⟨a, xs, rfl, h, fun hw => ?_, fun _ p np => ?_⟩
  · rw [e1] at hw
    refine q a H (Same.refl H) ?_
    rw [hw.2, List.take_length]
    exact h
  · refine q p _ (Same.new np) (SqT.of ?_)
    rw [upd_same]
    unfold cutV
    rw [e0, e1, List.drop_zero, Nat.sub_zero]
/-- a slice of a list from its beginning: a new list -/
theorem sl_takeL {K : PySem.W.Frag} {xs : List V} {k : Nat} (hk : k ≤ xs.length) : cutV xs none (some (k : Int)) = xs.take k := by
  have e0 : HT.sIx xs.length 0 none = 0 := rfl
  have e1 : HT.sIx xs.length xs.length (some (k : Int)) = k := by rw [HT.sIx_nat]; exact Nat.min_eq_left hk
  unfold cutV
  rw [e0, e1, List.drop_zero, Nat.sub_zero]
end GW
namespace GW
open PySem PySem.Spec PyProof.Rows L2
/-- an index below nought -/
theorem atI_neg {α : Type} {xs : List α} {i : Int} {j : Nat} {v : α} (h : i < 0) (e : i + (xs.length : Int) = (j : Int)) (hv : xs[j]? = some v) : atI xs i = some v := by
  have hj : j < xs.length := (List.getElem?_eq_some_iff.mp hv).1
  have q : ixN xs.length i = some j := by
    unfold ixN
    rw [if_neg (by omega), if_pos (by omega)]
    congr 1
    omega
  unfold atI
  rw [q]
  exact hv
end GW
namespace GW
open PySem PySem.Spec PyProof.Rows L2
theorem Paired.map {α β γ : Type} {R : α → γ → Prop} {f : β → γ} : ∀ {xs : List α} {ys : List β}, Paired (fun x y => R x (f y)) xs ys → Paired R xs (ys.map f)
  | _, _, .nil => .nil
  | _, _, .cons r t => .cons r (Paired.map t)
end GW
set_option Elab.async false
set_option linter.all false
set_option maxRecDepth 100000
set_option maxHeartbeats 4000000
/-! Promises and plain functions of the gates' defs; no row. -/
namespace GW
open PySem PySem.Spec PyProof.Rows L2
def okLen (n : Nat) : Bool := n == 2 || n == 4 || n == 8
/-- the names of built-ins that the text leaves alone -/
structure Bl (mg : Str → Option Value) : Prop where
  len : mg "len" = none
  sum : mg "sum" = none
  range : mg "range" = none
  list : mg "list" = none
  tuple : mg "tuple" = none
  isinstance : mg "isinstance" = none
  bool : mg "bool" = none
  int : mg "int" = none
  str : mg "str" = none
  all : mg "all" = none
  any : mg "any" = none
  reversed : mg "reversed" = none
  sorted : mg "sorted" = none
  min : mg "min" = none
  max : mg "max" = none
  dict : mg "dict" = none
/-- the row of some inputs -/
def rowOf : List Bool → Nat
  | [] => 0
  | b :: r => (if b then 1 else 0) + 2 * rowOf r
def wideN (n : Nat) : Nat := if n = 2 then 1 else if n = 4 then 2 else 3
/-- a new list -/
def NewL (H H' : Hp) (v : V) (xs : List V) : Prop := ∃ p, v = .ref p ∧ H p = none ∧ Same H H' ∧ H' p = some (.lst xs)
theorem NewL.isB {K : PySem.W.Frag} {H H' : Hp} {v : V} {bs : List Bool} (h : NewL H H' v (LB bs)) : IsB K H' v bs := by
  obtain ⟨p, rfl, _, _, e⟩ := h
  exact ⟨p, rfl, .inl (.inl e)⟩
def sp_ask_gate (K : PySem.W.Frag) (C : Addr) : Sp := fun vs H Q E => ∃ v g, vs = [v] ∧ IsB K H v g ∧
  (okLen g.length = true → ∀ H', Same H H' → Q .non H') ∧ (okLen g.length = false → ∀ H', Same H H' → E (.ref C) none H')
def sp_row_of (K : PySem.W.Frag) : Sp := fun vs H Q _ => ∃ v g, vs = [v] ∧ IsB K H v g ∧ g.length ≤ 3 ∧ ∀ H', Same H H' → Q (.int (rowOf g)) H'
def sp_answer (K : PySem.W.Frag) (C : Addr) : Sp := fun vs H Q E => ∃ x y g ins, vs = [x, y] ∧ IsB K H x g ∧ IsB K H y ins ∧
  (okLen g.length = true → ins.length = wideN g.length ∧ ∀ H', Same H H' → Q (.bl (g.getD (rowOf ins) false)) H') ∧ (okLen g.length = false → ∀ H', Same H H' → E (.ref C) none H')
def sp_cell_at (K : PySem.W.Frag) : Sp := fun vs H Q _ => ∃ (a : Addr) (ns : List Int) (k : Nat), vs = [.ref a, .int k] ∧ SqL K H a (ns.map V.int) ∧ ∀ z : Int, Q (.int z) H
def sp_next : Sp := fun vs H Q _ => ∃ z : Int, vs = [.int z] ∧ ∀ n : Int, 0 ≤ n → n < 2147483629 → Q (.int n) H
def sp_law_gate (m : Nat) : Sp := fun vs H Q _ => ∃ z : Int, vs = [.int z, .int m] ∧ 0 ≤ z ∧ 1 ≤ m ∧ m ≤ 3 ∧ ∀ v H' g, okLen g.length = true → wideN g.length ≤ m → NewL H H' v (LB g) → Q v H'
def sp_wide (K : PySem.W.Frag) : Sp := fun vs H Q _ => ∃ v g, vs = [v] ∧ IsB K H v g ∧ okLen g.length = true ∧ ∀ H', Same H H' → Q (.int (wideN g.length)) H'
/-- all rows of m inputs, as a law goes through them -/
def rowAt (m r : Nat) : List Bool := (List.range m).map fun k => r / 2 ^ k % 2 == 1
def rowsN (m : Nat) : List (List Bool) := (List.range (2 ^ m)).map (rowAt m)
def sp_law_rows (K : PySem.W.Frag) : Sp := fun vs H Q _ => ∃ m : Nat, vs = [.int m] ∧ 1 ≤ m ∧ m ≤ 3 ∧ ∀ v H', Same H H' → (∃ p us, v = .ref p ∧ H p = none ∧ H' p = some (.lst us) ∧ Paired (IsB K H') us (rowsN m)) → Q v H'
/-- what law(script) promises -/
def spLaw (K : PySem.W.Frag) : Sp := fun vs H Q _ => ∃ (a : Addr) (ns : List Int), vs = [.ref a] ∧ SqL K H a (ns.map V.int) ∧ ns.length ≤ 63 ∧ ∀ H', Q (.bl true) H'
theorem three (P : Int → Prop) (h1 : P 1) (h2 : P 2) (h3 : P 4) : ∀ k : Nat, k < 3 → ∃ v : Int, ([V.int 1, V.int 2, V.int 4] : List V)[k]? = some (.int v) ∧ v = 2 ^ k ∧ P v
  | 0, _ => ⟨1, rfl, rfl, h1⟩
  | 1, _ => ⟨2, rfl, rfl, h2⟩
  | 2, _ => ⟨4, rfl, rfl, h3⟩
  | k + 3, h => by omega
end GW
namespace GW
open PySem PySem.Spec PyProof.Rows L2
theorem inV_len (n : Nat) : inV (V.int (n : Int)) [V.int 2, V.int 4, V.int 8] = okLen n := by
  have h : ∀ m : Nat, eqV (V.int (m : Int)) (V.int (n : Int)) = (n == m) := fun m => by
    show decide ((m : Int) = (n : Int)) = decide (n = m)
    by_cases e : n = m
    · rw [decide_eq_true e, decide_eq_true (by omega)]
    · rw [decide_eq_false e, decide_eq_false (by omega)]
  show ([V.int 2, V.int 4, V.int 8].any fun y => eqV y (V.int (n : Int))) = okLen n
  rw [List.any_cons, List.any_cons, List.any_cons, List.any_nil]
  have h2 := h 2; have h4 := h 4; have h8 := h 8
  rw [show (V.int 2) = V.int ((2 : Nat) : Int) from rfl, show (V.int 4) = V.int ((4 : Nat) : Int) from rfl, show (V.int 8) = V.int ((8 : Nat) : Int) from rfl, h2, h4, h8]
  unfold okLen
  cases (n == 2) <;> cases (n == 4) <;> cases (n == 8) <;> rfl
end GW
namespace GW
open PySem PySem.Spec PyProof.Rows L2
theorem wide_le (n : Nat) : wideN n ≤ 3 := by
  unfold wideN
  split
  · omega
  · split <;> omega
theorem wide_pos (n : Nat) : 1 ≤ wideN n := by
  unfold wideN
  split
  · omega
  · split <;> omega
theorem okLen_cases {n : Nat} (h : okLen n = true) : n = 2 ∨ n = 4 ∨ n = 8 := by
  unfold okLen at h
  simp only [Bool.or_eq_true, beq_iff_eq] at h
  omega
theorem wide_pow {n : Nat} (h : okLen n = true) : 2 ^ wideN n = n := by
  rcases okLen_cases h with e | e | e <;> subst e <;> rfl
theorem rowOf_lt : ∀ ins : List Bool, rowOf ins < 2 ^ ins.length
  | [] => by decide
  | b :: r => by
    have h := rowOf_lt r
    show (if b then 1 else 0) + 2 * rowOf r < 2 ^ (r.length + 1)
    rw [Nat.pow_succ]
    cases b with
    | true =>
      show 1 + 2 * rowOf r < _
      omega
    | false =>
      show 0 + 2 * rowOf r < _
      omega
theorem row_lt {g ins : List Bool} (h : okLen g.length = true) (hl : ins.length = wideN g.length) : rowOf ins < g.length := by
  have q := rowOf_lt ins
  rw [hl, wide_pow h] at q
  exact q
/-- 1, 2, 4 -/
def bitN : Nat → Int
  | 0 => 1
  | 1 => 2
  | 2 => 4
  | _ => 0
theorem bit_at : ∀ {i : Nat}, i < 3 → ([.int 1, .int 2, .int 4] : List V)[i]? = some (.int (bitN i))
  | 0, _ => rfl
  | 1, _ => rfl
  | 2, _ => rfl
  | i + 3, h => by omega
theorem row_sum : ∀ {g : List Bool}, g.length ≤ 3 → (rowOf g : Int) = (((List.range g.length).filter fun i => g.getD i false).map bitN).sum
  | [], _ => rfl
  | [a], _ => by cases a <;> rfl
  | [a, b], _ => by cases a <;> cases b <;> rfl
  | [a, b, c], _ => by cases a <;> cases b <;> cases c <;> rfl
  | _ :: _ :: _ :: _ :: _, h => by simp at h
theorem okLen_le {n : Nat} (h : okLen n = true) : n ≤ 8 := by
  rcases okLen_cases h with e | e | e <;> omega
theorem size_at (z : Int) {m : Nat} (h1 : 1 ≤ m) (h3 : m ≤ 3) : ∃ n : Nat, okLen n = true ∧ wideN n ≤ m ∧ atI [V.int 2, V.int 4, V.int 8] (z % (m : Int)) = some (V.int (n : Int)) := by
  have a := Int.emod_nonneg z (show (m : Int) ≠ 0 by omega)
  have b := Int.emod_lt_of_pos z (show (0 : Int) < (m : Int) by omega)
  have c : z % (m : Int) = 0 ∨ (z % (m : Int) = 1 ∧ 2 ≤ m) ∨ (z % (m : Int) = 2 ∧ 3 ≤ m) := by omega
  rcases c with c | ⟨c, d⟩ | ⟨c, d⟩
  · exact ⟨2, rfl, h1, by rw [c]; exact atI_nat (j := 0) rfl⟩
  · exact ⟨4, rfl, d, by rw [c]; exact atI_nat (j := 1) rfl⟩
  · exact ⟨8, rfl, d, by rw [c]; exact atI_nat (j := 2) rfl⟩
end GW
namespace GW
open PySem PySem.Spec PyProof.Rows L2
theorem row_bit : ∀ {k r : Nat}, k < 3 → decide (V.int ((r : Int) / bitN k % 2) = V.int 1) = (r / 2 ^ k % 2 == 1)
  | 0, r, _ => by
    show decide (V.int ((r : Int) / 1 % 2) = V.int 1) = decide (r / 1 % 2 = 1)
    exact decide_eq_decide.mpr ⟨fun h => by have := V.int.inj h; omega, fun h => congrArg V.int (by omega)⟩
  | 1, r, _ => by
    show decide (V.int ((r : Int) / 2 % 2) = V.int 1) = decide (r / 2 % 2 = 1)
    exact decide_eq_decide.mpr ⟨fun h => by have := V.int.inj h; omega, fun h => congrArg V.int (by omega)⟩
  | 2, r, _ => by
    show decide (V.int ((r : Int) / 4 % 2) = V.int 1) = decide (r / 4 % 2 = 1)
    exact decide_eq_decide.mpr ⟨fun h => by have := V.int.inj h; omega, fun h => congrArg V.int (by omega)⟩
  | k + 3, _, h => by omega
theorem bit_div : ∀ {k : Nat} (r : Int), k < 3 → CDiv r (bitN k)
  | 0, _, _ => ⟨by decide, by decide⟩
  | 1, _, _ => ⟨by decide, by decide⟩
  | 2, _, _ => ⟨by decide, by decide⟩
  | k + 3, _, h => by omega
theorem rows_len {m : Nat} : (rowsN m).length = 2 ^ m := by
  unfold rowsN
  rw [List.length_map, List.length_range]
theorem rowAt_len {m r : Nat} : (rowAt m r).length = m := by
  unfold rowAt
  rw [List.length_map, List.length_range]
theorem rows_at {m i : Nat} (h : i < 2 ^ m) : (rowsN m)[i]? = some (rowAt m i) := by
  unfold rowsN
  rw [List.getElem?_map, List.getElem?_range h]
  rfl
theorem rows_take {m i : Nat} (h : i < 2 ^ m) : (rowsN m).take (i + 1) = (rowsN m).take i ++ [rowAt m i] := by
  rw [List.take_add_one, rows_at h]
  rfl
/-- the row that the inputs of a row count to is the row -/
theorem rowOf_at {m i : Nat} (hm : m ≤ 3) (h : i < 2 ^ m) : rowOf (rowAt m i) = i := by
  match m, hm with
  | 0, _ => match i, h with | 0, _ => rfl
  | 1, _ => match i, h with | 0, _ => rfl | 1, _ => rfl
  | 2, _ => match i, h with | 0, _ => rfl | 1, _ => rfl | 2, _ => rfl | 3, _ => rfl
  | 3, _ => match i, h with | 0, _ => rfl | 1, _ => rfl | 2, _ => rfl | 3, _ => rfl | 4, _ => rfl | 5, _ => rfl | 6, _ => rfl | 7, _ => rfl
theorem pow_at {m : Nat} (h1 : 1 ≤ m) (h3 : m ≤ 3) : atI [V.int 2, V.int 4, V.int 8] ((m : Int) - 1) = some (V.int ((2 ^ m : Nat) : Int)) := by
  have : m = 1 ∨ m = 2 ∨ m = 3 := by omega
  rcases this with e | e | e <;> subst e
  · exact atI_nat (j := 0) rfl
  · exact atI_nat (j := 1) rfl
  · exact atI_nat (j := 2) rfl
theorem pow_le {m : Nat} (h3 : m ≤ 3) : 2 ^ m ≤ 8 := by
  have : m = 0 ∨ m = 1 ∨ m = 2 ∨ m = 3 := by omega
  rcases this with e | e | e | e <;> subst e <;> decide
end GW
namespace GW
open PySem PySem.Spec PyProof.Rows L2
def contr (g : List Bool) : List Bool := g.reverse.map not
def sp_contrary (K : PySem.W.Frag) (C : Addr) : Sp := fun vs H Q E => ∃ v g, vs = [v] ∧ IsB K H v g ∧
  (okLen g.length = true → ∀ v H', NewL H H' v (LB (contr g)) → Q v H') ∧ (okLen g.length = false → ∀ H', Same H H' → E (.ref C) none H')
def sp_law_truths (K : PySem.W.Frag) : Sp := fun vs H Q _ => ∃ a y f g, vs = [.ref a, y] ∧ H a = some (.lst (LB f)) ∧ IsB K H y g ∧ f.length ≤ 40000 ∧ ∀ H', Same H H' → Q (.bl (decide (f = g))) H'
theorem all_true {n : Nat} : ((List.range n).map fun _ => true).all id = true := by
  rw [List.all_eq_true]
  intro x hx
  obtain ⟨_, _, rfl⟩ := List.mem_map.mp hx
  rfl
theorem contr_len (g : List Bool) : (contr g).length = g.length := by
  unfold contr
  rw [List.length_map, List.length_reverse]
theorem contr_contr (g : List Bool) : contr (contr g) = g := by
  unfold contr
  rw [← List.map_reverse, List.reverse_reverse, List.map_map]
  conv => rhs; rw [← List.map_id g]
  exact List.map_congr_left fun b _ => Bool.not_not b
theorem contr_at {g : List Bool} {i : Nat} (h : i < g.length) : (contr g).getD i false = !g.getD (g.length - 1 - i) false := by
  unfold contr
  rw [List.getD_eq_getElem?_getD, List.getElem?_map, List.getElem?_reverse h, List.getD_eq_getElem?_getD, List.getElem?_eq_getElem (show g.length - 1 - i < g.length by omega)]
  rfl
theorem map_getD (g : List Bool) : (List.range g.length).map (fun i => g.getD i false) = g := by
  apply List.ext_getElem
  · rw [List.length_map, List.length_range]
  · intro i h1 h2
    rw [List.getElem_map, List.getElem_range, List.getD_eq_getElem?_getD, List.getElem?_eq_getElem h2]
    rfl
theorem contr_map (g : List Bool) : (List.range g.length).map (fun i => !g.getD (g.length - 1 - i) false) = contr g := by
  rw [← map_getD (contr g), contr_len]
  exact List.map_congr_left fun i hi => (contr_at (List.mem_range.mp hi)).symm
theorem itOf_lb {g : List Bool} {i : Nat} (h : i < g.length) : itOf (LB g) i = .bl (g.getD i false) := by
  have a := itOf_at (xs := LB g) (i := i) (by rw [lb_len]; exact h)
  rw [lb_get h] at a
  exact (Option.some.inj a).symm
end GW
set_option Elab.async false
set_option linter.all false
set_option maxRecDepth 100000
set_option maxHeartbeats 4000000
/-! Witnesses and classes: plain functions, promises. -/
namespace GW
open PySem PySem.Spec PyProof.Rows L2
/-! ### what is found first -/
theorem fs_none {α β : Type} {f : α → Option β} : ∀ {l : List α}, (∀ (i : Nat) x, l[i]? = some x → f x = none) → l.findSome? f = none
  | [], _ => rfl
  | a :: r, h => by
    rw [List.findSome?_cons, h 0 a rfl]
    exact fs_none fun i x e => h (i + 1) x (by simpa using e)
theorem fs_some {α β : Type} {f : α → Option β} : ∀ {l : List α} {i : Nat} {x : α} {y : β}, l[i]? = some x → (∀ (j : Nat) z, j < i → l[j]? = some z → f z = none) → f x = some y → l.findSome? f = some y
  | [], i, x, y, h, _, _ => by simp at h
  | a :: r, 0, x, y, h, _, e => by
    have : a = x := Option.some.inj h
    subst this
    rw [List.findSome?_cons, e]
  | a :: r, i + 1, x, y, h, hn, e => by
    rw [List.findSome?_cons, hn 0 a (by omega) rfl]
    exact fs_some (i := i) (by simpa using h) (fun j z hj hz => hn (j + 1) z (by omega) (by simpa using hz)) e
theorem range_at {n i : Nat} (h : i < n) : (List.range n)[i]? = some i := List.getElem?_range h
theorem range_of {n i x : Nat} (h : (List.range n)[i]? = some x) : i < n ∧ x = i := by
  have a := (List.getElem?_eq_some_iff.mp h).1
  rw [List.length_range] at a
  rw [range_at a] at h
  exact ⟨a, (Option.some.inj h).symm⟩
/-! ### the witnesses -/
def at_ (g : List Bool) (r : Nat) : Bool := g.getD r false
def fTurn (g : List Bool) (r : Nat) : Option (List Nat) := if (at_ g r == at_ g (g.length - 1 - r)) = true then some [r] else none
def turnW (g : List Bool) : Option (List Nat) := (List.range g.length).findSome? (fTurn g)
def bitsN (n : Nat) : List Nat := [1, 2, 4].take (wideN n)
def fRise (g : List Bool) (b r : Nat) : Option (List Nat) := if (r / b % 2 == 0 && (at_ g r && !at_ g (r + b))) = true then some [r, r + b] else none
def riseW (g : List Bool) : Option (List Nat) := (bitsN g.length).findSome? fun b => (List.range g.length).findSome? (fRise g b)
def fSum (g : List Bool) (one other r : Nat) : Option (List Nat) :=
  if (decide (one < other) && (r / one % 2 == 0 && r / other % 2 == 0)) = true then (if (([r, r + one, r + other, r + one + other].filter (at_ g)).length % 2 == 1) = true then some [r, r + one, r + other, r + one + other] else none) else none
def sumW (g : List Bool) : Option (List Nat) := (bitsN g.length).findSome? fun one => (bitsN g.length).findSome? fun other => (List.range g.length).findSome? (fSum g one other)
def words : List Str := ["nought", "one", "turn", "rise", "sum"]
def witW (g : List Bool) (x : Str) : Option (List Nat) :=
  if x = "nought" then (if at_ g 0 = true then some [0] else none)
  else if x = "one" then (if at_ g (g.length - 1) = true then none else some [g.length - 1])
  else if x = "turn" then turnW g else if x = "rise" then riseW g else sumW g
/-- v tells the witness: None, or a new tuple -/
def WitV (H H' : Hp) (v : V) : Option (List Nat) → Prop
  | none => v = .non
  | some rs => ∃ p, v = .ref p ∧ H p = none ∧ H' p = some (.tup (rs.map fun r => V.int ((r : Nat) : Int)))
def sp_find (K : PySem.W.Frag) (wf : List Bool → Option (List Nat)) : Sp := fun vs H Q _ => ∃ v g, vs = [v] ∧ IsB K H v g ∧ okLen g.length = true ∧ ∀ v H', Same H H' → WitV H H' v (wf g) → Q v H'
def sp_witness (K : PySem.W.Frag) (C C2 : Addr) : Sp := fun vs H Q E => ∃ v g x, vs = [v, .str x] ∧ IsB K H v g ∧
  (okLen g.length = true → (x ∈ words → ∀ v H', Same H H' → WitV H H' v (witW g x) → Q v H') ∧ (x ∉ words → ∀ H', Same H H' → E (.ref C2) none H')) ∧ (okLen g.length = false → ∀ H', Same H H' → E (.ref C) none H')
/-- whether a gate is in a class -/
def inC (g : List Bool) (x : Str) : Bool := (witW g x).isNone
def sp_is_in (K : PySem.W.Frag) (C C2 : Addr) : Sp := fun vs H Q E => ∃ v g x, vs = [v, .str x] ∧ IsB K H v g ∧
  (okLen g.length = true → (x ∈ words → ∀ H', Same H H' → Q (.bl (inC g x)) H') ∧ (x ∉ words → ∀ H', Same H H' → E (.ref C2) none H')) ∧ (okLen g.length = false → ∀ H', Same H H' → E (.ref C) none H')
def clsOf (g : List Bool) : List Str := words.filter (inC g)
def LS (xs : List Str) : List V := xs.map V.str
def sp_classes (K : PySem.W.Frag) : Sp := fun vs H Q _ => ∃ v g, vs = [v] ∧ IsB K H v g ∧ okLen g.length = true ∧ ∀ v H', NewL H H' v (LS (clsOf g)) → Q v H'
/-! ### the law's own looks -/
def met (some row : Nat) : Nat := row % 2 * (some % 2) + row / 2 % 2 * (some / 2 % 2) + row / 4 * (some / 4)
def lawSums (g : List Bool) : Bool := (List.range g.length).any fun some => [false, true].any fun t => (List.range g.length).all fun row => at_ g row == ((met some row % 2 == 1) != t)
def lawRises (g : List Bool) : Bool := [1, 2, 4].all fun b => (List.range (g.length - b)).all fun r => !(r / b % 2 == 0 && (at_ g r && !at_ g (r + b)))
def lawHolds (g : List Bool) (x : Str) : Bool :=
  if x = "nought" then !at_ g 0 else if x = "one" then at_ g (g.length - 1)
  else if x = "turn" then (List.range g.length).all fun r => at_ g r != at_ g (g.length - 1 - r)
  else if x = "rise" then lawRises g else lawSums g
def sp_law_sums (K : PySem.W.Frag) : Sp := fun vs H Q _ => ∃ v g, vs = [v] ∧ IsB K H v g ∧ okLen g.length = true ∧ ∀ H', Same H H' → Q (.bl (lawSums g)) H'
def sp_law_rises (K : PySem.W.Frag) : Sp := fun vs H Q _ => ∃ v g, vs = [v] ∧ IsB K H v g ∧ okLen g.length = true ∧ ∀ H', Same H H' → Q (.bl (lawRises g)) H'
def sp_law_holds (K : PySem.W.Frag) : Sp := fun vs H Q _ => ∃ v g x, vs = [v, .str x] ∧ IsB K H v g ∧ okLen g.length = true ∧ x ∈ words ∧ ∀ H', Same H H' → Q (.bl (lawHolds g x)) H'
/-! ### all gates of a size -/
def listsOf : Nat → List (List Bool)
  | 0 => [[]]
  | n + 1 => (listsOf n).flatMap fun l => [false :: l, true :: l]
theorem mem_listsOf : ∀ g : List Bool, g ∈ listsOf g.length
  | [] => by simp [listsOf]
  | b :: r => by
    have h := mem_listsOf r
    show b :: r ∈ (listsOf r.length).flatMap fun l => [false :: l, true :: l]
    refine List.mem_flatMap.mpr ⟨r, h, ?_⟩
    cases b <;> simp
theorem all_gates {p : List Bool → Bool} (h2 : (listsOf 2).all p = true) (h4 : (listsOf 4).all p = true) (h8 : (listsOf 8).all p = true) {g : List Bool} (h : okLen g.length = true) : p g = true := by
  have m := mem_listsOf g
  rcases okLen_cases h with e | e | e <;> rw [e] at m
  · exact List.all_eq_true.mp h2 g m
  · exact List.all_eq_true.mp h4 g m
  · exact List.all_eq_true.mp h8 g m
theorem holds_in {g : List Bool} (h : okLen g.length = true) : ∀ x ∈ words, lawHolds g x = inC g x := by
  have q : (words.all fun x => lawHolds g x == inC g x) = true := all_gates (p := fun g => words.all fun x => lawHolds g x == inC g x) (by decide +kernel) (by decide +kernel) (by decide +kernel) h
  intro x hx
  exact beq_iff_eq.mp (List.all_eq_true.mp q x hx)
end GW
namespace GW
open PySem PySem.Spec PyProof.Rows L2
theorem bits_pow {n b i : Nat} (h : (bitsN n)[i]? = some b) : i < wideN n ∧ i < 3 ∧ b = 2 ^ i := by
  have w := wide_le n
  have a := (List.getElem?_eq_some_iff.mp h).1
  have hi : i < wideN n := by
    unfold bitsN at a
    rw [List.length_take] at a
    exact Nat.lt_of_lt_of_le a (Nat.min_le_left _ _)
  have hi3 : i < 3 := by omega
  refine ⟨hi, hi3, ?_⟩
  unfold bitsN at h
  rw [List.getElem?_take, if_pos hi] at h
  match i, hi3 with
  | 0, _ => exact (Option.some.inj h).symm
  | 1, _ => exact (Option.some.inj h).symm
  | 2, _ => exact (Option.some.inj h).symm
theorem bits_vals (n : Nat) : ([V.int 1, V.int 2, V.int 4].take (wideN n)) = (bitsN n).map fun b => V.int ((b : Nat) : Int) := by
  unfold bitsN
  rw [List.map_take]
  rfl
theorem bits_lt {n b i : Nat} (h : (bitsN n)[i]? = some b) : i < ([V.int 1, V.int 2, V.int 4].take (wideN n)).length := by
  have a := (List.getElem?_eq_some_iff.mp h).1
  rw [bits_vals, List.length_map]
  exact a
theorem bits_at {n i : Nat} {u : V} (h : ([V.int 1, V.int 2, V.int 4].take (wideN n))[i]? = some u) : ∃ b : Nat, (bitsN n)[i]? = some b ∧ u = .int (b : Int) ∧ (0 < b ∧ b ≤ 4) ∧ (okLen n = true → ∀ r, r < n → r / b % 2 = 0 → r + b < n) := by
  rw [bits_vals, List.getElem?_map] at h
  cases e : (bitsN n)[i]? with
  | none => rw [e] at h; cases h
  | some b =>
    rw [e] at h
    obtain ⟨h1, h3, eb⟩ := bits_pow e
    refine ⟨b, rfl, (Option.some.inj h).symm, ?_, ?_⟩
    · subst eb
      match i, h3 with
      | 0, _ => decide
      | 1, _ => decide
      | 2, _ => decide
    · intro hn
      subst eb
      rcases okLen_cases hn with z | z | z <;> subst z <;> (match i, h3, h1 with
        | 0, _, _ => intro r hr; omega
        | 1, _, h1 => first | (exact absurd h1 (by decide)) | (intro r hr; omega)
        | 2, _, h1 => first | (exact absurd h1 (by decide)) | (intro r hr; omega))
end GW
namespace GW
open PySem PySem.Spec PyProof.Rows L2
theorem sum_in {g : List Bool} {i j b o r : Nat} (hl : okLen g.length = true) (hb : (bitsN g.length)[i]? = some b) (ho : (bitsN g.length)[j]? = some o) (h : b < o) (hr : r < g.length) (c2 : r / b % 2 = 0) (c3 : r / o % 2 = 0) :
    ∀ k, k < 4 → [r, r + b, r + o, r + b + o].getD k 0 < g.length := by
  obtain ⟨h1, h3, eb⟩ := bits_pow hb
  obtain ⟨g1, g3, eo⟩ := bits_pow ho
  have key : r + b + o < g.length := by
    subst eb eo
    have hw : 2 ^ wideN g.length = g.length := wide_pow hl
    have hi : i = 0 ∨ i = 1 ∨ i = 2 := by omega
    have hj : j = 0 ∨ j = 1 ∨ j = 2 := by omega
    generalize g.length = n at *
    rcases okLen_cases hl with z | z | z <;> subst z <;> rcases hi with z | z | z <;> subst z <;> rcases hj with z | z | z <;> subst z <;> simp only [Nat.reducePow] at c2 c3 h ⊢ <;> first | omega | (exact absurd g1 (by decide)) | (exact absurd h1 (by decide))
  intro k hk
  match k, hk with
  | 0, _ => show r < _; omega
  | 1, _ => show r + b < _; omega
  | 2, _ => show r + o < _; omega
  | 3, _ => exact key
theorem itOf_four {l : List Nat} {k : Nat} (hk : k < l.length) : itOf (l.map fun r => V.int ((r : Nat) : Int)) k = .int ((l.getD k 0 : Nat) : Int) := by
  have a := itOf_at (xs := l.map fun r => V.int ((r : Nat) : Int)) (i := k) (by rw [List.length_map]; exact hk)
  rw [List.getElem?_map, List.getElem?_eq_getElem hk] at a
  rw [List.getD_eq_getElem?_getD, List.getElem?_eq_getElem hk]
  exact (Option.some.inj a).symm
theorem given_four {g : List Bool} (a b c d : Nat) : (Evl.given 4 (fun k => at_ g ([a, b, c, d].getD k 0)) (fun k => V.int (([a, b, c, d].getD k 0 : Nat) : Int))).length = ([a, b, c, d].filter (at_ g)).length := by
  unfold Evl.given
  rw [List.length_map]
  show ([0, 1, 2, 3].filter fun k => at_ g ([a, b, c, d].getD k 0)).length = _
  simp only [List.filter_cons, List.filter_nil, List.getD_cons_zero, List.getD_cons_succ]
  cases at_ g a <;> cases at_ g b <;> cases at_ g c <;> cases at_ g d <;> rfl
end GW
namespace GW
open PySem PySem.Spec PyProof.Rows L2
theorem inV_words (x : Str) : inV (.str x) [.str "nought", .str "one", .str "turn", .str "rise", .str "sum"] = decide (x ∈ words) := by
  have h : ∀ y : Str, eqV (.str y) (.str x) = decide (x = y) := fun y => by
    show (y == x) = decide (x = y)
    by_cases e : x = y
    · subst e; rw [decide_eq_true rfl]; exact beq_self_eq_true x
    · rw [decide_eq_false e]; exact beq_eq_false_iff_ne.mpr fun z => e z.symm
  unfold inV words
  rw [List.any_cons, List.any_cons, List.any_cons, List.any_cons, List.any_cons, List.any_nil, h, h, h, h, h]
  rw [Bool.eq_iff_iff]
  simp only [Bool.or_eq_true, decide_eq_true_eq, List.mem_cons, List.not_mem_nil, Bool.false_eq_true, or_false]
theorem str_eq {x y : Str} (h : decide (V.str x = V.str y) = true) : x = y := V.str.inj (of_decide_eq_true h)
theorem str_ne {x y : Str} (h : ¬ decide (V.str x = V.str y) = true) : x ≠ y := fun z => h (decide_eq_true (congrArg V.str z))
theorem lb_last {g : List Bool} (h : 0 < g.length) : atI (LB g) (-1) = some (.bl (at_ g (g.length - 1))) := by
  have e : LB g = (LB g).dropLast ++ [.bl (at_ g (g.length - 1))] := by
    have ne : LB g ≠ [] := fun z => by have := congrArg List.length z; rw [lb_len] at this; simp at this; rw [this] at h; exact absurd h (by decide)
    have q := List.dropLast_concat_getLast ne
    have l : (LB g).getLast ne = .bl (at_ g (g.length - 1)) := by
      rw [List.getLast_eq_getElem]
      have := lb_get (bs := g) (i := g.length - 1) (by omega)
      rw [List.getElem?_eq_getElem (by rw [lb_len]; omega)] at this
      have e2 := Option.some.inj this
      unfold at_
      rw [← e2]
      congr 1
      rw [lb_len]
    rw [l] at q
    exact q.symm
  rw [e]
  exact atI_last _ _
end GW
namespace GW
open PySem PySem.Spec PyProof.Rows L2
theorem WitV.back {H H1 H' : Hp} {v : V} {o : Option (List Nat)} (s : Same H H1) (h : WitV H1 H' v o) : WitV H H' v o := by
  cases o with
  | none => exact h
  | some rs =>
    obtain ⟨p, e, n, r⟩ := h
    exact ⟨p, e, s.free n, r⟩
theorem word_at : ∀ {i : Nat}, i < 5 → itOf [.str "nought", .str "one", .str "turn", .str "rise", .str "sum"] i = .str (words.getD i "")
  | 0, _ => rfl
  | 1, _ => rfl
  | 2, _ => rfl
  | 3, _ => rfl
  | 4, _ => rfl
  | i + 5, h => by omega
theorem word_mem : ∀ {i : Nat}, i < 5 → words.getD i "" ∈ words
  | 0, _ => by simp [words]
  | 1, _ => by simp [words]
  | 2, _ => by simp [words]
  | 3, _ => by simp [words]
  | 4, _ => by simp [words]
  | i + 5, h => by omega
theorem given_list {α : Type} (p : α → Bool) (v : α → V) (d : α) : ∀ l : List α, Evl.given l.length (fun i => p (l.getD i d)) (fun i => v (l.getD i d)) = (l.filter p).map v := by
  intro l
  have key : ∀ m, m ≤ l.length → Evl.given m (fun i => p (l.getD i d)) (fun i => v (l.getD i d)) = ((l.take m).filter p).map v := by
    intro m
    induction m with
    | zero => intro _; rfl
    | succ m ih =>
      intro hm
      have hm' : m < l.length := by omega
      have e : l.take (m + 1) = l.take m ++ [l.getD m d] := by
        rw [List.take_add_one, List.getD_eq_getElem?_getD, List.getElem?_eq_getElem hm']
        rfl
      rw [e, List.filter_append, List.map_append, ← ih (by omega)]
      cases hp : p (l.getD m d) with
      | true => rw [Evl.given_yes hp, List.filter_cons, if_pos hp]; rfl
      | false => rw [Evl.given_no hp, List.filter_cons, if_neg (by rw [hp]; decide)]; simp
  have := key l.length (Nat.le_refl _)
  rw [List.take_length] at this
  exact this
theorem cls_given (g : List Bool) : Evl.given 5 (fun i => inC g (words.getD i "")) (fun i => .str (words.getD i "")) = LS (clsOf g) := given_list (inC g) V.str "" words
end GW
namespace GW
open PySem PySem.Spec PyProof.Rows L2
abbrev sumFit (g : List Bool) (some : Nat) (t : Bool) : Bool := (List.range g.length).all fun row => at_ g row == ((met some row % 2 == 1) != t)
abbrev riseFit (g : List Bool) (b : Nat) : Bool := (List.range (g.length - b)).all fun r => !(r / b % 2 == 0 && (at_ g r && !at_ g (r + b)))
theorem all_map_id {α : Type} {l : List α} {f : α → Bool} : (l.map f).all id = l.all f := by rw [List.all_map]; rfl
end GW
namespace GW
open PySem PySem.Spec PyProof.Rows L2
def dS (xs : List Str) : PyData := .list (xs.map .str)
theorem dpAll_ls {K : PySem.W.Frag} {H : Hp} : ∀ xs : List Str, DpAll K H (LS xs) (xs.map .str)
  | [] => .nil
  | x :: r => .cons (.str x) (dpAll_ls r)
theorem dp_ls {K : PySem.W.Frag} {H : Hp} {a : Addr} {xs : List Str} (h : SqL K H a (LS xs)) : Dp K H (.ref a) (dS xs) := .lst h (dpAll_ls xs)
theorem words_ok : ∀ x ∈ words, Shp 0 (.str x) := by
  have h : (words.all fun x => PyData.strOk x) = true := by decide +kernel
  intro x hx
  have e := List.all_eq_true.mp h x hx
  exact ⟨by simp only [PyData.canLay0]; exact e, by simp only [PyData.depth]; exact Nat.le_refl _⟩
theorem shp_dS {xs : List Str} (h : ∀ x ∈ xs, x ∈ words) : Shp 1 (dS xs) := shp_list (n := 0) fun d hd => by
  obtain ⟨b, hb, rfl⟩ := List.mem_map.mp hd
  exact words_ok b (h b hb)
theorem cls_words {g : List Bool} : ∀ x ∈ clsOf g, x ∈ words := fun x h => (List.mem_filter.mp h).1
theorem words_get {i : Nat} {u : V} (h : ([.str "nought", .str "one", .str "turn", .str "rise", .str "sum"] : List V)[i]? = some u) : ∃ x, words[i]? = some x ∧ u = .str x := by
  rw [show ([.str "nought", .str "one", .str "turn", .str "rise", .str "sum"] : List V) = words.map V.str from rfl, List.getElem?_map] at h
  cases e : words[i]? with
  | none => rw [e] at h; cases h
  | some t => rw [e] at h; exact ⟨t, rfl, (Option.some.inj h).symm⟩
theorem take_snoc {α : Type} {l : List α} {i : Nat} {x : α} (h : l[i]? = some x) : l.take (i + 1) = l.take i ++ [x] := by
  rw [List.take_add_one, h]
  rfl
theorem ls_app {xs : List Str} {x : Str} : LS (xs ++ [x]) = LS xs ++ [V.str x] := List.map_append
end GW
set_option Elab.async false
set_option linter.all false
set_option maxRecDepth 100000
set_option maxHeartbeats 4000000
/-! Formulas: as data, as what they reckon, how the heap bears them; promises. -/
namespace GW
open PySem PySem.Spec PyProof.Rows L2
inductive Fm where
  | inp (n : Int)
  | gate (n : Int) (ps : List Fm)
mutual
/-- how deep -/
def dF : Fm → Nat
  | .inp _ => 0
  | .gate _ ps => dFs ps + 1
def dFs : List Fm → Nat
  | [] => 0
  | p :: r => max (dF p) (dFs r)
end
mutual
/-- a formula of these gates with m inputs -/
def okF (gs : List (List Bool)) (m : Int) : Fm → Bool
  | .inp n => decide (0 ≤ n) && decide (n < m)
  | .gate n ps => (decide (0 ≤ n) && decide (n < gs.length)) && (decide (ps.length = wideN (gs.getD n.toNat []).length) && okFs gs m ps)
def okFs (gs : List (List Bool)) (m : Int) : List Fm → Bool
  | [] => true
  | p :: r => okF gs m p && okFs gs m r
end
mutual
/-- what a formula reckons -/
def val (gs : List (List Bool)) (ins : List Bool) : Fm → Bool
  | .inp n => ins.getD n.toNat false
  | .gate n ps => (gs.getD n.toNat []).getD (rowOf (vals gs ins ps)) false
def vals (gs : List (List Bool)) (ins : List Bool) : List Fm → List Bool
  | [] => []
  | p :: r => val gs ins p :: vals gs ins r
end
mutual
/-- how the heap bears a formula -/
inductive IsF (K : PySem.W.Frag) (H : Hp) : V → Fm → Prop
  | inp {a : Addr} {n : Int} : SqT K H a [.str "in", .int n] → IsF K H (.ref a) (.inp n)
  | gate {a p : Addr} {n : Int} {vs : List V} {ps : List Fm} : SqT K H a [.str "gate", .int n, .ref p] → SqT K H p vs → IsFs K H vs ps → IsF K H (.ref a) (.gate n ps)
inductive IsFs (K : PySem.W.Frag) (H : Hp) : List V → List Fm → Prop
  | nil : IsFs K H [] []
  | cons {v : V} {vs : List V} {f : Fm} {fs : List Fm} : IsF K H v f → IsFs K H vs fs → IsFs K H (v :: vs) (f :: fs)
end
section
variable {K : PySem.W.Frag} {H H' : Hp}
mutual
theorem IsF.mono (s : Same H H') : ∀ (f : Fm) {v : V}, IsF K H v f → IsF K H' v f
  | .inp _, _, .inp h => .inp (s.tup h)
  | .gate _ ps, _, .gate h1 h2 h3 => .gate (s.tup h1) (s.tup h2) (IsFs.mono s ps h3)
theorem IsFs.mono (s : Same H H') : ∀ (fs : List Fm) {vs : List V}, IsFs K H vs fs → IsFs K H' vs fs
  | [], _, .nil => .nil
  | f :: fs, _, .cons h1 h2 => .cons (IsF.mono s f h1) (IsFs.mono s fs h2)
end
theorem sqt_list {a D : Addr} {xs : List V} {acc : List V} {o : HO} (e : H D = some (.lst acc)) (h : SqT K H a xs) : SqT K (upd H D o) a xs := by
  rcases h with (h | ⟨z, h⟩) | h
  · exact .inl (.inl (by rw [upd_ne (ne_of h e (by intro q; cases q))]; exact h))
  · exact .inl (.inr ⟨z, by rw [upd_ne (ne_of h e (by intro q; cases q))]; exact h⟩)
  · exact .inr h
mutual
/-- a list may change: formulas stand -/
theorem IsF.list {D : Addr} {acc : List V} {o : HO} (e : H D = some (.lst acc)) : ∀ (f : Fm) {v : V}, IsF K H v f → IsF K (upd H D o) v f
  | .inp _, _, .inp h => .inp (sqt_list e h)
  | .gate _ ps, _, .gate h1 h2 h3 => .gate (sqt_list e h1) (sqt_list e h2) (IsFs.list e ps h3)
theorem IsFs.list {D : Addr} {acc : List V} {o : HO} (e : H D = some (.lst acc)) : ∀ (fs : List Fm) {vs : List V}, IsFs K H vs fs → IsFs K (upd H D o) vs fs
  | [], _, .nil => .nil
  | f :: fs, _, .cons h1 h2 => .cons (IsF.list e f h1) (IsFs.list e fs h2)
end
theorem IsFs.len : ∀ {vs : List V} {fs : List Fm}, IsFs K H vs fs → vs.length = fs.length
  | [], [], .nil => rfl
  | _ :: _, _ :: _, .cons _ t => congrArg Nat.succ (IsFs.len t)
theorem IsFs.at : ∀ {vs : List V} {fs : List Fm} {i : Nat} {v : V}, IsFs K H vs fs → vs[i]? = some v → ∃ f, fs[i]? = some f ∧ IsF K H v f
  | [], [], i, v, .nil, h => by simp at h
  | _ :: _, _ :: _, 0, v, .cons a _, h => ⟨_, rfl, by have := Option.some.inj h; subst this; exact a⟩
  | _ :: _, _ :: _, i + 1, v, .cons _ t, h => by
    obtain ⟨f, h1, h2⟩ := IsFs.at (i := i) (v := v) t (by simpa using h)
    exact ⟨f, by simpa using h1, h2⟩
theorem IsFs.snoc {v : V} {f : Fm} (h : IsF K H v f) : ∀ {vs : List V} {fs : List Fm}, IsFs K H vs fs → IsFs K H (vs ++ [v]) (fs ++ [f])
  | [], [], .nil => .cons h .nil
  | _ :: _, _ :: _, .cons a t => .cons a (IsFs.snoc h t)
end
theorem okFs_at {gs : List (List Bool)} {m : Int} : ∀ {fs : List Fm} {i : Nat} {f : Fm}, okFs gs m fs = true → fs[i]? = some f → okF gs m f = true
  | [], i, f, _, h => by simp at h
  | p :: r, 0, f, o, h => by
    have e : p = f := Option.some.inj h
    subst e
    simp only [okFs, Bool.and_eq_true] at o
    exact o.1
  | p :: r, i + 1, f, o, h => by
    simp only [okFs, Bool.and_eq_true] at o
    exact okFs_at (i := i) o.2 (by simpa using h)
theorem okFs_take {gs : List (List Bool)} {m : Int} : ∀ {fs : List Fm}, (∀ (i : Nat) f, fs[i]? = some f → okF gs m f = true) → okFs gs m fs = true
  | [], _ => rfl
  | p :: r, h => by
    simp only [okFs, Bool.and_eq_true]
    exact ⟨h 0 p rfl, okFs_take fun i f e => h (i + 1) f (by simpa using e)⟩
theorem dFs_at : ∀ {fs : List Fm} {i : Nat} {f : Fm}, fs[i]? = some f → dF f ≤ dFs fs
  | [], i, f, h => by simp at h
  | p :: r, 0, f, h => by
    have e : p = f := Option.some.inj h
    subst e
    simp only [dFs]
    exact Nat.le_max_left _ _
  | p :: r, i + 1, f, h => by
    simp only [dFs]
    exact Nat.le_trans (dFs_at (i := i) (by simpa using h)) (Nat.le_max_right _ _)
theorem dFs_le {n : Nat} : ∀ {fs : List Fm}, (∀ (i : Nat) f, fs[i]? = some f → dF f ≤ n) → dFs fs ≤ n
  | [], _ => by simp only [dFs]; exact Nat.zero_le _
  | p :: r, h => by
    simp only [dFs]
    exact Nat.max_le.mpr ⟨h 0 p rfl, dFs_le fun i f e => h (i + 1) f (by simpa using e)⟩
theorem vals_map (gs : List (List Bool)) (ins : List Bool) : ∀ fs : List Fm, vals gs ins fs = fs.map (val gs ins)
  | [] => rfl
  | p :: r => by
    simp only [vals, List.map_cons]
    rw [vals_map gs ins r]
/-! ### gates as a list -/
def okGs (gs : List (List Bool)) : Bool := decide (1 ≤ gs.length) && (decide (gs.length ≤ 5) && gs.all fun g => okLen g.length)
theorem okGs_at {gs : List (List Bool)} (h : okGs gs = true) {i : Nat} {g : List Bool} (e : gs[i]? = some g) : okLen g.length = true := by
  simp only [okGs, Bool.and_eq_true] at h
  exact List.all_eq_true.mp h.2.2 g (List.mem_of_getElem? e)
theorem okGs_len {gs : List (List Bool)} (h : okGs gs = true) : 1 ≤ gs.length ∧ gs.length ≤ 5 := by
  simp only [okGs, Bool.and_eq_true, decide_eq_true_eq] at h
  exact ⟨h.1, h.2.1⟩
/-- the table of a formula -/
def tableF (gs : List (List Bool)) (m : Nat) (f : Fm) : List Bool := (rowsN m).map fun r => val gs r f
/-! ### promises -/
def sp_cellZ (K : PySem.W.Frag) : Sp := fun vs H Q _ => ∃ (a : Addr) (ns : List Int) (k : Int), vs = [.ref a, .int k] ∧ 0 ≤ k ∧ SqL K H a (ns.map V.int) ∧ ∀ z : Int, Q (.int z) H
theorem cellZ {P : Program} {w : World} {K : PySem.W.Frag} {mg : Str → Option Value} {base : Heap} {k : Nat} (G : Fn P w K mg base CX0 k "_law_cell_at" ["script", "k"] (sp_cell_at K)) : Fn P w K mg base CX0 k "_law_cell_at" ["script", "k"] (sp_cellZ K) :=
  G.imp fun vs H Q E ⟨a, ns, z, e, hz, hS, q⟩ => ⟨a, ns, z.toNat, by rw [e, Int.toNat_of_nonneg hz], hS, q⟩
def sp_ask_gates (K : PySem.W.Frag) (C : Addr) : Sp := fun vs H Q E => ∃ v gs, vs = [v] ∧ IsBs K H v gs ∧ gs.length ≤ 100 ∧ (okGs gs = true → ∀ H', Same H H' → Q .non H') ∧ (okGs gs = false → ∀ H', Same H H' → E (.ref C) none H')
def sp_ask_inputs (C : Addr) : Sp := fun vs H Q E => ∃ m : Int, vs = [.int m] ∧ (1 ≤ m → m ≤ 3 → Q .non H) ∧ (¬ (1 ≤ m ∧ m ≤ 3) → E (.ref C) none H)
def sp_ask_formula (K : PySem.W.Frag) (C : Addr) (n : Nat) : Sp := fun vs H Q E => ∃ x y m gs f, vs = [x, y, .int m] ∧ IsBs K H x gs ∧ okGs gs = true ∧ IsF K H y f ∧ dF f < n ∧
  (okF gs m f = true → ∀ H', Same H H' → Q .non H') ∧ (okF gs m f = false → ∀ H', Same H H' → E (.ref C) none H')
def sp_worth (K : PySem.W.Frag) (n : Nat) : Sp := fun vs H Q _ => ∃ x y z gs f ins, vs = [x, y, z] ∧ IsBs K H x gs ∧ okGs gs = true ∧ IsF K H y f ∧ IsB K H z ins ∧ okF gs ins.length f = true ∧ dF f < n ∧ ∀ H', Same H H' → Q (.bl (val gs ins f)) H'
/-- a new list of lists of truths -/
def NewLs (K : PySem.W.Frag) (H H' : Hp) (v : V) (gs : List (List Bool)) : Prop := ∃ p us, v = .ref p ∧ H p = none ∧ Same H H' ∧ H' p = some (.lst us) ∧ Paired (fun u g => ∃ a, u = .ref a ∧ a ≠ p ∧ H' a = some (.lst (LB g))) us gs
theorem NewLs.isBs {K : PySem.W.Frag} {H H' : Hp} {v : V} {gs : List (List Bool)} (h : NewLs K H H' v gs) : IsBs K H' v gs := by
  obtain ⟨p, us, rfl, _, _, e, pr⟩ := h
  exact ⟨p, us, rfl, SqL.of e, Paired.imp (fun _ _ ⟨a, e, _, h⟩ => ⟨a, e, SqL.of h⟩) pr⟩
def sp_rows_of (K : PySem.W.Frag) : Sp := fun vs H Q _ => ∃ m : Nat, vs = [.int m] ∧ 1 ≤ m ∧ m ≤ 3 ∧ ∀ v H', NewLs K H H' v (rowsN m) → Q v H'
def sp_table_of (K : PySem.W.Frag) (CG CI CF : Addr) : Sp := fun vs H Q E => ∃ x y m gs f, vs = [x, y, .int m] ∧ IsBs K H x gs ∧ gs.length ≤ 100 ∧ IsF K H y f ∧ dF f < 40 ∧
  (okGs gs = true → 1 ≤ m → m ≤ 3 → okF gs m f = true → ∀ v H', NewL H H' v (LB (tableF gs m.toNat f)) → Q v H') ∧ (okGs gs = false → ∀ H', Same H H' → E (.ref CG) none H') ∧
  (okGs gs = true → ¬ (1 ≤ m ∧ m ≤ 3) → ∀ H', Same H H' → E (.ref CI) none H') ∧ (okGs gs = true → 1 ≤ m → m ≤ 3 → okF gs m f = false → ∀ H', Same H H' → E (.ref CF) none H')
def sp_reckoned (K : PySem.W.Frag) (CG CI CF : Addr) : Sp := fun vs H Q E => ∃ x y z gs f ins, vs = [x, y, z] ∧ IsBs K H x gs ∧ gs.length ≤ 100 ∧ IsF K H y f ∧ IsB K H z ins ∧ dF f < 40 ∧
  (okGs gs = true → 1 ≤ ins.length → ins.length ≤ 3 → okF gs ins.length f = true → ∀ H', Same H H' → Q (.bl (val gs ins f)) H') ∧ (okGs gs = false → ∀ H', Same H H' → E (.ref CG) none H') ∧
  (okGs gs = true → ¬ (1 ≤ ins.length ∧ ins.length ≤ 3) → ∀ H', Same H H' → E (.ref CI) none H') ∧ (okGs gs = true → 1 ≤ ins.length → ins.length ≤ 3 → okF gs ins.length f = false → ∀ H', Same H H' → E (.ref CF) none H')
def sp_law_gates (K : PySem.W.Frag) (most : Nat) : Sp := fun vs H Q _ => ∃ (a : Addr) (ns : List Int), vs = [.ref a, .int most] ∧ SqL K H a (ns.map V.int) ∧ 1 ≤ most ∧ most ≤ 3 ∧ ∀ v H' gs, okGs gs = true → (∀ g ∈ gs, wideN g.length ≤ most) → NewLs K H H' v gs → Q v H'
def sp_law_formula (K : PySem.W.Frag) (n : Nat) : Sp := fun vs H Q _ => ∃ (z : Int) (d : Nat) (x : V) (m : Int) (gs : List (List Bool)), vs = [.int z, .int d, x, .int m] ∧ 0 ≤ z ∧ d < n ∧ IsBs K H x gs ∧ okGs gs = true ∧ 1 ≤ m ∧ m ≤ 3 ∧
  ∀ v H' f, Same H H' → IsF K H' v f → okF gs m f = true → dF f ≤ d → Q v H'
theorem rows_step {i : Nat} (h : i < 3) : rowsN (i + 1) = (rowsN i).map (fun r => r ++ [false]) ++ (rowsN i).map (fun r => r ++ [true]) := by
  match i, h with
  | 0, _ => decide +kernel
  | 1, _ => decide +kernel
  | 2, _ => decide +kernel
end GW
namespace GW
open PySem PySem.Spec PyProof.Rows L2
theorem okFs_app {gs : List (List Bool)} {m : Int} : ∀ as bs : List Fm, okFs gs m (as ++ bs) = (okFs gs m as && okFs gs m bs)
  | [], _ => by simp only [List.nil_append, okFs, Bool.true_and]
  | a :: r, bs => by
    simp only [List.cons_append, okFs]
    rw [okFs_app r bs, Bool.and_assoc]
end GW
namespace GW
open PySem PySem.Spec PyProof.Rows L2
theorem dFs_app : ∀ as bs : List Fm, dFs (as ++ bs) = max (dFs as) (dFs bs)
  | [], bs => by simp only [List.nil_append, dFs]; exact (Nat.zero_max _).symm
  | a :: r, bs => by
    simp only [List.cons_append, dFs]
    rw [dFs_app r bs, Nat.max_assoc]
theorem rowOf_snoc : ∀ (l : List Bool) (b : Bool), rowOf (l ++ [b]) = rowOf l + (if b then 2 ^ l.length else 0)
  | [], b => by cases b <;> rfl
  | a :: r, b => by
    show (if a then 1 else 0) + 2 * rowOf (r ++ [b]) = (if a then 1 else 0) + 2 * rowOf r + (if b then 2 ^ (r.length + 1) else 0)
    rw [rowOf_snoc r b, Nat.pow_succ]
    cases b with
    | true =>
      show (if a then 1 else 0) + 2 * (rowOf r + 2 ^ r.length) = (if a then 1 else 0) + 2 * rowOf r + 2 ^ r.length * 2
      omega
    | false =>
      show (if a then 1 else 0) + 2 * (rowOf r + 0) = (if a then 1 else 0) + 2 * rowOf r + 0
      omega
theorem bit_pow {i : Nat} (h : i < 3) : bitN i = ((2 ^ i : Nat) : Int) := by
  match i, h with
  | 0, _ => rfl
  | 1, _ => rfl
  | 2, _ => rfl
end GW
namespace GW
open PySem PySem.Spec PyProof.Rows L2
/-- [list(gate) for gate in gates] -/
theorem copy_gs {K : PySem.W.Frag} {H1 : Hp} {p : Addr} {us : List V} {gs : List (List Bool)} {σ : L2.St} {j : Nat} {Qd : Addr → Hp → Prop} (hp : SqL K H1 p us) (pr : Paired (IsB K H1) us gs) (hz : us.length ≤ 40000)
    (hσ : ∀ x, ((wipe σ [j]).set j (some x))[j]? = some (some x)) (hw : ∀ x, wipe ((wipe σ [j]).set j (some x)) [j] = wipe σ [j]) (q : ∀ D H', NewLs K H1 H' (.ref D) gs → Qd D H') :
    ∀ D, H1 D = none → ∃ W : Nat → Nat → Hp → Prop, (∃ m, W 0 m (upd H1 D (.lst []))) ∧ ∀ i m H, W i m H →
      ((Itl K p).stop i H ∧ Qd D H) ∨ ((Itl K p).go i H ∧ ∃ Nx : Hp → Prop, (∀ H', Nx H' → ∃ m', m' < m ∧ W (i + 1) m' H') ∧ ∀ x H', (Itl K p).yld i H x H' → gName j x (wipe σ [j]) H' fun σ2 H2 => wipe σ2 [j] = wipe σ [j] ∧ tYes σ2 H2 fun b H3 =>
        if b = true then (tCB (Evl.rListS K) (tCons (tVar j) tNil)) σ2 H3 fun y H4 => ∃ acc, H4 D = some (.lst acc) ∧ acc.length < sizeLine ∧ Nx (upd H4 D (.lst (acc ++ [y]))) else Nx H3) := by
  refine lc_R (wk_list hp) (fun _ => true) (fun D i v H2 => ∃ a, v = .ref a ∧ a ≠ D ∧ H2 a = some (.lst (LB (gs.getD i [])))) (fun D i v H2 H3 s ⟨a, e, n, h⟩ => ⟨a, e, n, s _ _ h⟩) (fun D i v H2 acc acc' eD ⟨a, e, n, h⟩ => ⟨a, e, n, by rw [upd_ne n]; exact h⟩) hz hw (fun _ _ _ _ => et_yes) (fun D i H2 acc Q s2 eD hi _ k => ?_) (fun D H2 ys nD s2 eD pr2 => q D H2 ⟨D, ys, rfl, nD, s2, eD, ?_⟩)
  · obtain ⟨g, hg, a, ea, hA⟩ := Paired.at pr (itOf_at hi)
    have eg : gs.getD i [] = g := by rw [List.getD_eq_getElem?_getD, hg]; rfl
    refine ⟨_, hσ _, a, _, congrArg (fun z => [z]) ea, .inl (s2.seq hA), fun l nl => k _ _ (Same.new nl) ⟨l, rfl, (fun z => by rw [z, eD] at nl; cases nl), ?_⟩⟩
    rw [upd_same, eg]
  · have hr : ((List.range us.length).filter fun _ => true) = List.range gs.length := by
      rw [List.filter_eq_self.mpr (fun _ _ => rfl), Paired.len pr]
    rw [hr] at pr2
    have hm : gs = (List.range gs.length).map fun j => gs.getD j [] := by
      apply List.ext_getElem
      · rw [List.length_map, List.length_range]
      · intro j h1 h2
        rw [List.getElem_map, List.getElem_range, List.getD_eq_getElem?_getD, List.getElem?_eq_getElem h1]
        rfl
    rw [hm]
    exact Paired.map (f := fun j => gs.getD j []) pr2
theorem many_of (z : Int) : ∃ m : Nat, 1 + z % 3 = (m : Int) ∧ 1 ≤ m ∧ m ≤ 3 := by
  have b1 := Int.emod_nonneg z (show (3 : Int) ≠ 0 by decide)
  have b2 := Int.emod_lt_of_pos z (show (0 : Int) < 3 by decide)
  exact ⟨(1 + z % 3).toNat, by omega, by omega, by omega⟩
theorem okGs_small {gs : List (List Bool)} (h : okGs gs = true) : gs.length ≤ 100 := by
  have := okGs_len h
  omega
end GW
namespace GW
open PySem PySem.Spec PyProof.Rows L2
/-- a gate of one input around a formula -/
theorem wrap_ok {gs : List (List Bool)} {m : Int} {g0 : List Bool} {fm : Fm} (hok : okGs gs = true) (hg0 : gs[0]? = some g0) (hw : g0.length = 2) (ho : okF gs m fm = true) : okF gs m (.gate 0 [fm]) = true := by
  have := (okGs_len hok).1
  have e0 : gs.getD (0 : Int).toNat [] = g0 := by rw [List.getD_eq_getElem?_getD, show (0 : Int).toNat = 0 from rfl, hg0]; rfl
  simp only [okF, okFs]
  rw [e0, hw, ho, decide_eq_true (show (0 : Int) < (gs.length : Int) by omega)]
  rfl
end GW
set_option Elab.async false
set_option linter.all false
set_option maxRecDepth 100000
set_option maxHeartbeats 4000000
/-! The contrary of all gates makes the contrary of the table. -/
namespace GW
open PySem PySem.Spec PyProof.Rows L2
theorem rowOf_not : ∀ l : List Bool, rowOf (l.map not) + rowOf l + 1 = 2 ^ l.length
  | [] => rfl
  | b :: r => by
    have h := rowOf_not r
    show (if (!b) then 1 else 0) + 2 * rowOf (r.map not) + ((if b then 1 else 0) + 2 * rowOf r) + 1 = 2 ^ (r.length + 1)
    rw [Nat.pow_succ]
    cases b with
    | true =>
      show 0 + 2 * rowOf (r.map not) + (1 + 2 * rowOf r) + 1 = _
      omega
    | false =>
      show 1 + 2 * rowOf (r.map not) + (0 + 2 * rowOf r) + 1 = _
      omega
theorem contrs_at {gs : List (List Bool)} {n : Nat} : (gs.map contr).getD n [] = contr (gs.getD n []) := by
  rw [List.getD_eq_getElem?_getD, List.getD_eq_getElem?_getD, List.getElem?_map]
  cases gs[n]? <;> rfl
theorem okGs_contr {gs : List (List Bool)} (h : okGs gs = true) : okGs (gs.map contr) = true := by
  simp only [okGs, Bool.and_eq_true, List.length_map] at h ⊢
  refine ⟨h.1, h.2.1, List.all_eq_true.mpr fun g hg => ?_⟩
  obtain ⟨g', hg', rfl⟩ := List.mem_map.mp hg
  rw [contr_len]
  exact List.all_eq_true.mp h.2.2 g' hg'
mutual
theorem okF_contr (gs : List (List Bool)) (m : Int) : ∀ f : Fm, okF (gs.map contr) m f = okF gs m f
  | .inp n => by simp only [okF]
  | .gate n ps => by
    simp only [okF]
    rw [contrs_at, contr_len, List.length_map, okFs_contr gs m ps]
theorem okFs_contr (gs : List (List Bool)) (m : Int) : ∀ fs : List Fm, okFs (gs.map contr) m fs = okFs gs m fs
  | [] => rfl
  | p :: r => by
    simp only [okFs]
    rw [okF_contr gs m p, okFs_contr gs m r]
end
mutual
theorem val_contr {gs : List (List Bool)} (hok : okGs gs = true) {ins : List Bool} : ∀ f : Fm, okF gs ins.length f = true → val (gs.map contr) ins f = !val gs (ins.map not) f
  | .inp n, h => by
    simp only [okF, Bool.and_eq_true, decide_eq_true_eq] at h
    have hn : n.toNat < ins.length := by omega
    simp only [val]
    rw [List.getD_eq_getElem?_getD, List.getD_eq_getElem?_getD, List.getElem?_map, List.getElem?_eq_getElem hn]
    simp
  | .gate n ps, h => by
    simp only [okF, Bool.and_eq_true, decide_eq_true_eq] at h
    obtain ⟨⟨h0, h1⟩, h2, h3⟩ := h
    have hn : n.toNat < gs.length := by omega
    have hgl : gs[n.toNat]? = some (gs.getD n.toNat []) := by
      rw [List.getD_eq_getElem?_getD, List.getElem?_eq_getElem hn]; rfl
    have hgo := okGs_at hok hgl
    simp only [val]
    rw [contrs_at, vals_contr hok ps h3]
    have hvl : (vals gs (ins.map not) ps).length = wideN (gs.getD n.toNat []).length := by rw [vals_map, List.length_map, h2]
    have hlt := row_lt hgo (ins := (vals gs (ins.map not) ps).map not) (by rw [List.length_map, hvl])
    rw [contr_at hlt]
    have e := rowOf_not (vals gs (ins.map not) ps)
    rw [hvl, wide_pow hgo] at e
    have e2 : (gs.getD n.toNat []).length - 1 - rowOf ((vals gs (ins.map not) ps).map not) = rowOf (vals gs (ins.map not) ps) := by omega
    rw [e2]
theorem vals_contr {gs : List (List Bool)} (hok : okGs gs = true) {ins : List Bool} : ∀ fs : List Fm, okFs gs ins.length fs = true → vals (gs.map contr) ins fs = (vals gs (ins.map not) fs).map not
  | [], _ => rfl
  | p :: r, h => by
    simp only [okFs, Bool.and_eq_true] at h
    simp only [vals, List.map_cons]
    rw [val_contr hok p h.1, vals_contr hok r h.2]
end
theorem rowAt_not {m i : Nat} (hm : m ≤ 3) (h : i < 2 ^ m) : (rowAt m i).map not = rowAt m (2 ^ m - 1 - i) := by
  have key : ∀ m, m ≤ 3 → ((List.range (2 ^ m)).all fun i => (rowAt m i).map not == rowAt m (2 ^ m - 1 - i)) = true := by
    intro m hm
    match m, hm with
    | 0, _ => decide +kernel
    | 1, _ => decide +kernel
    | 2, _ => decide +kernel
    | 3, _ => decide +kernel
  exact beq_iff_eq.mp (List.all_eq_true.mp (key m hm) i (List.mem_range.mpr h))
theorem tableF_len {gs : List (List Bool)} {m : Nat} {f : Fm} : (tableF gs m f).length = 2 ^ m := by
  unfold tableF
  rw [List.length_map, rows_len]
theorem tableF_at {gs : List (List Bool)} {m i : Nat} {f : Fm} (h : i < 2 ^ m) : (tableF gs m f).getD i false = val gs (rowAt m i) f := by
  unfold tableF
  rw [List.getD_eq_getElem?_getD, List.getElem?_map, rows_at h]
  rfl
theorem table_contr {gs : List (List Bool)} (hok : okGs gs = true) {m : Nat} (hm : m ≤ 3) {f : Fm} (h : okF gs m f = true) : tableF (gs.map contr) m f = contr (tableF gs m f) := by
  have e := contr_map (tableF gs m f)
  rw [tableF_len] at e
  rw [← e, ← map_getD (tableF (gs.map contr) m f), tableF_len]
  refine List.map_congr_left fun i hi => ?_
  have hi' := List.mem_range.mp hi
  rw [tableF_at hi', tableF_at (show 2 ^ m - 1 - i < 2 ^ m by omega), val_contr hok f (by rw [rowAt_len]; exact h), rowAt_not hm hi']
theorem Paired.mapR {α β γ : Type} {R : α → γ → Prop} {f : β → γ} : ∀ {xs : List α} {ys : List β}, Paired R xs (ys.map f) → Paired (fun x y => R x (f y)) xs ys
  | [], [], .nil => .nil
  | _ :: _, _ :: _, .cons r t => .cons r (Paired.mapR t)
end GW
set_option Elab.async false
set_option linter.all false
set_option maxRecDepth 100000
set_option maxHeartbeats 4000000
/-! What class holds all gates of a formula, holds its table. -/
namespace GW
open PySem PySem.Spec PyProof.Rows L2
/-! ### the gates' numbers in a formula -/
mutual
def usedF : Fm → List Int
  | .inp _ => []
  | .gate n ps => n :: usedFs ps
def usedFs : List Fm → List Int
  | [] => []
  | p :: r => usedF p ++ usedFs r
end
/-! ### bits of a row -/
/-- a row's bits below another's -/
def leRow : List Bool → List Bool → Bool
  | [], [] => true
  | a :: r, b :: s => (!a || b) && leRow r s
  | _, _ => false
/-- the sum of some bits -/
def dot : List Bool → List Bool → Bool
  | a :: r, b :: s => (a && b) ^^ dot r s
  | _, _ => false
/-- rises at all pairs of rows -/
def riseAll (g : List Bool) : Bool := (listsOf (wideN g.length)).all fun x => (listsOf (wideN g.length)).all fun y => !leRow x y || (!at_ g (rowOf x) || at_ g (rowOf y))
def affine (g : List Bool) : Bool := (listsOf (wideN g.length)).any fun k => [false, true].any fun t => (listsOf (wideN g.length)).all fun x => at_ g (rowOf x) == (t ^^ dot k x)
theorem rise_all {g : List Bool} (h : okLen g.length = true) : lawRises g = riseAll g :=
  beq_iff_eq.mp (all_gates (p := fun g => lawRises g == riseAll g) (by decide +kernel) (by decide +kernel) (by decide +kernel) h)
theorem sums_all {g : List Bool} (h : okLen g.length = true) : lawSums g = affine g :=
  beq_iff_eq.mp (all_gates (p := fun g => lawSums g == affine g) (by decide +kernel) (by decide +kernel) (by decide +kernel) h)
theorem turn_all {g : List Bool} (h : okLen g.length = true) : ((List.range g.length).all fun r => at_ g r != at_ g (g.length - 1 - r)) = decide (contr g = g) :=
  beq_iff_eq.mp (all_gates (p := fun g => ((List.range g.length).all fun r => at_ g r != at_ g (g.length - 1 - r)) == decide (contr g = g)) (by decide +kernel) (by decide +kernel) (by decide +kernel) h)
end GW
namespace GW
open PySem PySem.Spec PyProof.Rows L2
mutual
/-- only the gates that stand in a formula matter -/
theorem val_used {gs gs' : List (List Bool)} {ins : List Bool} : ∀ f : Fm, (∀ n ∈ usedF f, gs'.getD n.toNat [] = gs.getD n.toNat []) → val gs' ins f = val gs ins f
  | .inp n, _ => by simp only [val]
  | .gate n ps, h => by
    simp only [val]
    rw [h n (by simp only [usedF]; exact List.mem_cons_self), vals_used ps fun k hk => h k (by simp only [usedF]; exact List.mem_cons_of_mem _ hk)]
theorem vals_used {gs gs' : List (List Bool)} {ins : List Bool} : ∀ fs : List Fm, (∀ n ∈ usedFs fs, gs'.getD n.toNat [] = gs.getD n.toNat []) → vals gs' ins fs = vals gs ins fs
  | [], _ => rfl
  | p :: r, h => by
    simp only [vals]
    rw [val_used p fun k hk => h k (by simp only [usedFs]; exact List.mem_append_left _ hk), vals_used r fun k hk => h k (by simp only [usedFs]; exact List.mem_append_right _ hk)]
end
theorem rowOf_false : ∀ {l : List Bool}, (∀ b ∈ l, b = false) → rowOf l = 0
  | [], _ => rfl
  | b :: r, h => by
    have e := h b List.mem_cons_self
    subst e
    show 0 + 2 * rowOf r = 0
    rw [rowOf_false fun b hb => h b (List.mem_cons_of_mem _ hb)]
theorem rowOf_true : ∀ {l : List Bool}, (∀ b ∈ l, b = true) → rowOf l = 2 ^ l.length - 1
  | [], _ => rfl
  | b :: r, h => by
    have e := h b List.mem_cons_self
    subst e
    show 1 + 2 * rowOf r = 2 ^ (r.length + 1) - 1
    rw [rowOf_true fun b hb => h b (List.mem_cons_of_mem _ hb), Nat.pow_succ]
    have := Nat.one_le_two_pow (n := r.length)
    omega
theorem gate_at {gs : List (List Bool)} {n : Int} (h0 : 0 ≤ n) (h1 : n < gs.length) : gs[n.toNat]? = some (gs.getD n.toNat []) := by
  rw [List.getD_eq_getElem?_getD, List.getElem?_eq_getElem (show n.toNat < gs.length by omega)]; rfl
section
variable {gs : List (List Bool)} (hok : okGs gs = true)
include hok
mutual
theorem keep0 {m : Nat} {ins : List Bool} (hl : ins.length = m) (hi : ∀ b ∈ ins, b = false) : ∀ f : Fm, okF gs m f = true → (∀ n ∈ usedF f, at_ (gs.getD n.toNat []) 0 = false) → val gs ins f = false
  | .inp n, ho, _ => by
    simp only [okF, Bool.and_eq_true, decide_eq_true_eq] at ho
    have hn : n.toNat < ins.length := by omega
    simp only [val]
    rw [List.getD_eq_getElem?_getD, List.getElem?_eq_getElem hn]
    exact hi _ (List.getElem_mem hn)
  | .gate n ps, ho, hu => by
    simp only [okF, Bool.and_eq_true, decide_eq_true_eq] at ho
    simp only [val]
    rw [rowOf_false (keep0s hl hi ps ho.2.2 fun k hk => hu k (by simp only [usedF]; exact List.mem_cons_of_mem _ hk))]
    exact hu n (by simp only [usedF]; exact List.mem_cons_self)
theorem keep0s {m : Nat} {ins : List Bool} (hl : ins.length = m) (hi : ∀ b ∈ ins, b = false) : ∀ fs : List Fm, okFs gs m fs = true → (∀ n ∈ usedFs fs, at_ (gs.getD n.toNat []) 0 = false) → ∀ b ∈ vals gs ins fs, b = false
  | [], _, _, b, hb => by simp only [vals] at hb; cases hb
  | p :: r, ho, hu, b, hb => by
    simp only [okFs, Bool.and_eq_true] at ho
    simp only [vals] at hb
    rcases List.mem_cons.mp hb with e | e
    · rw [e]; exact keep0 hl hi p ho.1 fun k hk => hu k (by simp only [usedFs]; exact List.mem_append_left _ hk)
    · exact keep0s hl hi r ho.2 (fun k hk => hu k (by simp only [usedFs]; exact List.mem_append_right _ hk)) b e
end
mutual
theorem keep1 {m : Nat} {ins : List Bool} (hl : ins.length = m) (hi : ∀ b ∈ ins, b = true) : ∀ f : Fm, okF gs m f = true → (∀ n ∈ usedF f, at_ (gs.getD n.toNat []) ((gs.getD n.toNat []).length - 1) = true) → val gs ins f = true
  | .inp n, ho, _ => by
    simp only [okF, Bool.and_eq_true, decide_eq_true_eq] at ho
    have hn : n.toNat < ins.length := by omega
    simp only [val]
    rw [List.getD_eq_getElem?_getD, List.getElem?_eq_getElem hn]
    exact hi _ (List.getElem_mem hn)
  | .gate n ps, ho, hu => by
    simp only [okF, Bool.and_eq_true, decide_eq_true_eq] at ho
    have hgo := okGs_at hok (gate_at ho.1.1 ho.1.2)
    simp only [val]
    rw [rowOf_true (keep1s hl hi ps ho.2.2 fun k hk => hu k (by simp only [usedF]; exact List.mem_cons_of_mem _ hk)), vals_map, List.length_map, ho.2.1, wide_pow hgo]
    exact hu n (by simp only [usedF]; exact List.mem_cons_self)
theorem keep1s {m : Nat} {ins : List Bool} (hl : ins.length = m) (hi : ∀ b ∈ ins, b = true) : ∀ fs : List Fm, okFs gs m fs = true → (∀ n ∈ usedFs fs, at_ (gs.getD n.toNat []) ((gs.getD n.toNat []).length - 1) = true) → ∀ b ∈ vals gs ins fs, b = true
  | [], _, _, b, hb => by simp only [vals] at hb; cases hb
  | p :: r, ho, hu, b, hb => by
    simp only [okFs, Bool.and_eq_true] at ho
    simp only [vals] at hb
    rcases List.mem_cons.mp hb with e | e
    · rw [e]; exact keep1 hl hi p ho.1 fun k hk => hu k (by simp only [usedFs]; exact List.mem_append_left _ hk)
    · exact keep1s hl hi r ho.2 (fun k hk => hu k (by simp only [usedFs]; exact List.mem_append_right _ hk)) b e
end
theorem leRow_at : ∀ {x y : List Bool} {i : Nat}, leRow x y = true → x.getD i false = true → y.getD i false = true
  | [], [], i, _, h => h
  | [], _ :: _, i, h, _ => by simp only [leRow] at h; cases h
  | _ :: _, [], i, h, _ => by simp only [leRow] at h; cases h
  | a :: r, b :: s, 0, h, e => by
    simp only [leRow, Bool.and_eq_true, Bool.or_eq_true, Bool.not_eq_true'] at h
    rcases h.1 with q | q
    · rw [show (a :: r).getD 0 false = a from rfl, q] at e; cases e
    · exact q
  | a :: r, b :: s, i + 1, h, e => by
    simp only [leRow, Bool.and_eq_true] at h
    exact leRow_at (x := r) (y := s) (i := i) h.2 e
mutual
theorem keepR {m : Nat} {x y : List Bool} (hx : x.length = m) (hy : y.length = m) (hl : leRow x y = true) : ∀ f : Fm, okF gs m f = true → (∀ n ∈ usedF f, riseAll (gs.getD n.toNat []) = true) → (!val gs x f || val gs y f) = true
  | .inp n, ho, _ => by
    simp only [val]
    cases e : x.getD n.toNat false with
    | false => rfl
    | true => rw [leRow_at hok hl e]; rfl
  | .gate n ps, ho, hu => by
    simp only [okF, Bool.and_eq_true, decide_eq_true_eq] at ho
    have hr := keepRs hx hy hl ps ho.2.2 fun k hk => hu k (by simp only [usedF]; exact List.mem_cons_of_mem _ hk)
    have hg := hu n (by simp only [usedF]; exact List.mem_cons_self)
    unfold riseAll at hg
    have h1 := List.all_eq_true.mp hg (vals gs x ps) (by have := mem_listsOf (vals gs x ps); rw [vals_map, List.length_map, ho.2.1] at this; rw [vals_map]; exact this)
    have h2 := List.all_eq_true.mp h1 (vals gs y ps) (by have := mem_listsOf (vals gs y ps); rw [vals_map, List.length_map, ho.2.1] at this; rw [vals_map]; exact this)
    rw [hr, Bool.not_true, Bool.false_or] at h2
    simp only [val]
    exact h2
theorem keepRs {m : Nat} {x y : List Bool} (hx : x.length = m) (hy : y.length = m) (hl : leRow x y = true) : ∀ fs : List Fm, okFs gs m fs = true → (∀ n ∈ usedFs fs, riseAll (gs.getD n.toNat []) = true) → leRow (vals gs x fs) (vals gs y fs) = true
  | [], _, _ => rfl
  | p :: r, ho, hu => by
    simp only [okFs, Bool.and_eq_true] at ho
    simp only [vals, leRow, Bool.and_eq_true]
    exact ⟨keepR hx hy hl p ho.1 fun k hk => hu k (by simp only [usedFs]; exact List.mem_append_left _ hk), keepRs hx hy hl r ho.2 fun k hk => hu k (by simp only [usedFs]; exact List.mem_append_right _ hk)⟩
end
end
/-! ### sums -/
def xorv : List Bool → List Bool → List Bool
  | a :: r, b :: s => (a ^^ b) :: xorv r s
  | _, _ => []
theorem xorv_len : ∀ {a b : List Bool} {m : Nat}, a.length = m → b.length = m → (xorv a b).length = m
  | [], _, m, h, _ => by cases h; rfl
  | _ :: _, [], m, h, h2 => by cases h2; cases h
  | a :: r, b :: s, m, h, h2 => by
    cases m with
    | zero => cases h
    | succ m => exact congrArg Nat.succ (xorv_len (Nat.succ.inj h) (Nat.succ.inj h2))
theorem dot_xorv : ∀ {a b x : List Bool} {m : Nat}, a.length = m → b.length = m → x.length = m → dot (xorv a b) x = (dot a x ^^ dot b x)
  | [], [], [], m, _, _, _ => rfl
  | [], [], _ :: _, m, h, _, h3 => by cases h; cases h3
  | [], _ :: _, _, m, h, h2, _ => by cases h; cases h2
  | _ :: _, [], _, m, h, h2, _ => by cases h2; cases h
  | _ :: _, _ :: _, [], m, h, _, h3 => by cases h3; cases h
  | a :: r, b :: s, c :: t, m, h, h2, h3 => by
    cases m with
    | zero => cases h
    | succ m =>
      have ih := dot_xorv (a := r) (b := s) (x := t) (Nat.succ.inj h) (Nat.succ.inj h2) (Nat.succ.inj h3)
      show (((a ^^ b) && c) ^^ dot (xorv r s) t) = (((a && c) ^^ dot r t) ^^ ((b && c) ^^ dot s t))
      rw [ih]
      cases a <;> cases b <;> cases c <;> cases dot r t <;> cases dot s t <;> rfl
theorem dot_zero : ∀ (n : Nat) (x : List Bool), dot (List.replicate n false) x = false
  | 0, _ => by unfold dot; rfl
  | n + 1, [] => by unfold dot; rfl
  | n + 1, a :: r => by
    show ((false && a) ^^ dot (List.replicate n false) r) = false
    rw [dot_zero n r]
    cases a <;> rfl
def unitv : Nat → Nat → List Bool
  | 0, _ => []
  | m + 1, 0 => true :: List.replicate m false
  | m + 1, i + 1 => false :: unitv m i
theorem unitv_len : ∀ m i, (unitv m i).length = m
  | 0, _ => rfl
  | m + 1, 0 => by show (List.replicate m false).length + 1 = m + 1; rw [List.length_replicate]
  | m + 1, i + 1 => congrArg Nat.succ (unitv_len m i)
theorem dot_unit : ∀ (m i : Nat) (x : List Bool), x.length = m → i < m → dot (unitv m i) x = x.getD i false
  | 0, _, _, _, h => by omega
  | m + 1, i, [], h, _ => by cases h
  | m + 1, 0, a :: r, _, _ => by
    show ((true && a) ^^ dot (List.replicate m false) r) = a
    rw [dot_zero]
    cases a <;> rfl
  | m + 1, i + 1, a :: r, h, hi => by
    show ((false && a) ^^ dot (unitv m i) r) = r.getD i false
    rw [dot_unit m i r (Nat.succ.inj h) (by omega)]
    cases a <;> cases r.getD i false <;> rfl
section
variable {gs : List (List Bool)} (hok : okGs gs = true) {m : Nat}
include hok
mutual
theorem keepS : ∀ f : Fm, okF gs m f = true → (∀ n ∈ usedF f, affine (gs.getD n.toNat []) = true) → ∃ k t, k.length = m ∧ ∀ x : List Bool, x.length = m → val gs x f = (t ^^ dot k x)
  | .inp n, ho, _ => by
    simp only [okF, Bool.and_eq_true, decide_eq_true_eq] at ho
    refine ⟨unitv m n.toNat, false, unitv_len _ _, fun x hx => ?_⟩
    rw [dot_unit m n.toNat x hx (by omega), Bool.false_xor]
    simp only [val]
  | .gate n ps, ho, hu => by
    simp only [okF, Bool.and_eq_true, decide_eq_true_eq] at ho
    have hg := hu n (by simp only [usedF]; exact List.mem_cons_self)
    unfold affine at hg
    obtain ⟨kg, _, hg⟩ := List.any_eq_true.mp hg
    obtain ⟨tg, _, hg⟩ := List.any_eq_true.mp hg
    obtain ⟨k, t, hk, h⟩ := keepSs kg ps ho.2.2 fun k hk => hu k (by simp only [usedF]; exact List.mem_cons_of_mem _ hk)
    refine ⟨k, tg ^^ t, hk, fun x hx => ?_⟩
    have h1 := List.all_eq_true.mp hg (vals gs x ps) (by have := mem_listsOf (vals gs x ps); rw [vals_map, List.length_map, ho.2.1] at this; rw [vals_map]; exact this)
    simp only [val]
    rw [show (gs.getD n.toNat []).getD (rowOf (vals gs x ps)) false = (tg ^^ dot kg (vals gs x ps)) from beq_iff_eq.mp h1, h x hx, Bool.xor_assoc]
theorem keepSs : ∀ (kg : List Bool) (fs : List Fm), okFs gs m fs = true → (∀ n ∈ usedFs fs, affine (gs.getD n.toNat []) = true) → ∃ k t, k.length = m ∧ ∀ x : List Bool, x.length = m → dot kg (vals gs x fs) = (t ^^ dot k x)
  | [], fs, _, _ => ⟨List.replicate m false, false, List.length_replicate, fun x hx => by rw [dot_zero]; unfold dot; rfl⟩
  | a :: kg, [], _, _ => ⟨List.replicate m false, false, List.length_replicate, fun x hx => by rw [dot_zero]; simp only [vals]; unfold dot; rfl⟩
  | a :: kg, p :: r, ho, hu => by
    simp only [okFs, Bool.and_eq_true] at ho
    obtain ⟨k1, t1, hk1, h1⟩ := keepS p ho.1 fun k hk => hu k (by simp only [usedFs]; exact List.mem_append_left _ hk)
    obtain ⟨k2, t2, hk2, h2⟩ := keepSs kg r ho.2 fun k hk => hu k (by simp only [usedFs]; exact List.mem_append_right _ hk)
    cases a with
    | false =>
      refine ⟨k2, t2, hk2, fun x hx => ?_⟩
      simp only [vals]
      show ((false && val gs x p) ^^ dot kg (vals gs x r)) = _
      rw [h2 x hx, Bool.false_and, Bool.false_xor]
    | true =>
      refine ⟨xorv k1 k2, t1 ^^ t2, xorv_len hk1 hk2, fun x hx => ?_⟩
      simp only [vals]
      show ((true && val gs x p) ^^ dot kg (vals gs x r)) = _
      rw [h2 x hx, h1 x hx, dot_xorv hk1 hk2 hx]
      cases t1 <;> cases t2 <;> cases dot k1 x <;> cases dot k2 x <;> rfl
end
end
/-! ### all five -/
theorem rowAt_rowOf {m : Nat} (hm : m ≤ 3) {x : List Bool} (h : x.length = m) : rowAt m (rowOf x) = x := by
  have key : ∀ m, m ≤ 3 → ((listsOf m).all fun x => rowAt m (rowOf x) == x) = true := by
    intro m hm
    match m, hm with
    | 0, _ => decide +kernel
    | 1, _ => decide +kernel
    | 2, _ => decide +kernel
    | 3, _ => decide +kernel
  have := List.all_eq_true.mp (key m hm) x (by have := mem_listsOf x; rw [h] at this; exact this)
  exact beq_iff_eq.mp this
theorem okLen_pow {m : Nat} (h1 : 1 ≤ m) (h3 : m ≤ 3) : okLen (2 ^ m) = true ∧ wideN (2 ^ m) = m := by
  have : m = 1 ∨ m = 2 ∨ m = 3 := by omega
  rcases this with e | e | e <;> subst e <;> exact ⟨rfl, rfl⟩
theorem listsOf_len : ∀ {n : Nat} {x : List Bool}, x ∈ listsOf n → x.length = n
  | 0, x, h => by rw [List.mem_singleton.mp h]; rfl
  | n + 1, x, h => by
    obtain ⟨l, hl, hx⟩ := List.mem_flatMap.mp h
    have e := listsOf_len hl
    simp only [List.mem_cons, List.not_mem_nil, or_false] at hx
    rcases hx with hx | hx <;> rw [hx, List.length_cons, e]
theorem word_cases {x : Str} (h : x ∈ words) : x = "nought" ∨ x = "one" ∨ x = "turn" ∨ x = "rise" ∨ x = "sum" := by
  simpa [words] using h
theorem kept {gs : List (List Bool)} (hok : okGs gs = true) {m : Nat} (h1 : 1 ≤ m) (h3 : m ≤ 3) {f : Fm} (ho : okF gs m f = true) {x : Str} (hx : x ∈ words) (hu : ∀ n ∈ usedF f, lawHolds (gs.getD n.toNat []) x = true) (hn : ∀ n ∈ usedF f, okLen (gs.getD n.toNat []).length = true) :
    lawHolds (tableF gs m f) x = true := by
  have hp := Nat.one_le_two_pow (n := m)
  obtain ⟨hL, hW⟩ := okLen_pow h1 h3
  have hTl : okLen (tableF gs m f).length = true := by rw [tableF_len]; exact hL
  have at_row : ∀ x : List Bool, x.length = m → at_ (tableF gs m f) (rowOf x) = val gs x f := fun x hx => by
    have hlt := rowOf_lt x
    rw [hx] at hlt
    unfold at_
    rw [tableF_at hlt, rowAt_rowOf h3 hx]
  rcases word_cases hx with e | e | e | e | e
  · have lh : ∀ g, lawHolds g x = !at_ g 0 := fun g => if_pos e
    rw [lh]
    have h0 := at_row (List.replicate m false) List.length_replicate
    rw [rowOf_false (fun b hb => (List.mem_replicate.mp hb).2)] at h0
    rw [h0, keep0 hok List.length_replicate (fun b hb => (List.mem_replicate.mp hb).2) f ho fun n hn => by
      have := hu n hn
      rw [lh] at this
      exact (Bool.not_eq_true' _).mp this]
    rfl
  · have lh : ∀ g, lawHolds g x = at_ g (g.length - 1) := fun g => (if_neg (by rw [e]; decide)).trans (if_pos e)
    rw [lh]
    have h0 := at_row (List.replicate m true) List.length_replicate
    rw [rowOf_true (fun b hb => (List.mem_replicate.mp hb).2), List.length_replicate] at h0
    rw [tableF_len, h0]
    exact keep1 hok List.length_replicate (fun b hb => (List.mem_replicate.mp hb).2) f ho fun n hn => by
      have := hu n hn
      rw [lh] at this
      exact this
  · have lh : ∀ g, lawHolds g x = ((List.range g.length).all fun r => at_ g r != at_ g (g.length - 1 - r)) := fun g => (if_neg (by rw [e]; decide)).trans ((if_neg (by rw [e]; decide)).trans (if_pos e))
    rw [lh, turn_all hTl, ← table_contr hok h3 ho]
    refine decide_eq_true ?_
    unfold tableF
    refine List.map_congr_left fun r _ => val_used f fun n hn' => ?_
    rw [contrs_at]
    have := hu n hn'
    rw [lh, turn_all (hn n hn')] at this
    exact of_decide_eq_true this
  · have lh : ∀ g, lawHolds g x = lawRises g := fun g => (if_neg (by rw [e]; decide)).trans ((if_neg (by rw [e]; decide)).trans ((if_neg (by rw [e]; decide)).trans (if_pos e)))
    rw [lh, rise_all hTl]
    unfold riseAll
    rw [tableF_len, hW]
    refine List.all_eq_true.mpr fun a ha => List.all_eq_true.mpr fun b hb => ?_
    have hal := listsOf_len ha
    have hbl := listsOf_len hb
    rw [at_row a hal, at_row b hbl]
    cases hle : leRow a b with
    | false => rfl
    | true =>
      rw [Bool.not_true, Bool.false_or]
      exact keepR hok hal hbl hle f ho fun n hn' => by
        have := hu n hn'
        rw [lh, rise_all (hn n hn')] at this
        exact this
  · have lh : ∀ g, lawHolds g x = lawSums g := fun g => (if_neg (by rw [e]; decide)).trans ((if_neg (by rw [e]; decide)).trans ((if_neg (by rw [e]; decide)).trans (if_neg (by rw [e]; decide))))
    rw [lh, sums_all hTl]
    obtain ⟨k, t, hk, h⟩ := keepS hok f ho fun n hn' => by
      have := hu n hn'
      rw [lh, sums_all (hn n hn')] at this
      exact this
    unfold affine
    rw [tableF_len, hW]
    refine List.any_eq_true.mpr ⟨k, by have := mem_listsOf k; rw [hk] at this; exact this, List.any_eq_true.mpr ⟨t, by cases t <;> simp, List.all_eq_true.mpr fun a ha => ?_⟩⟩
    have hal := listsOf_len ha
    rw [at_row a hal, h a hal]
    exact beq_self_eq_true _
end GW
namespace GW
open PySem PySem.Spec PyProof.Rows L2
mutual
theorem used_in {gs : List (List Bool)} {m : Int} : ∀ f : Fm, okF gs m f = true → ∀ n ∈ usedF f, 0 ≤ n ∧ n < (gs.length : Int)
  | .inp _, _, n, h => by simp only [usedF] at h; cases h
  | .gate k ps, ho, n, h => by
    simp only [okF, Bool.and_eq_true, decide_eq_true_eq] at ho
    simp only [usedF] at h
    rcases List.mem_cons.mp h with e | e
    · rw [e]; exact ho.1
    · exact useds_in ps ho.2.2 n e
theorem useds_in {gs : List (List Bool)} {m : Int} : ∀ fs : List Fm, okFs gs m fs = true → ∀ n ∈ usedFs fs, 0 ≤ n ∧ n < (gs.length : Int)
  | [], _, n, h => by simp only [usedFs] at h; cases h
  | p :: r, ho, n, h => by
    simp only [okFs, Bool.and_eq_true] at ho
    simp only [usedFs] at h
    rcases List.mem_append.mp h with e | e
    · exact used_in p ho.1 n e
    · exact useds_in r ho.2 n e
end
mutual
theorem used_len {gs : List (List Bool)} {m : Int} : ∀ (f : Fm) (d : Nat), okF gs m f = true → dF f ≤ d → (usedF f).length ≤ 4 ^ d
  | .inp _, d, _, _ => by simp only [usedF]; exact Nat.zero_le _
  | .gate k ps, 0, _, h => by simp only [dF] at h; omega
  | .gate k ps, d + 1, ho, h => by
    simp only [okF, Bool.and_eq_true, decide_eq_true_eq] at ho
    simp only [dF] at h
    have q := useds_len ps d ho.2.2 (by omega)
    have w := wide_le (gs.getD k.toNat []).length
    have pw := Nat.one_le_pow d 4 (by decide)
    simp only [usedF, List.length_cons]
    rw [ho.2.1] at q
    rw [Nat.pow_succ]
    have : wideN (gs.getD k.toNat []).length * 4 ^ d ≤ 3 * 4 ^ d := Nat.mul_le_mul_right _ w
    omega
theorem useds_len {gs : List (List Bool)} {m : Int} : ∀ (fs : List Fm) (d : Nat), okFs gs m fs = true → dFs fs ≤ d → (usedFs fs).length ≤ fs.length * 4 ^ d
  | [], d, _, _ => by simp only [usedFs]; exact Nat.zero_le _
  | p :: r, d, ho, h => by
    simp only [okFs, Bool.and_eq_true] at ho
    simp only [dFs] at h
    have a := used_len p d ho.1 (Nat.le_trans (Nat.le_max_left _ _) h)
    have b := useds_len r d ho.2 (Nat.le_trans (Nat.le_max_right _ _) h)
    simp only [usedFs, List.length_append, List.length_cons]
    rw [Nat.add_mul, Nat.one_mul]
    omega
end
abbrev LI (ns : List Int) : List V := ns.map V.int
def sp_law_used (K : PySem.W.Frag) (n : Nat) : Sp := fun vs H Q _ => ∃ x f, vs = [x] ∧ IsF K H x f ∧ dF f < n ∧ (usedF f).length ≤ 1000 ∧ ∀ v H', NewL H H' v (LI (usedF f)) → Q v H'
theorem usedFs_app : ∀ as bs : List Fm, usedFs (as ++ bs) = usedFs as ++ usedFs bs
  | [], _ => rfl
  | a :: r, bs => by
    simp only [List.cons_append, usedFs]
    rw [usedFs_app r bs, List.append_assoc]
theorem usedFs_at : ∀ {fs : List Fm} {i : Nat} {f : Fm}, fs[i]? = some f → (usedFs (fs.take i)).length + (usedF f).length ≤ (usedFs fs).length
  | [], i, f, h => by simp at h
  | p :: r, 0, f, h => by
    have e : p = f := Option.some.inj h
    subst e
    simp only [List.take_zero, usedFs, List.length_append, List.length_nil]
    omega
  | p :: r, i + 1, f, h => by
    have ih := usedFs_at (fs := r) (i := i) (f := f) (by simpa using h)
    simp only [List.take_succ_cons, usedFs, List.length_append]
    omega
end GW
namespace GW
open PySem PySem.Spec PyProof.Rows L2
def topS (i : Nat) : Stmt := PySem.Challenge.pw_gatewhole_k09_whole_classes_kept.main.body.getD i (.Pass ⟨0, 0, 0, 0⟩)
abbrev s_ask_gate : Stmt := topS 9
theorem sc_ask_gate : FnScope ["gate"] ["gate"] (defScope s_ask_gate) := ⟨rfl, rfl, rfl, by decide +kernel, rfl, by decide +kernel, by decide +kernel⟩
abbrev s_ask_gates : Stmt := topS 10
theorem sc_ask_gates : FnScope ["gates", "gate"] ["gates"] (defScope s_ask_gates) := ⟨rfl, rfl, rfl, by decide +kernel, rfl, by decide +kernel, by decide +kernel⟩
abbrev s_wide : Stmt := topS 11
theorem sc_wide : FnScope ["gate"] ["gate"] (defScope s_wide) := ⟨rfl, rfl, rfl, by decide +kernel, rfl, by decide +kernel, by decide +kernel⟩
abbrev s_row_of : Stmt := topS 12
theorem sc_row_of : FnScope ["inputs", "k"] ["inputs"] (defScope s_row_of) := ⟨rfl, rfl, rfl, by decide +kernel, rfl, by decide +kernel, by decide +kernel⟩
abbrev s_turn_witness : Stmt := topS 13
theorem sc_turn_witness : FnScope ["gate", "row"] ["gate"] (defScope s_turn_witness) := ⟨rfl, rfl, rfl, by decide +kernel, rfl, by decide +kernel, by decide +kernel⟩
abbrev s_rise_witness : Stmt := topS 14
theorem sc_rise_witness : FnScope ["gate", "bit", "row"] ["gate"] (defScope s_rise_witness) := ⟨rfl, rfl, rfl, by decide +kernel, rfl, by decide +kernel, by decide +kernel⟩
abbrev s_sum_witness : Stmt := topS 15
theorem sc_sum_witness : FnScope ["gate", "one", "other", "row", "rows", "at"] ["gate"] (defScope s_sum_witness) := ⟨rfl, rfl, rfl, by decide +kernel, rfl, by decide +kernel, by decide +kernel⟩
abbrev s_witness : Stmt := topS 16
theorem sc_witness : FnScope ["gate", "word"] ["gate", "word"] (defScope s_witness) := ⟨rfl, rfl, rfl, by decide +kernel, rfl, by decide +kernel, by decide +kernel⟩
abbrev s_is_in : Stmt := topS 17
theorem sc_is_in : FnScope ["gate", "word"] ["gate", "word"] (defScope s_is_in) := ⟨rfl, rfl, rfl, by decide +kernel, rfl, by decide +kernel, by decide +kernel⟩
abbrev s_ask_inputs : Stmt := topS 19
theorem sc_ask_inputs : FnScope ["many"] ["many"] (defScope s_ask_inputs) := ⟨rfl, rfl, rfl, by decide +kernel, rfl, by decide +kernel, by decide +kernel⟩
abbrev s_ask_formula : Stmt := topS 20
theorem sc_ask_formula : FnScope ["gates", "formula", "many", "part"] ["gates", "formula", "many"] (defScope s_ask_formula) := ⟨rfl, rfl, rfl, by decide +kernel, rfl, by decide +kernel, by decide +kernel⟩
abbrev s_worth : Stmt := topS 21
theorem sc_worth : FnScope ["gates", "formula", "inputs", "part"] ["gates", "formula", "inputs"] (defScope s_worth) := ⟨rfl, rfl, rfl, by decide +kernel, rfl, by decide +kernel, by decide +kernel⟩
abbrev s_rows_of : Stmt := topS 22
theorem sc_rows_of : FnScope ["many", "found", "k", "row"] ["many"] (defScope s_rows_of) := ⟨rfl, rfl, rfl, by decide +kernel, rfl, by decide +kernel, by decide +kernel⟩
abbrev s_table_of : Stmt := topS 23
theorem sc_table_of : FnScope ["gates", "formula", "many", "row"] ["gates", "formula", "many"] (defScope s_table_of) := ⟨rfl, rfl, rfl, by decide +kernel, rfl, by decide +kernel, by decide +kernel⟩
abbrev s__law_cell_at : Stmt := topS 25
theorem sc__law_cell_at : FnScope ["script", "k"] ["script", "k"] (defScope s__law_cell_at) := ⟨rfl, rfl, rfl, by decide +kernel, rfl, by decide +kernel, by decide +kernel⟩
abbrev s__law_next : Stmt := topS 26
theorem sc__law_next : FnScope ["seed"] ["seed"] (defScope s__law_next) := ⟨rfl, rfl, rfl, by decide +kernel, rfl, by decide +kernel, by decide +kernel⟩
abbrev s__law_gate : Stmt := topS 27
theorem sc__law_gate : FnScope ["seed", "most", "size", "way", "found", "left", "row"] ["seed", "most"] (defScope s__law_gate) := ⟨rfl, rfl, rfl, by decide +kernel, rfl, by decide +kernel, by decide +kernel⟩
abbrev s__law_gates : Stmt := topS 28
theorem sc__law_gates : FnScope ["script", "most", "gates", "k"] ["script", "most"] (defScope s__law_gates) := ⟨rfl, rfl, rfl, by decide +kernel, rfl, by decide +kernel, by decide +kernel⟩
abbrev s__law_wide : Stmt := topS 29
theorem sc__law_wide : FnScope ["gate"] ["gate"] (defScope s__law_wide) := ⟨rfl, rfl, rfl, by decide +kernel, rfl, by decide +kernel, by decide +kernel⟩
abbrev s__law_formula : Stmt := topS 30
theorem sc__law_formula : FnScope ["seed", "deep", "gates", "many", "number", "parts", "k"] ["seed", "deep", "gates", "many"] (defScope s__law_formula) := ⟨rfl, rfl, rfl, by decide +kernel, rfl, by decide +kernel, by decide +kernel⟩
abbrev s__law_sums : Stmt := topS 31
theorem sc__law_sums : FnScope ["gate", "last", "some", "turned", "fits", "row", "met"] ["gate"] (defScope s__law_sums) := ⟨rfl, rfl, rfl, by decide +kernel, rfl, by decide +kernel, by decide +kernel⟩
abbrev s__law_rises : Stmt := topS 32
theorem sc__law_rises : FnScope ["gate", "bit", "row"] ["gate"] (defScope s__law_rises) := ⟨rfl, rfl, rfl, by decide +kernel, rfl, by decide +kernel, by decide +kernel⟩
abbrev s__law_holds : Stmt := topS 33
theorem sc__law_holds : FnScope ["gate", "word", "row"] ["gate", "word"] (defScope s__law_holds) := ⟨rfl, rfl, rfl, by decide +kernel, rfl, by decide +kernel, by decide +kernel⟩
abbrev s__law_used : Stmt := topS 34
theorem sc__law_used : FnScope ["formula", "found", "part"] ["formula"] (defScope s__law_used) := ⟨rfl, rfl, rfl, by decide +kernel, rfl, by decide +kernel, by decide +kernel⟩
abbrev s_law : Stmt := topS 35
theorem sc_law : FnScope ["script", "gates", "many", "formula", "table", "used", "word", "gate", "number"] ["script"] (defScope s_law) := ⟨rfl, rfl, rfl, by decide +kernel, rfl, by decide +kernel, by decide +kernel⟩
end GW
namespace GW
open PySem PySem.Spec PyProof.Rows L2
section
variable {P : Program} {w : World} {K : PySem.W.Frag} {mg : Str → Option Value} {base : Heap}
theorem ok_ask_gate {C : Addr} (D : Def K mg "ask_gate" s_ask_gate ["gate"]) (B : Bl mg) (e_NoGate : ErrC K mg "NoGate" C) : Fn P w K mg base (L2.CX P w) 1 "ask_gate" ["gate"] (sp_ask_gate K C) := by
  have m_len := B.len
  refine D.fn fun f fd F => F.okX sc_ask_gate (fun vs H Q E h => ?_) (fun cdv A outer s H vs Q E hr h => ?_)
  · obtain ⟨a, ns, rfl, _⟩ := h
    rfl
  obtain ⟨v, g, rfl, ⟨a, rfl, hS⟩, q1, q2⟩ := h
  refine ⟨_, (pss_one (ps_if (pt_cmpR (notInS (K := K)) (pe_callB (lenS (K := K)) (by rfl) m_len PySem.boot_len (pa_cons (pv 0) pa_nil)) (pe_tup (pa_cons pe_int (pa_cons pe_int (pa_cons pe_int pa_nil)))) (by rfl)) (pss_one (ps_raise rfl (takes_of rfl rfl rfl rfl) (pmk_own PySem.F.excBase_ValueError e_NoGate.x e_NoGate.g e_NoGate.k (raises_own e_NoGate.b e_NoGate.t) rfl))) pss_nil)), ?_⟩
  refine ⟨_, rfl, a, _, rfl, .inl hS, by show 3 ≤ sizeLine; decide, fun p np => ⟨p, _, rfl, .inr (SqT.of upd_same), rfl, rfl, _, rfl, ?_⟩⟩
  show if (if true = true then !inV (V.int ((LB g).length : Int)) [V.int 2, V.int 4, V.int 8] else inV (V.int ((LB g).length : Int)) [V.int 2, V.int 4, V.int 8]) = true then _ else _
  rw [if_pos rfl, inV_len, lb_len]
  cases e : okLen g.length with
  | true => exact iteF (q1 e _ (Same.new np))
  | false => exact iteT (q2 e _ (Same.new np))
theorem ok_ask_gates {C : Addr} (D : Def K mg "ask_gates" s_ask_gates ["gates"]) (B : Bl mg) (e_NoGate : ErrC K mg "NoGate" C) (G_ask_gate : Fn P w K mg base (L2.CX P w) 1 "ask_gate" ["gate"] (sp_ask_gate K C)) : Fn P w K mg base (L2.CX P w) 2 "ask_gates" ["gates"] (sp_ask_gates K C) := by
  have m_len := B.len
  refine D.fn fun f fd F => F.okX sc_ask_gates (fun vs H Q E h => ?_) (fun cdv A outer s H vs Q E hr h => ?_)
  · obtain ⟨v, gs, rfl, _⟩ := h
    rfl
  obtain ⟨v, gs, rfl, ⟨a, us, rfl, hS, pr⟩, hz, q1, q2⟩ := h
  have hl : us.length = gs.length := Paired.len pr
  refine ⟨_, (pss_cons (ps_if (pt_not (pt_chain op_le op_le pe_int (pe_callB (lenS (K := K)) (by rfl) m_len PySem.boot_len (pa_cons (pv 0) pa_nil)) pe_int)) (pss_one (ps_raise rfl (takes_of rfl rfl rfl rfl) (pmk_own PySem.F.excBase_ValueError e_NoGate.x e_NoGate.g e_NoGate.k (raises_own e_NoGate.b e_NoGate.t) rfl))) pss_nil)
  (pss_one (ps_for (passes_of rfl) rfl (piL (K := K) (pv 0)) (pg_name (i := 1) sc_ask_gates.nd rfl (Or.inl rfl))
  (pss_one (ps_expr (pe_fn G_ask_gate (hr.mono (by decide)) (by rfl) (passes_call (takes_of rfl rfl rfl rfl) fun _ _ _ _ h => h) (pa_cons (pv 1) pa_nil))))))), ?_⟩
  have body : (1 ≤ gs.length ∧ gs.length ≤ 5) → tFor (iList K (tVar 0)) (gName 1) (tDrop (tFn (sp_ask_gate K C) E (tCons (tVar 1) tNil))) { nx := fun _ H' => Q .non H', rt := Q } [some (.ref a), none] H := fun hb => by
    refine ⟨_, rfl, a, rfl, ⟨_, hS⟩, for_list (K := K) (a := a) (xs := us) (fun i σ H' => ∃ x, σ = [some (.ref a), x] ∧ Same H H' ∧ (gs.take i).all (fun g => okLen g.length) = true) ⟨none, rfl, Same.refl H, rfl⟩ (fun i σ H' _ ⟨_, _, sm, _⟩ => sm.seq hS) ?_ ?_⟩
    · rintro i u σ H' hu ⟨x, rfl, sm, ha⟩
      obtain ⟨g, hg, hB⟩ := Paired.at pr hu
      refine ⟨_, rfl, u, g, rfl, hB.mono sm, fun e H2 s2 => ⟨_, rfl, sm.trans s2, ?_⟩, fun e H2 s2 => q2 ?_ _ (sm.trans s2)⟩
      · rw [take_snoc hg, List.all_append, ha, List.all_cons, List.all_nil, e]
        rfl
      · have : gs.all (fun g => okLen g.length) = false := List.all_eq_false.mpr ⟨g, List.mem_of_getElem? hg, by rw [e]; decide⟩
        unfold okGs
        rw [this, Bool.and_false, Bool.and_false]
    · rintro σ H' ⟨x, rfl, sm, ha⟩
      rw [hl, List.take_length] at ha
      refine q1 ?_ _ sm
      unfold okGs
      rw [ha, decide_eq_true hb.1, decide_eq_true hb.2]
      rfl
  refine ⟨_, rfl, a, _, rfl, .inl hS, _, _, rfl, rfl, _, rfl, ite2 (fun c => ?_) (fun c => ?_)⟩
  · have c1 : (1 : Int) ≤ (us.length : Int) := of_decide_eq_true c
    refine ⟨_, _, rfl, rfl, _, rfl, ?_⟩
    by_cases c2 : (us.length : Int) ≤ 5
    · rw [decide_eq_true c2]
      exact iteF (body ⟨by omega, by omega⟩)
    · rw [decide_eq_false c2]
      refine iteT (q2 ?_ _ (Same.refl H))
      unfold okGs
      rw [decide_eq_false (show ¬ gs.length ≤ 5 by omega), Bool.false_and, Bool.and_false]
  · have c1 : ¬ (1 : Int) ≤ (us.length : Int) := fun z => c (decide_eq_true z)
    refine ⟨_, rfl, iteT (q2 ?_ _ (Same.refl H))⟩
    unfold okGs
    rw [decide_eq_false (show ¬ 1 ≤ gs.length by omega), Bool.false_and]
theorem ok_wide (D : Def K mg "wide" s_wide ["gate"]) (B : Bl mg) : Fn P w K mg base CX0 1 "wide" ["gate"] (sp_wide K) := by
  have m_len := B.len
  refine D.fn fun f fd F => F.ok sc_wide (fun vs H Q E h => ?_) (fun cdv A outer s H vs Q E hr h => ?_)
  · obtain ⟨v, g, rfl, _⟩ := h
    rfl
  obtain ⟨v, g, rfl, ⟨a, rfl, hS⟩, hl, q⟩ := h
  refine ⟨_, (pss_one (ps_ret (pe_dget (hu_of hr) (pe_disp (pps_cons pe_int pe_int (pps_cons pe_int pe_int (pps_cons pe_int pe_int pps_nil))) (by rfl) (by rfl) (fun z => by cases z) (by decide)) (pe_callB (lenS (K := K)) (by rfl) m_len PySem.boot_len (pa_cons (pv 0) pa_nil)) (fun _ _ => rfl)))), ?_⟩
  intro p np
  refine ⟨upd_same, [(.inl 2, .int 1), (.inl 4, .int 2), (.inl 8, .int 3)], rfl, by decide, ?_⟩
  have s1 : Same H (upd (upd H p (.dK [])) p (.dK (mergeK [] [(.inl 2, .int 1), (.inl 4, .int 2), (.inl 8, .int 3)]))) := (Same.new np).mut np
  refine ⟨_, rfl, a, _, rfl, .inl (s1.seq hS), p, .int (wideN g.length), rfl, ?_, q _ s1⟩
  have e : valV (mergeK [] [(.inl 2, .int 1), (.inl 4, .int 2), (.inl 8, .int 3)]) (Sum.inl ((LB g).length : Int)) = some (.int (wideN g.length)) := by
    rw [lb_len]
    rcases okLen_cases hl with e | e | e <;> rw [e] <;> rfl
  rw [← e]
  exact DGet.k (k := Sum.inl ((LB g).length : Int)) upd_same
theorem ok_row_of {aB : Addr} (D : Def K mg "row_of" s_row_of ["inputs"]) (B : Bl mg) (m_BITS : mg "BITS" = some (.ref aB)) (hB : ∀ H, SqT K H aB [.int 1, .int 2, .int 4]) : Fn P w K mg base CX0 1 "row_of" ["inputs"] (sp_row_of K) := by
  have m_len := B.len; have m_sum := B.sum; have m_range := B.range
  refine D.fn fun f fd F => F.ok sc_row_of (fun vs H Q E h => ?_) (fun cdv A outer s H vs Q E hr h => ?_)
  · obtain ⟨a, ns, rfl, _⟩ := h
    rfl
  obtain ⟨v, g, rfl, ⟨a, rfl, hS⟩, hl, q⟩ := h
  refine ⟨_, (pss_one (ps_ret (pe_callB (sumS (K := K) rfl) (by rfl) m_sum (by decide +kernel) (pa_cons (pe_lc (own := [("k", 1)]) (g := gName 1) rfl sc_row_of.nd (pi_range1 (by rfl) m_range (pa_cons (pe_callB (lenS (K := K)) (by rfl) m_len PySem.boot_len (pa_cons (pv 0) pa_nil)) pa_nil)) (blkOk_by (N := ["inputs", "k"]) (sc := defScope s_row_of) (by decide +kernel)) (fun _ _ _ _ _ => pg_name (i := 1) sc_row_of.nd rfl (Or.inl rfl)) (fun _ _ _ _ _ => (pts_one (pt_val (pe_ix (ixL (K := K)) (pv 0) (pv 1) (fun _ _ => rfl))))) (fun _ _ _ _ _ => (pe_ix (ixT (K := K)) (pe_glob (v := .ref aB) rfl m_BITS rfl) (pv 1) (fun _ _ => rfl)))) pa_nil)))), ?_⟩
  refine rd_ret (rd_cb (rd_cons ?_))
  refine lcR1 ((LB g).length : Int) (fun i => g.getD i false) (fun i => .int (bitN i)) ⟨by omega, by rw [lb_len]; omega⟩ (Evl.ea_cons (Evl.ev_len (Evl.ev_var rfl) hS) Evl.ea_nil) (fun _ => rfl) (fun i H1 e hi => ?_) (fun i H1 e hi _ => ?_) (fun p H2 hp e2 h2 => ?_)
  · exact Evl.et_B (Evl.ev_op (Evl.ev_var rfl) (Evl.ev_var rfl) (Evl.rv_ixL (Same.seq e hS) (atI_nat (lb_get (by rw [lb_len] at hi; omega)))))
  · rw [lb_len] at hi
    have hi3 : i < 3 := by omega
    refine Evl.ev_op Evl.ev_c (Evl.ev_var rfl) (Evl.rv_ixT (hB H1) (atI_nat ?_))
    exact bit_at hi3
  · refine ⟨p, (((List.range ((LB g).length : Int).toNat).filter fun i => g.getD i false).map bitN), rfl, .inl (.inl ?_), ?_⟩
    · rw [h2]
      unfold Evl.given
      rw [List.map_map]
      rfl
    · have z := q H2 e2
      rw [row_sum hl] at z
      rw [show ((LB g).length : Int).toNat = g.length by rw [lb_len]; omega]
      exact z
theorem ok_turn (D : Def K mg "turn_witness" s_turn_witness ["gate"]) (B : Bl mg) : Fn P w K mg base CX0 1 "turn_witness" ["gate"] (sp_find K turnW) := by
  have m_len := B.len; have m_range := B.range
  refine D.fn fun f fd F => F.ok sc_turn_witness (fun vs H Q E h => ?_) (fun cdv A outer s H vs Q E hr h => ?_)
  · obtain ⟨a, g, rfl, _⟩ := h
    rfl
  obtain ⟨v, g, rfl, ⟨a, rfl, hS⟩, hl, q⟩ := h
  have h8 := okLen_le hl
  refine ⟨_, (pss_cons (ps_for PassesOwn.never rfl (pi_range1 (by rfl) m_range (pa_cons (pe_callB (lenS (K := K)) (by rfl) m_len PySem.boot_len (pa_cons (pv 0) pa_nil)) pa_nil)) (pg_name (i := 1) sc_turn_witness.nd rfl (Or.inl rfl))
  (pss_one (ps_if (pt_cmpR op_eq (pe_ix (ixL (K := K)) (pv 0) (pv 1) (fun _ _ => rfl)) (pe_ix (ixL (K := K)) (pv 0) (pe_op op_sub (pe_op op_sub (pe_callB (lenS (K := K)) (by rfl) m_len PySem.boot_len (pa_cons (pv 0) pa_nil)) pe_int) (pv 1)) (fun _ _ => rfl)) (nomark _)) (pss_one (ps_ret (pe_tup (pa_cons (pv 1) pa_nil)))) pss_nil)))
  (pss_one (ps_ret pe_non))), ?_⟩
  refine ⟨_, rfl, a, _, rfl, .inl hS, ((LB g).length : Int), rfl, by rw [lb_len]; omega, by rw [lb_len]; omega, for_range (lo := 0) (fun i σ H' => ∃ x, σ = [some (.ref a), x] ∧ Same H H' ∧ ∀ j, j < i → fTurn g j = none) ⟨none, rfl, Same.refl H, fun j h => by omega⟩ ?_ ?_⟩
  · rintro i σ H' hi ⟨x, rfl, sm, hn⟩
    rw [lb_len, Int.toNat_natCast] at hi
    have hL := sm.seq hS
    show tIfS _ _ _ _ [some (.ref a), some (.int (0 + (i : Int)))] H'
    rw [Int.zero_add]
    refine ⟨_, rfl, _, rfl, a, _, (i : Int), _, rfl, rfl, hL, atI_nat (lb_get hi), _, rfl, _, rfl, a, _, rfl, .inl hL, _, _, rfl, rfl, _, rfl, _, _, rfl, rfl, a, _, _, _, rfl, rfl, hL, at_of (j := g.length - 1 - i) (by rw [lb_len]; omega) (lb_get (by omega)), rfl, _, rfl, ite2 (fun c => ?_) (fun c => ?_)⟩
    · have e : g.getD i false = g.getD (g.length - 1 - i) false := V.bl.inj (of_decide_eq_true c)
      refine ⟨_, rfl, by show 1 ≤ sizeLine; decide, fun p np => q _ _ (sm.trans (Same.new np)) ?_⟩
      have : turnW g = some [i] := fs_some (range_at hi) (fun j z hj hz => by rw [(range_of hz).2]; exact hn j hj) (if_pos (beq_iff_eq.mpr e))
      rw [this]
      exact ⟨p, rfl, sm.free np, upd_same⟩
    · refine ⟨_, rfl, sm, fun j hj => ?_⟩
      by_cases e : j = i
      · subst e
        exact if_neg fun z => c (decide_eq_true (congrArg V.bl (beq_iff_eq.mp z)))
      · exact hn j (by omega)
  · rintro σ H' ⟨x, rfl, sm, hn⟩
    rw [lb_len, Int.toNat_natCast] at hn
    have : turnW g = none := fs_none fun i x e => by obtain ⟨h, rfl⟩ := range_of e; exact hn x h
    exact q _ H' sm (by rw [this]; rfl)
theorem ok_rise {aB : Addr} (D : Def K mg "rise_witness" s_rise_witness ["gate"]) (B : Bl mg) (m_BITS : mg "BITS" = some (.ref aB)) (hB : ∀ H, SqT K H aB [.int 1, .int 2, .int 4]) (G_wide : Fn P w K mg base CX0 1 "wide" ["gate"] (sp_wide K)) :
    Fn P w K mg base CX0 2 "rise_witness" ["gate"] (sp_find K riseW) := by
  have m_len := B.len; have m_range := B.range
  refine D.fn fun f fd F => F.ok sc_rise_witness (fun vs H Q E h => ?_) (fun cdv A outer s H vs Q E hr h => ?_)
  · obtain ⟨a, g, rfl, _⟩ := h
    rfl
  obtain ⟨v, g, rfl, ⟨a, rfl, hS⟩, hl, q⟩ := h
  have h8 := okLen_le hl
  refine ⟨_, (pss_cons (ps_for PassesOwn.never rfl (piT (K := K) (pe_slice (slA (K := K)) (pe_glob (v := .ref aB) rfl m_BITS rfl) po_none (po_some (pe_fn G_wide (hr.mono (by decide)) (by rfl) pass0 (pa_cons (pv 0) pa_nil))))) (pg_name (i := 1) sc_rise_witness.nd rfl (Or.inl rfl))
  (pss_one (ps_for PassesOwn.never rfl (pi_range1 (by rfl) m_range (pa_cons (pe_callB (lenS (K := K)) (by rfl) m_len PySem.boot_len (pa_cons (pv 0) pa_nil)) pa_nil)) (pg_name (i := 2) sc_rise_witness.nd rfl (Or.inl rfl))
  (pss_one (ps_if (PW.pt (pw_and (pt_cmpR op_eq (pe_op op_mod (pe_op op_fdiv (pv 2) (pv 1)) pe_int) pe_int (nomark _)) (pw_and (pt_val (pe_ix (ixL (K := K)) (pv 0) (pv 2) (fun _ _ => rfl))) (pw_and1 (pt_not (pt_val (pe_ix (ixL (K := K)) (pv 0) (pe_op op_add (pv 2) (pv 1)) (fun _ _ => rfl)))))))) (pss_one (ps_ret (pe_tup (pa_cons (pv 2) (pa_cons (pe_op op_add (pv 2) (pv 1)) pa_nil))))) pss_nil)))))
  (pss_one (ps_ret pe_non))), ?_⟩
  refine ⟨_, rfl, .ref a, g, rfl, ⟨a, rfl, hS⟩, hl, fun H1 s1 => ⟨_, rfl, sl_take (hB H1) (wide_le _) fun t H2 s2 hT => ⟨t, rfl, ⟨_, hT⟩, ?_⟩⟩⟩
  have s12 := s1.trans s2
  refine for_tup (fun i σ H' => ∃ x y, σ = [some (.ref a), x, y] ∧ Same H2 H' ∧ ∀ j b, j < i → (bitsN g.length)[j]? = some b → (List.range g.length).findSome? (fRise g b) = none) ⟨none, none, rfl, Same.refl _, fun j b h => by omega⟩ (fun i σ H' _ ⟨_, _, _, sm, _⟩ => sm.tup hT) ?_ ?_
  · rintro i u σ H' hi ⟨x, y, rfl, sm, hn⟩
    obtain ⟨b, hb, rfl, hbd, hin⟩ := bits_at hi
    have hL := (s12.trans sm).seq hS
    refine ⟨_, rfl, a, _, rfl, .inl hL, ((LB g).length : Int), rfl, by rw [lb_len]; omega, by rw [lb_len]; omega, for_range (lo := 0) (fun i2 σ H3 => ∃ y, σ = [some (.ref a), some (.int (b : Int)), y] ∧ Same H' H3 ∧ ∀ j, j < i2 → fRise g b j = none) ⟨y, rfl, Same.refl _, fun j h => by omega⟩ ?_ ?_⟩
    · rintro r σ H3 hr ⟨y, rfl, sm3, hn3⟩
      rw [lb_len, Int.toNat_natCast] at hr
      have hL3 := sm3.seq hL
      show tIfS _ _ _ _ [some (.ref a), some (.int (b : Int)), some (.int (0 + (r : Int)))] H3
      rw [Int.zero_add]
      have no : ∀ {c : Bool}, c = false → (r / b % 2 == 0 && (at_ g r && !at_ g (r + b))) = c → ∃ y, [some (V.ref a), some (.int (b : Int)), some (.int (r : Int))] = [some (.ref a), some (.int (b : Int)), y] ∧ Same H' H3 ∧ ∀ j, j < r + 1 → fRise g b j = none := fun {c} hc e => by
        refine ⟨_, rfl, sm3, fun j hj => ?_⟩
        by_cases ej : j = r
        · subst ej
          unfold fRise
          rw [e, hc]
          rfl
        · exact hn3 j (by omega)
      refine ⟨_, rfl, _, rfl, _, _, rfl, rfl, ⟨by omega, by omega⟩, _, _, rfl, rfl, (by show (0 : Int) < 2; decide), rfl, _, rfl, ite2 (fun c => ?_) (fun c => iteF (no rfl ?_))⟩
      · have c1 : r / b % 2 = 0 := by have := V.int.inj (of_decide_eq_true c); omega
        have hrb : r + b < g.length := hin hl r hr c1
        refine ⟨_, rfl, _, rfl, a, _, (r : Int), _, rfl, rfl, hL3, atI_nat (lb_get hr), _, rfl, ite2 (fun c2 => ?_) (fun c2 => iteF (no rfl ?_))⟩
        · refine ⟨_, rfl, _, rfl, _, rfl, _, _, rfl, rfl, a, _, _, _, rfl, rfl, hL3, at_of (j := r + b) (by omega) (lb_get hrb), _, rfl, ?_⟩
          cases c3 : g.getD (r + b) false with
          | true =>
            refine iteF (no (c := r / b % 2 == 0 && (at_ g r && !at_ g (r + b))) ?_ rfl)
            show (r / b % 2 == 0 && (at_ g r && !g.getD (r + b) false)) = false
            rw [c3, Bool.not_true, Bool.and_false, Bool.and_false]
          | false =>
            refine iteT ⟨_, rfl, _, rfl, _, rfl, _, _, rfl, rfl, by show 2 ≤ sizeLine; decide, fun p np => q _ _ ((s12.trans sm).trans (sm3.trans (Same.new np))) ?_⟩
            have e : fRise g b r = some [r, r + b] := if_pos (by
              show (r / b % 2 == 0 && (g.getD r false && !g.getD (r + b) false)) = true
              rw [c3, c2, c1]; rfl)
            have : riseW g = some [r, r + b] := fs_some hb (fun j z hj hz => hn j z hj hz) (fs_some (range_at hr) (fun j z hj hz => by rw [(range_of hz).2]; exact hn3 j hj) e)
            rw [this]
            exact ⟨p, rfl, ((s12.trans sm).trans sm3).free np, by rw [upd_same]; rfl⟩
        · show (r / b % 2 == 0 && (g.getD r false && !at_ g (r + b))) = false
          rw [Bool.eq_false_iff.mpr c2, Bool.false_and, Bool.and_false]
      · have c1 : ¬ r / b % 2 = 0 := fun z => c (decide_eq_true (congrArg V.int (by omega)))
        rw [beq_eq_false_iff_ne.mpr c1, Bool.false_and]
    · rintro σ H3 ⟨y, rfl, sm3, hn3⟩
      rw [lb_len, Int.toNat_natCast] at hn3
      refine ⟨_, _, rfl, sm.trans sm3, fun j z hj hz => ?_⟩
      by_cases ej : j = i
      · subst ej
        rw [hb] at hz
        cases hz
        exact fs_none fun k x e => by obtain ⟨h, rfl⟩ := range_of e; exact hn3 x h
      · exact hn j z (by omega) hz
  · rintro σ H' ⟨x, y, rfl, sm, hn⟩
    have : riseW g = none := fs_none fun i b e => hn i b (bits_lt e) e
    exact q _ H' (s12.trans sm) (by rw [this]; rfl)
theorem ok_sum {aB : Addr} (D : Def K mg "sum_witness" s_sum_witness ["gate"]) (B : Bl mg) (m_BITS : mg "BITS" = some (.ref aB)) (hB : ∀ H, SqT K H aB [.int 1, .int 2, .int 4]) (G_wide : Fn P w K mg base CX0 1 "wide" ["gate"] (sp_wide K)) :
    Fn P w K mg base CX0 2 "sum_witness" ["gate"] (sp_find K sumW) := by
  have m_len := B.len; have m_range := B.range
  refine D.fn fun f fd F => F.ok sc_sum_witness (fun vs H Q E h => ?_) (fun cdv A outer s H vs Q E hr h => ?_)
  · obtain ⟨a, g, rfl, _⟩ := h
    rfl
  obtain ⟨v, g, rfl, ⟨a, rfl, hS⟩, hl, q⟩ := h
  have h8 := okLen_le hl
  refine ⟨_, (pss_cons (ps_for PassesOwn.never rfl (piT (K := K) (pe_slice (slA (K := K)) (pe_glob (v := .ref aB) rfl m_BITS rfl) po_none (po_some (pe_fn G_wide (hr.mono (by decide)) (by rfl) pass0 (pa_cons (pv 0) pa_nil))))) (pg_name (i := 1) sc_sum_witness.nd rfl (Or.inl rfl))
  (pss_one (ps_for PassesOwn.never rfl (piT (K := K) (pe_slice (slA (K := K)) (pe_glob (v := .ref aB) rfl m_BITS rfl) po_none (po_some (pe_fn G_wide (hr.mono (by decide)) (by rfl) pass0 (pa_cons (pv 0) pa_nil))))) (pg_name (i := 2) sc_sum_witness.nd rfl (Or.inl rfl))
  (pss_one (ps_for PassesOwn.never rfl (pi_range1 (by rfl) m_range (pa_cons (pe_callB (lenS (K := K)) (by rfl) m_len PySem.boot_len (pa_cons (pv 0) pa_nil)) pa_nil)) (pg_name (i := 3) sc_sum_witness.nd rfl (Or.inl rfl))
  (pss_one (ps_if (PW.pt (pw_and (pt_cmpR op_lt (pv 1) (pv 2) (nomark _)) (pw_and (pt_cmpR op_eq (pe_op op_mod (pe_op op_fdiv (pv 3) (pv 1)) pe_int) pe_int (nomark _)) (pw_and1 (pt_cmpR op_eq (pe_op op_mod (pe_op op_fdiv (pv 3) (pv 2)) pe_int) pe_int (nomark _)))))) (pss_cons (ps_set (i := 4) sc_sum_witness.nd rfl (Or.inl rfl) (pe_tup (pa_cons (pv 3) (pa_cons (pe_op op_add (pv 3) (pv 1)) (pa_cons (pe_op op_add (pv 3) (pv 2)) (pa_cons (pe_op op_add (pe_op op_add (pv 3) (pv 1)) (pv 2)) pa_nil))))))
  (pss_one (ps_if (pt_cmpR op_eq (pe_op op_mod (pe_callB (lenS (K := K)) (by rfl) m_len PySem.boot_len (pa_cons (pe_lc (own := [("at", 5)]) (g := gName 5) rfl sc_sum_witness.nd (piT (K := K) (pv 4)) (blkOk_by (N := ["gate", "one", "other", "row", "rows", "at"]) (sc := defScope s_sum_witness) (by decide +kernel)) (fun _ _ _ _ _ => pg_name (i := 5) sc_sum_witness.nd rfl (Or.inl rfl)) (fun _ _ _ _ _ => (pts_one (pt_val (pe_ix (ixL (K := K)) (pv 0) (pv 5) (fun _ _ => rfl))))) (fun _ _ _ _ _ => (pv 5))) pa_nil)) pe_int) pe_int (nomark _)) (pss_one (ps_ret (pv 4))) pss_nil))) pss_nil)))))))
  (pss_one (ps_ret pe_non))), ?_⟩
  refine ⟨_, rfl, .ref a, g, rfl, ⟨a, rfl, hS⟩, hl, fun H1 s1 => ⟨_, rfl, sl_take (hB H1) (wide_le _) fun t H2 s2 hT => ⟨t, rfl, ⟨_, hT⟩, ?_⟩⟩⟩
  have s12 := s1.trans s2
  refine for_tup (fun i σ H' => ∃ x1 x2 x3 x4, σ = [some (.ref a), x1, x2, x3, x4, none] ∧ Same H2 H' ∧ ∀ j b, j < i → (bitsN g.length)[j]? = some b → ((bitsN g.length).findSome? fun other => (List.range g.length).findSome? (fSum g b other)) = none) ⟨none, none, none, none, rfl, Same.refl _, fun j b h => by omega⟩ (fun i σ H' _ ⟨_, _, _, _, _, sm, _⟩ => sm.tup hT) ?_ ?_
  · rintro i u σ H' hi ⟨x1, x2, x3, x4, rfl, sm, hn⟩
    obtain ⟨b, hb, rfl, hbd, hin⟩ := bits_at hi
    have hL := (s12.trans sm).seq hS
    refine ⟨_, rfl, .ref a, g, rfl, ⟨a, rfl, hL⟩, hl, fun H3 s3 => ⟨_, rfl, sl_take (hB H3) (wide_le _) fun t2 H4 s4 hT2 => ⟨t2, rfl, ⟨_, hT2⟩, ?_⟩⟩⟩
    have s34 := s3.trans s4
    refine for_tup (fun i2 σ H5 => ∃ x2 x3 x4, σ = [some (.ref a), some (.int (b : Int)), x2, x3, x4, none] ∧ Same H4 H5 ∧ ∀ j o, j < i2 → (bitsN g.length)[j]? = some o → (List.range g.length).findSome? (fSum g b o) = none) ⟨x2, x3, x4, rfl, Same.refl _, fun j b h => by omega⟩ (fun i σ H' _ ⟨_, _, _, _, sm, _⟩ => sm.tup hT2) ?_ ?_
    · rintro i2 u2 σ H5 hi2 ⟨x2, x3, x4, rfl, sm5, hn2⟩
      obtain ⟨o, ho, rfl, hod, hino⟩ := bits_at hi2
      have hL5 := (s34.trans sm5).seq hL
      refine ⟨_, rfl, a, _, rfl, .inl hL5, ((LB g).length : Int), rfl, by rw [lb_len]; omega, by rw [lb_len]; omega, for_range (lo := 0) (fun i3 σ H6 => ∃ x3 x4, σ = [some (.ref a), some (.int (b : Int)), some (.int (o : Int)), x3, x4, none] ∧ Same H5 H6 ∧ ∀ j, j < i3 → fSum g b o j = none) ⟨x3, x4, rfl, Same.refl _, fun j h => by omega⟩ ?_ ?_⟩
      · rintro r σ H6 hr ⟨x3, x4, rfl, sm6, hn3⟩
        rw [lb_len, Int.toNat_natCast] at hr
        have hL6 := sm6.seq hL5
        show tIfS _ _ _ _ [some (.ref a), some (.int (b : Int)), some (.int (o : Int)), some (.int (0 + (r : Int))), x4, none] H6
        rw [Int.zero_add]
        have no : ∀ (x4 : Option V) (H7 : Hp), Same H6 H7 → fSum g b o r = none → ∃ x3 x4', [some (V.ref a), some (.int (b : Int)), some (.int (o : Int)), some (.int (r : Int)), x4, none] = [some (.ref a), some (.int (b : Int)), some (.int (o : Int)), x3, x4', none] ∧ Same H5 H7 ∧ ∀ j, j < r + 1 → fSum g b o j = none := fun x4 H7 s7 e => by
          refine ⟨_, _, rfl, sm6.trans s7, fun j hj => ?_⟩
          by_cases ej : j = r
          · subst ej
            exact e
          · exact hn3 j (by omega)
        refine ⟨_, rfl, _, rfl, _, _, rfl, rfl, _, rfl, ite2 (fun c => ?_) (fun c => iteF (no _ _ (Same.refl _) ?_))⟩
        · have c1 : b < o := by have := of_decide_eq_true c; omega
          refine ⟨_, rfl, _, rfl, _, _, rfl, rfl, ⟨by omega, by omega⟩, _, _, rfl, rfl, (by show (0 : Int) < 2; decide), rfl, _, rfl, ite2 (fun c => ?_) (fun c => iteF (no _ _ (Same.refl _) ?_))⟩
          · have c2 : r / b % 2 = 0 := by have := V.int.inj (of_decide_eq_true c); omega
            refine ⟨_, rfl, _, rfl, _, _, rfl, rfl, ⟨by omega, by omega⟩, _, _, rfl, rfl, (by show (0 : Int) < 2; decide), rfl, _, rfl, ite2 (fun c => ?_) (fun c => no _ _ (Same.refl _) ?_)⟩
            · have c3 : r / o % 2 = 0 := by have := V.int.inj (of_decide_eq_true c); omega
              have hrr := sum_in hl hb ho c1 hr c2 c3
              -- rows
              refine ⟨_, rfl, _, rfl, _, rfl, _, _, rfl, rfl, _, rfl, _, rfl, _, _, rfl, rfl, _, rfl, _, rfl, _, _, rfl, rfl, _, rfl, _, _, rfl, rfl, by show 4 ≤ sizeLine; decide, fun p np => ?_⟩
              have ep : (upd H6 p (.tup [.int (r : Int), .int ((r : Int) + (b : Int)), .int ((r : Int) + (o : Int)), .int ((r : Int) + (b : Int) + (o : Int))])) p = some (.tup ([r, r + b, r + o, r + b + o].map fun r => V.int ((r : Nat) : Int))) := by rw [upd_same]; rfl
              have s7 : Same H6 (upd H6 p (.tup [.int (r : Int), .int ((r : Int) + (b : Int)), .int ((r : Int) + (o : Int)), .int ((r : Int) + (b : Int) + (o : Int))])) := Same.new np
              revert ep s7
              generalize (upd H6 p (.tup [.int (r : Int), .int ((r : Int) + (b : Int)), .int ((r : Int) + (o : Int)), .int ((r : Int) + (b : Int) + (o : Int))])) = H7
              intro ep s7
              have hL7 := s7.seq hL6
              refine ⟨_, rfl, p, rfl, ⟨_, SqT.of ep⟩, lc_P (wk_tup (SqT.of ep)) (fun k => at_ g ([r, r + b, r + o, r + b + o].getD k 0)) (fun k => .int (([r, r + b, r + o, r + b + o].getD k 0 : Nat) : Int)) (by show 4 ≤ 40000; decide) (fun _ => rfl) (fun k H8 s8 hk => ?_) (fun k H8 s8 hk _ => ?_) (fun d H8 nd s8 e8 => ?_)⟩
              · have hk4 : k < 4 := hk
                rw [itOf_four hk4]
                exact Evl.et_B (Evl.ev_op (Evl.ev_var rfl) (Evl.ev_var rfl) (Evl.rv_ixL (s8.seq hL7) (atI_nat (lb_get (hrr k hk4)))))
              · have hk4 : k < 4 := hk
                rw [itOf_four hk4]
                exact Evl.ev_var rfl
              · refine ⟨d, _, rfl, .inl (SqL.of e8), _, _, rfl, rfl, (by show (0 : Int) < 2; decide), rfl, _, rfl, ?_⟩
                have cnt := given_four (g := g) r (r + b) (r + o) (r + b + o)
                refine ite2 (fun c => ?_) (fun c => no _ _ (s7.trans s8) ?_)
                · have c4 : ([r, r + b, r + o, r + b + o].filter (at_ g)).length % 2 = 1 := by
                    have := V.int.inj (of_decide_eq_true c)
                    rw [← cnt]
                    have e4 : ([r, r + b, r + o, r + b + o].map fun r => V.int ((r : Nat) : Int)).length = 4 := rfl
                    rw [e4] at this
                    omega
                  refine ⟨_, rfl, ?_⟩
                  have e : fSum g b o r = some [r, r + b, r + o, r + b + o] := by
                    unfold fSum
                    rw [if_pos (by rw [decide_eq_true c1, c2, c3]; rfl), if_pos (by rw [c4]; rfl)]
                  have : sumW g = some [r, r + b, r + o, r + b + o] := fs_some hb (fun j z hj hz => hn j z hj hz) (fs_some ho (fun j z hj hz => hn2 j z hj hz) (fs_some (range_at hr) (fun j z hj hz => by rw [(range_of hz).2]; exact hn3 j hj) e))
                  refine q _ _ ((s12.trans sm).trans (s34.trans (sm5.trans (sm6.trans (s7.trans s8))))) ?_
                  rw [this]
                  exact ⟨p, rfl, ((s12.trans sm).trans (s34.trans (sm5.trans sm6))).free np, s8 _ _ ep⟩
                · unfold fSum
                  rw [if_pos (by rw [decide_eq_true c1, c2, c3]; rfl), if_neg fun z => c ?_]
                  have z' : ([r, r + b, r + o, r + b + o].filter (at_ g)).length % 2 = 1 := beq_iff_eq.mp z
                  rw [← cnt] at z'
                  refine decide_eq_true (congrArg V.int ?_)
                  have e4 : ([r, r + b, r + o, r + b + o].map fun r => V.int ((r : Nat) : Int)).length = 4 := rfl
                  rw [e4]
                  omega
            · have c3 : ¬ r / o % 2 = 0 := fun z => c (decide_eq_true (congrArg V.int (by omega)))
              unfold fSum
              rw [beq_eq_false_iff_ne.mpr c3, Bool.and_false, Bool.and_false]
              rfl
          · have c2 : ¬ r / b % 2 = 0 := fun z => c (decide_eq_true (congrArg V.int (by omega)))
            unfold fSum
            rw [beq_eq_false_iff_ne.mpr c2, Bool.false_and, Bool.and_false]
            rfl
        · have c1 : ¬ b < o := fun z => c (decide_eq_true (by omega))
          unfold fSum
          rw [decide_eq_false c1, Bool.false_and]
          rfl
      · rintro σ H6 ⟨x3, x4, rfl, sm6, hn3⟩
        rw [lb_len, Int.toNat_natCast] at hn3
        refine ⟨_, _, _, rfl, sm5.trans sm6, fun j z hj hz => ?_⟩
        by_cases ej : j = i2
        · subst ej
          rw [ho] at hz
          cases hz
          exact fs_none fun k x e => by obtain ⟨h, rfl⟩ := range_of e; exact hn3 x h
        · exact hn2 j z (by omega) hz
    · rintro σ H5 ⟨x2, x3, x4, rfl, sm5, hn2⟩
      refine ⟨_, _, _, _, rfl, sm.trans (s34.trans sm5), fun j z hj hz => ?_⟩
      by_cases ej : j = i
      · subst ej
        rw [hb] at hz
        cases hz
        exact fs_none fun k x e => hn2 k x (bits_lt e) e
      · exact hn j z (by omega) hz
  · rintro σ H' ⟨x1, x2, x3, x4, rfl, sm, hn⟩
    have : sumW g = none := fs_none fun i b e => hn i b (bits_lt e) e
    exact q _ H' (s12.trans sm) (by rw [this]; rfl)
theorem ok_witness {C C2 aC : Addr} (D : Def K mg "witness" s_witness ["gate", "word"]) (B : Bl mg) (m_CLASSES : mg "CLASSES" = some (.ref aC)) (hC : ∀ H, SqT K H aC [.str "nought", .str "one", .str "turn", .str "rise", .str "sum"]) (e_NoClass : ErrC K mg "NoClass" C2)
    (G_ask_gate : Fn P w K mg base (L2.CX P w) 1 "ask_gate" ["gate"] (sp_ask_gate K C)) (G_turn : Fn P w K mg base CX0 1 "turn_witness" ["gate"] (sp_find K turnW)) (G_rise : Fn P w K mg base CX0 2 "rise_witness" ["gate"] (sp_find K riseW)) (G_sum : Fn P w K mg base CX0 2 "sum_witness" ["gate"] (sp_find K sumW)) :
    Fn P w K mg base (L2.CX P w) 3 "witness" ["gate", "word"] (sp_witness K C C2) := by
  have m_len := B.len
  refine D.fn fun f fd F => F.okX sc_witness (fun vs H Q E h => ?_) (fun cdv A outer s H vs Q E hr h => ?_)
  · obtain ⟨v, g, x, rfl, _⟩ := h
    rfl
  obtain ⟨v, g, x, rfl, hv, q1, q2⟩ := h
  refine ⟨_, (pss_cons (ps_expr (pe_fn G_ask_gate (hr.mono (by decide)) (by rfl) (passes_call (takes_of rfl rfl rfl rfl) fun _ _ _ _ h => h) (pa_cons (pv 0) pa_nil)))
  (pss_cons (ps_if (pt_cmpR (notInS (K := K)) (pv 1) (pe_glob (v := .ref aC) rfl m_CLASSES rfl) (by rfl)) (pss_one (ps_raise rfl (takes_of rfl rfl rfl rfl) (pmk_own PySem.F.excBase_ValueError e_NoClass.x e_NoClass.g e_NoClass.k (raises_own e_NoClass.b e_NoClass.t) rfl))) pss_nil)
  (pss_cons (ps_if (pt_cmpR op_eq (pv 1) pe_str (nomark _)) (pss_one (ps_ret (pe_ifExp (pt_val (pe_ix (ixL (K := K)) (pv 0) pe_int (fun _ _ => rfl))) (pe_tup (pa_cons pe_int pa_nil)) pe_non))) pss_nil)
  (pss_cons (ps_if (pt_cmpR op_eq (pv 1) pe_str (nomark _)) (pss_one (ps_ret (pe_ifExp (pt_val (pe_ix (ixL (K := K)) (pv 0) (pe_un un_neg pe_int) (fun _ _ => rfl))) pe_non (pe_tup (pa_cons (pe_op op_sub (pe_callB (lenS (K := K)) (by rfl) m_len PySem.boot_len (pa_cons (pv 0) pa_nil)) pe_int) pa_nil))))) pss_nil)
  (pss_cons (ps_if (pt_cmpR op_eq (pv 1) pe_str (nomark _)) (pss_one (ps_ret (pe_fn G_turn (hr.mono (by decide)) (by rfl) pass0 (pa_cons (pv 0) pa_nil)))) pss_nil)
  (pss_cons (ps_if (pt_cmpR op_eq (pv 1) pe_str (nomark _)) (pss_one (ps_ret (pe_fn G_rise (hr.mono (by decide)) (by rfl) pass0 (pa_cons (pv 0) pa_nil)))) pss_nil)
  (pss_one (ps_ret (pe_fn G_sum (hr.mono (by decide)) (by rfl) pass0 (pa_cons (pv 0) pa_nil)))))))))), ?_⟩
  refine ⟨_, rfl, v, g, rfl, hv, fun hl H1 s1 => ?_, fun e H' s1 => q2 e H' s1⟩
  obtain ⟨qa, qb⟩ := q1 hl
  have h8 := okLen_le hl
  have hpos : 0 < g.length := by rcases okLen_cases hl with e | e | e <;> omega
  refine ⟨_, rfl, aC, _, rfl, .inr (hC H1), rfl, rfl, _, rfl, ?_⟩
  show if (if true = true then !inV (.str x) [.str "nought", .str "one", .str "turn", .str "rise", .str "sum"] else inV (.str x) [.str "nought", .str "one", .str "turn", .str "rise", .str "sum"]) = true then _ else _
  rw [if_pos rfl, inV_words]
  by_cases hx : x ∈ words
  · rw [decide_eq_true hx]
    have q := qa hx
    obtain ⟨a, rfl, hS⟩ := hv.mono s1
    refine iteF ⟨_, rfl, rfl, _, rfl, ite2 (fun c => ?_) (fun c => ?_)⟩
    · have e : witW g x = if at_ g 0 = true then some [0] else none := if_pos (str_eq c)
      refine ⟨_, rfl, a, _, _, _, rfl, rfl, hS, atI_nat (j := 0) (lb_get hpos), _, rfl, ite2 (fun c => ?_) (fun c => ?_)⟩
      · refine ⟨by show 1 ≤ sizeLine; decide, fun p np => q _ _ (s1.trans (Same.new np)) ?_⟩
        rw [e, if_pos (show at_ g 0 = true from c)]
        exact ⟨p, rfl, s1.free np, by rw [upd_same]; rfl⟩
      · refine q _ _ s1 ?_
        rw [e, if_neg (show ¬ at_ g 0 = true from c)]
        rfl
    have n1 := str_ne c
    refine ⟨_, rfl, rfl, _, rfl, ite2 (fun c => ?_) (fun c => ?_)⟩
    · have e : witW g x = if at_ g (g.length - 1) = true then none else some [g.length - 1] := (if_neg n1).trans (if_pos (str_eq c))
      refine ⟨_, rfl, 1, rfl, a, _, -1, _, rfl, rfl, hS, lb_last hpos, _, rfl, ite2 (fun c => ?_) (fun c => ?_)⟩
      · refine q _ _ s1 ?_
        rw [e, if_pos c]
        rfl
      · refine ⟨_, rfl, a, _, rfl, .inl hS, _, _, rfl, rfl, by show 1 ≤ sizeLine; decide, fun p np => q _ _ (s1.trans (Same.new np)) ?_⟩
        rw [e, if_neg c]
        refine ⟨p, rfl, s1.free np, ?_⟩
        rw [upd_same, lb_len, List.map_cons, List.map_nil]
        exact congrArg (fun z => some (HO.tup [V.int z])) (by omega)
    have n2 := str_ne c
    refine ⟨_, rfl, rfl, _, rfl, ite2 (fun c => ?_) (fun c => ?_)⟩
    · have e : witW g x = turnW g := (if_neg n1).trans ((if_neg n2).trans (if_pos (str_eq c)))
      rw [e] at q
      exact ⟨_, rfl, .ref a, g, rfl, ⟨a, rfl, hS⟩, hl, fun v H' s2 hw => q v H' (s1.trans s2) (hw.back s1)⟩
    have n3 := str_ne c
    refine ⟨_, rfl, rfl, _, rfl, ite2 (fun c => ?_) (fun c => ?_)⟩
    · have e : witW g x = riseW g := (if_neg n1).trans ((if_neg n2).trans ((if_neg n3).trans (if_pos (str_eq c))))
      rw [e] at q
      exact ⟨_, rfl, .ref a, g, rfl, ⟨a, rfl, hS⟩, hl, fun v H' s2 hw => q v H' (s1.trans s2) (hw.back s1)⟩
    · have e : witW g x = sumW g := (if_neg n1).trans ((if_neg n2).trans ((if_neg n3).trans (if_neg (str_ne c))))
      rw [e] at q
      exact ⟨_, rfl, .ref a, g, rfl, ⟨a, rfl, hS⟩, hl, fun v H' s2 hw => q v H' (s1.trans s2) (hw.back s1)⟩
  · rw [decide_eq_false hx]
    exact iteT (qb hx _ s1)
theorem ok_is_in {C C2 : Addr} (D : Def K mg "is_in" s_is_in ["gate", "word"]) (G_witness : Fn P w K mg base (L2.CX P w) 3 "witness" ["gate", "word"] (sp_witness K C C2)) :
    Fn P w K mg base (L2.CX P w) 4 "is_in" ["gate", "word"] (sp_is_in K C C2) := by
  refine D.fn fun f fd F => F.okX sc_is_in (fun vs H Q E h => ?_) (fun cdv A outer s H vs Q E hr h => ?_)
  · obtain ⟨v, g, x, rfl, _⟩ := h
    rfl
  obtain ⟨v, g, x, rfl, hv, q1, q2⟩ := h
  refine ⟨_, (pss_one (ps_ret (pe_cmpR op_isN (pe_fn G_witness (hr.mono (by decide)) (by rfl) (passes_call (takes_of rfl rfl rfl rfl) fun _ _ _ _ h => h) (pa_cons (pv 0) (pa_cons (pv 1) pa_nil))) pe_non (nomark _)))), ?_⟩
  refine ⟨_, rfl, _, rfl, v, g, x, rfl, hv, fun hl => ⟨fun hx u H' s1 hw => ⟨rfl, ?_⟩, fun hx H' s1 => (q1 hl).2 hx H' s1⟩, fun e H' s1 => q2 e H' s1⟩
  have q := (q1 hl).1 hx H' s1
  unfold inC at q
  cases e : witW g x with
  | none =>
    rw [e] at hw q
    obtain rfl : u = .non := hw
    exact q
  | some rs =>
    rw [e] at hw q
    obtain ⟨p, rfl, _⟩ := hw
    exact q
theorem ok_ask_inputs {C : Addr} (D : Def K mg "ask_inputs" s_ask_inputs ["many"]) (e_NoInputs : ErrC K mg "NoInputs" C) : Fn P w K mg base (L2.CX P w) 1 "ask_inputs" ["many"] (sp_ask_inputs C) := by
  refine D.fn fun f fd F => F.okX sc_ask_inputs (fun vs H Q E h => ?_) (fun cdv A outer s H vs Q E hr h => ?_)
  · obtain ⟨m, rfl, _⟩ := h
    rfl
  obtain ⟨m, rfl, q1, q2⟩ := h
  refine ⟨_, (pss_one (ps_if (pt_not (pt_chain op_le op_le pe_int (pv 0) pe_int)) (pss_one (ps_raise rfl (takes_of rfl rfl rfl rfl) (pmk_own PySem.F.excBase_ValueError e_NoInputs.x e_NoInputs.g e_NoInputs.k (raises_own e_NoInputs.b e_NoInputs.t) rfl))) pss_nil)), ?_⟩
  refine ⟨_, rfl, _, _, rfl, rfl, _, rfl, ite2 (fun c => ?_) (fun c => ?_)⟩
  · have c1 : (1 : Int) ≤ m := of_decide_eq_true c
    refine ⟨_, _, rfl, rfl, _, rfl, ?_⟩
    by_cases c2 : m ≤ 3
    · rw [decide_eq_true c2]
      exact iteF (q1 c1 c2)
    · rw [decide_eq_false c2]
      exact iteT (q2 fun z => c2 z.2)
  · have c1 : ¬ (1 : Int) ≤ m := fun z => c (decide_eq_true z)
    exact ⟨_, rfl, iteT (q2 fun z => c1 z.1)⟩
theorem ok_ask_formula {C : Addr} (D : Def K mg "ask_formula" s_ask_formula ["gates", "formula", "many"]) (B : Bl mg) (e_NoFormula : ErrC K mg "NoFormula" C) (G_wide : Fn P w K mg base CX0 1 "wide" ["gate"] (sp_wide K)) :
    ∀ n : Nat, Fn P w K mg base (L2.CX P w) (n + 1) "ask_formula" ["gates", "formula", "many"] (sp_ask_formula K C n)
  | 0 => (D.none (fun vs H Q E h => by obtain ⟨_, _, _, _, _, _, _, _, _, h, _⟩ := h; exact absurd h (Nat.not_lt_zero _))).mono (Nat.zero_le _)
  | n + 1 => by
    have IH := ok_ask_formula D B e_NoFormula G_wide n
    have m_len := B.len
    refine D.fn fun f fd F => F.okX sc_ask_formula (fun vs H Q E h => ?_) (fun cdv A outer s H vs Q E hr0 h => ?_)
    · obtain ⟨x, y, m, gs, f, rfl, _⟩ := h
      rfl
    obtain ⟨x, y, m, gs, fm, rfl, ⟨a, us, rfl, hS, pr⟩, hok, hF, hd, q1, q2⟩ := h
    have hl : us.length = gs.length := Paired.len pr
    have hr1 : Room 1 (A.deeper (envOfC "ask_formula" (defScope s_ask_formula) s.heap.objs.size f cdv)) := hr0.mono (by omega)
    have hr := hr0
    refine ⟨_, (pss_cons (ps_if (pt_cmpR op_eq (pe_ix (ixT (K := K)) (pv 1) pe_int (fun _ _ => rfl)) pe_str (nomark _)) (pss_cons (ps_if (pt_not (pt_chain op_le op_lt pe_int (pe_ix (ixT (K := K)) (pv 1) pe_int (fun _ _ => rfl)) (pv 2))) (pss_one (ps_raise rfl (takes_of rfl rfl rfl rfl) (pmk_own PySem.F.excBase_ValueError e_NoFormula.x e_NoFormula.g e_NoFormula.k (raises_own e_NoFormula.b e_NoFormula.t) rfl))) pss_nil)
  (pss_one (ps_ret pe_non))) pss_nil)
  (pss_cons (ps_if (pt_not (pt_chain op_le op_lt pe_int (pe_ix (ixT (K := K)) (pv 1) pe_int (fun _ _ => rfl)) (pe_callB (lenS (K := K)) (by rfl) m_len PySem.boot_len (pa_cons (pv 0) pa_nil)))) (pss_one (ps_raise rfl (takes_of rfl rfl rfl rfl) (pmk_own PySem.F.excBase_ValueError e_NoFormula.x e_NoFormula.g e_NoFormula.k (raises_own e_NoFormula.b e_NoFormula.t) rfl))) pss_nil)
  (pss_cons (ps_if (pt_cmpR op_ne (pe_callB (lenS (K := K)) (by rfl) m_len PySem.boot_len (pa_cons (pe_ix (ixT (K := K)) (pv 1) pe_int (fun _ _ => rfl)) pa_nil)) (pe_fn G_wide hr1 (by rfl) pass0 (pa_cons (pe_ix (ixL (K := K)) (pv 0) (pe_ix (ixT (K := K)) (pv 1) pe_int (fun _ _ => rfl)) (fun _ _ => rfl)) pa_nil)) (nomark _)) (pss_one (ps_raise rfl (takes_of rfl rfl rfl rfl) (pmk_own PySem.F.excBase_ValueError e_NoFormula.x e_NoFormula.g e_NoFormula.k (raises_own e_NoFormula.b e_NoFormula.t) rfl))) pss_nil)
  (pss_cons (ps_for (passes_of rfl) rfl (piT (K := K) (pe_ix (ixT (K := K)) (pv 1) pe_int (fun _ _ => rfl))) (pg_name (i := 3) sc_ask_formula.nd rfl (Or.inl rfl))
  (pss_one (ps_expr (pe_fn IH hr (by rfl) (passes_call (takes_of rfl rfl rfl rfl) fun _ _ _ _ h => h) (pa_cons (pv 0) (pa_cons (pv 3) (pa_cons (pv 2) pa_nil)))))))
  (pss_one (ps_ret pe_non)))))), ?_⟩
    cases hF with
    | @inp b n' hT =>
      refine ⟨_, rfl, b, _, _, _, rfl, rfl, hT, atI_nat (j := 0) rfl, rfl, _, rfl, ?_⟩
      rw [decide_eq_true (show V.str "in" = V.str "in" from rfl)]
      refine iteT ⟨_, rfl, b, _, _, _, rfl, rfl, hT, atI_nat (j := 1) rfl, _, _, rfl, rfl, _, rfl, ite2 (fun c => ?_) (fun c => ?_)⟩
      · have c1 : (0 : Int) ≤ n' := of_decide_eq_true c
        refine ⟨_, rfl, _, _, rfl, rfl, _, rfl, ?_⟩
        by_cases c2 : n' < m
        · rw [decide_eq_true c2]
          refine iteF (q1 ?_ _ (Same.refl H))
          simp only [okF]
          rw [decide_eq_true c1, decide_eq_true c2]
          rfl
        · rw [decide_eq_false c2]
          refine iteT (q2 ?_ _ (Same.refl H))
          simp only [okF]
          rw [decide_eq_false c2, Bool.and_false]
      · have c1 : ¬ (0 : Int) ≤ n' := fun z => c (decide_eq_true z)
        refine ⟨_, rfl, iteT (q2 ?_ _ (Same.refl H))⟩
        simp only [okF]
        rw [decide_eq_false c1, Bool.false_and]
    | @gate b p n' vs ps hT hP hps =>
      refine ⟨_, rfl, b, _, _, _, rfl, rfl, hT, atI_nat (j := 0) rfl, rfl, _, rfl, ?_⟩
      rw [decide_eq_false (show ¬ V.str "gate" = V.str "in" by decide)]
      refine iteF ⟨_, rfl, b, _, _, _, rfl, rfl, hT, atI_nat (j := 1) rfl, _, _, rfl, rfl, _, rfl, ite2 (fun c => ?_) (fun c => ?_)⟩
      · have c1 : (0 : Int) ≤ n' := of_decide_eq_true c
        refine ⟨_, rfl, a, _, rfl, .inl hS, _, _, rfl, rfl, _, rfl, ?_⟩
        by_cases c2 : n' < (us.length : Int)
        · rw [decide_eq_true c2]
          have hn : n'.toNat < gs.length := by omega
          have hgl : gs[n'.toNat]? = some (gs.getD n'.toNat []) := by
            rw [List.getD_eq_getElem?_getD, List.getElem?_eq_getElem hn]; rfl
          obtain ⟨u, hu, hB⟩ := Paired.at' pr hgl
          have hgo := okGs_at hok hgl
          refine iteF ⟨_, rfl, b, _, _, _, rfl, rfl, hT, atI_nat (j := 2) rfl, p, _, rfl, .inr hP, _, rfl, _, rfl, b, _, _, _, rfl, rfl, hT, atI_nat (j := 1) rfl, a, _, _, u, rfl, rfl, hS, at_of (j := n'.toNat) (by omega) hu, u, _, rfl, hB, hgo, fun H1 s1 => ⟨rfl, _, rfl, ?_⟩⟩
          have hlv := hps.len
          by_cases c3 : ps.length = wideN (gs.getD n'.toNat []).length
          · rw [decide_eq_true (show V.int (vs.length : Int) = V.int (wideN (gs.getD n'.toNat []).length : Int) by rw [hlv, c3])]
            have e0 : okF gs m (.gate n' ps) = okFs gs m ps := by
              simp only [okF]
              rw [decide_eq_true c1, decide_eq_true (show n' < (gs.length : Int) by omega), decide_eq_true c3]
              rfl
            rw [e0] at q1 q2
            have hT1 := s1.tup hT
            have hP1 := s1.tup hP
            refine iteF ⟨_, rfl, b, _, _, _, rfl, rfl, hT1, atI_nat (j := 2) rfl, p, rfl, ⟨_, hP1⟩, for_tup (fun i σ H' => ∃ x, σ = [some (.ref a), some (.ref b), some (.int m), x] ∧ Same H1 H' ∧ okFs gs m (ps.take i) = true) ⟨none, rfl, Same.refl _, by rw [List.take_zero]; rfl⟩ (fun i σ H' _ ⟨_, _, sm, _⟩ => sm.tup hP1) ?_ ?_⟩
            · rintro i v σ H' hv ⟨x, rfl, sm, ha⟩
              obtain ⟨pf, hpf, hFp⟩ := hps.at hv
              refine ⟨_, rfl, _, rfl, _, rfl, .ref a, v, m, gs, pf, rfl, IsBs.mono (s1.trans sm) ⟨a, us, rfl, hS, pr⟩, hok, IsF.mono (s1.trans sm) pf hFp, ?_, fun e H2 s2 => ⟨_, rfl, sm.trans s2, ?_⟩, fun e H2 s2 => q2 ?_ _ (s1.trans (sm.trans s2))⟩
              · have := dFs_at hpf
                simp only [dF] at hd
                omega
              · rw [take_snoc hpf, okFs_app, ha]
                simp only [okFs]
                rw [e]
                rfl
              · cases h : okFs gs m ps with
                | false => rfl
                | true => rw [okFs_at h hpf] at e; cases e
            · rintro σ H' ⟨x, rfl, sm, ha⟩
              rw [hlv, List.take_length] at ha
              exact q1 ha _ (s1.trans sm)
          · rw [decide_eq_false (show ¬ V.int (vs.length : Int) = V.int (wideN (gs.getD n'.toNat []).length : Int) from fun z => c3 (by have := V.int.inj z; omega))]
            refine iteT (q2 ?_ _ s1)
            simp only [okF]
            rw [decide_eq_false c3, Bool.false_and, Bool.and_false]
        · rw [decide_eq_false c2]
          refine iteT (q2 ?_ _ (Same.refl H))
          simp only [okF]
          rw [decide_eq_false (show ¬ n' < (gs.length : Int) by omega), Bool.and_false, Bool.false_and]
      · have c1 : ¬ (0 : Int) ≤ n' := fun z => c (decide_eq_true z)
        refine ⟨_, rfl, iteT (q2 ?_ _ (Same.refl H))⟩
        simp only [okF]
        rw [decide_eq_false c1, Bool.false_and, Bool.false_and]
theorem ok_worth (D : Def K mg "worth" s_worth ["gates", "formula", "inputs"]) (B : Bl mg) (G_row_of : Fn P w K mg base CX0 1 "row_of" ["inputs"] (sp_row_of K)) :
    ∀ n : Nat, Fn P w K mg base CX0 (n + 1) "worth" ["gates", "formula", "inputs"] (sp_worth K n)
  | 0 => (D.none (fun vs H Q E h => by obtain ⟨_, _, _, _, _, _, _, _, _, _, _, _, h, _⟩ := h; exact absurd h (Nat.not_lt_zero _))).mono (Nat.zero_le _)
  | n + 1 => by
    have IH := ok_worth D B G_row_of n
    refine D.fn fun f fd F => F.ok sc_worth (fun vs H Q E h => ?_) (fun cdv A outer s H vs Q E hr0 h => ?_)
    · obtain ⟨x, y, z, gs, f, ins, rfl, _⟩ := h
      rfl
    obtain ⟨x, y, z, gs, fm, ins, rfl, ⟨a, us, rfl, hS, pr⟩, hok, hF, ⟨c, rfl, hI⟩, ho, hd, q⟩ := h
    have hl : us.length = gs.length := Paired.len pr
    have hr1 : Room 1 (A.deeper (envOfC "worth" (defScope s_worth) s.heap.objs.size f cdv)) := hr0.mono (by omega)
    have hr := hr0
    refine ⟨_, (pss_cons (ps_if (pt_cmpR op_eq (pe_ix (ixT (K := K)) (pv 1) pe_int (fun _ _ => rfl)) pe_str (nomark _)) (pss_one (ps_ret (pe_ix (ixL (K := K)) (pv 2) (pe_ix (ixT (K := K)) (pv 1) pe_int (fun _ _ => rfl)) (fun _ _ => rfl)))) pss_nil)
  (pss_one (ps_ret (pe_ix (ixL (K := K)) (pe_ix (ixL (K := K)) (pv 0) (pe_ix (ixT (K := K)) (pv 1) pe_int (fun _ _ => rfl)) (fun _ _ => rfl)) (pe_fn G_row_of hr1 (by rfl) pass0 (pa_cons (pe_lc (own := [("part", 3)]) (g := gName 3) (tt := tYes) rfl sc_worth.nd (piT (K := K) (pe_ix (ixT (K := K)) (pv 1) pe_int (fun _ _ => rfl))) (blkOk_by (N := ["gates", "formula", "inputs", "part"]) (sc := defScope s_worth) (by decide +kernel)) (fun _ _ _ _ _ => pg_name (i := 3) sc_worth.nd rfl (Or.inl rfl)) (fun _ _ _ _ _ => pts_nil) (fun _ _ _ _ _ => (pe_fn IH hr (by rfl) pass0 (pa_cons (pv 0) (pa_cons (pv 3) (pa_cons (pv 2) pa_nil)))))) pa_nil)) (fun _ _ => rfl))))), ?_⟩
    cases hF with
    | @inp b n' hT =>
      refine ⟨_, rfl, b, _, _, _, rfl, rfl, hT, atI_nat (j := 0) rfl, rfl, _, rfl, ?_⟩
      rw [decide_eq_true (show V.str "in" = V.str "in" from rfl)]
      simp only [okF, Bool.and_eq_true, decide_eq_true_eq] at ho
      refine iteT ⟨_, rfl, _, rfl, b, _, _, _, rfl, rfl, hT, atI_nat (j := 1) rfl, c, _, _, _, rfl, rfl, hI, at_of (j := n'.toNat) (by omega) (lb_get (by omega)), q _ (Same.refl H)⟩
    | @gate b p n' vs ps hT hP hps =>
      simp only [okF, Bool.and_eq_true, decide_eq_true_eq] at ho
      simp only [dF] at hd
      obtain ⟨⟨h0, h1⟩, h2, h3⟩ := ho
      have hn : n'.toNat < gs.length := by omega
      have hgl : gs[n'.toNat]? = some (gs.getD n'.toNat []) := by
        rw [List.getD_eq_getElem?_getD, List.getElem?_eq_getElem hn]; rfl
      obtain ⟨u, hu, g, rfl, hB⟩ := Paired.at' pr hgl
      have hgo := okGs_at hok hgl
      have hlv := hps.len
      refine ⟨_, rfl, b, _, _, _, rfl, rfl, hT, atI_nat (j := 0) rfl, rfl, _, rfl, ?_⟩
      rw [decide_eq_false (show ¬ V.str "gate" = V.str "in" by decide)]
      refine iteF ⟨_, rfl, _, rfl, b, _, _, _, rfl, rfl, hT, atI_nat (j := 1) rfl, a, _, _, .ref g, rfl, rfl, hS, at_of (j := n'.toNat) (by omega) hu, ?_⟩
      have hw3 := wide_le (gs.getD n'.toNat []).length
      refine ⟨_, rfl, b, _, _, _, rfl, rfl, hT, atI_nat (j := 2) rfl, p, rfl, ⟨_, hP⟩, lc_P (wk_tup hP) (fun _ => true) (fun i => .bl ((vals gs ins ps).getD i false)) (by omega) (fun _ => rfl) (fun _ _ _ _ => et_yes) (fun i H1 s1 hi _ => ?_) (fun D H1 nD s1 e1 => ?_)⟩
      · obtain ⟨pf, hpf, hFp⟩ := hps.at (itOf_at hi)
        have hdp := dFs_at hpf
        have e : (vals gs ins ps).getD i false = val gs ins pf := by
          rw [vals_map, List.getD_eq_getElem?_getD, List.getElem?_map, hpf]; rfl
        rw [e]
        exact fun H2 s2 Q q => ⟨_, rfl, _, rfl, _, rfl, .ref a, itOf vs i, .ref c, gs, pf, ins, rfl, IsBs.mono (s1.trans s2) ⟨a, us, rfl, hS, pr⟩, hok, IsF.mono (s1.trans s2) pf hFp, ⟨c, rfl, (s1.trans s2).seq hI⟩, okFs_at h3 hpf, by omega, q⟩
      · have eL : (vals gs ins ps).length = vs.length := by rw [vals_map, List.length_map, hlv]
        rw [given_all (fun _ _ => rfl), map_bl, ← eL, map_getD] at e1
        refine ⟨.ref D, vals gs ins ps, rfl, ⟨D, rfl, SqL.of e1⟩, by omega, fun H2 s2 => ⟨g, _, _, _, rfl, rfl, (s1.trans s2).seq hB, atI_nat (lb_get ?_), q _ (s1.trans s2)⟩⟩
        exact row_lt hgo (by rw [eL, hlv, h2])
theorem ok_rows_of (D : Def K mg "rows_of" s_rows_of ["many"]) (B : Bl mg) : Fn P w K mg base CX0 1 "rows_of" ["many"] (sp_rows_of K) := by
  have m_range := B.range
  refine D.fn fun f fd F => F.ok sc_rows_of (fun vs H Q E h => ?_) (fun cdv A outer s H vs Q E hr h => ?_)
  · obtain ⟨z, rfl, _⟩ := h
    rfl
  obtain ⟨m, rfl, h1, h3, q⟩ := h
  refine ⟨_, (pss_cons (ps_set (i := 1) sc_rows_of.nd rfl (Or.inl rfl) (pe_lst (pa_cons (pe_lst pa_nil) pa_nil)))
  (pss_cons (ps_for PassesOwn.never rfl (pi_range1 (by rfl) m_range (pa_cons (pv 0) pa_nil)) (pg_name (i := 2) sc_rows_of.nd rfl (Or.inl rfl))
  (pss_one (ps_set (i := 1) sc_rows_of.nd rfl (Or.inl rfl) (pe_op op_cat (pe_lc (own := [("row", 3)]) (g := gName 3) (tt := tYes) rfl sc_rows_of.nd (piL (K := K) (pv 1)) (blkOk_by (N := ["many", "found", "k", "row"]) (sc := defScope s_rows_of) (by decide +kernel)) (fun _ _ _ _ _ => pg_name (i := 3) sc_rows_of.nd rfl (Or.inl rfl)) (fun _ _ _ _ _ => pts_nil) (fun _ _ _ _ _ => (pe_op op_cat (pv 3) (pe_lst (pa_cons pe_bl pa_nil))))) (pe_lc (own := [("row", 3)]) (g := gName 3) (tt := tYes) rfl sc_rows_of.nd (piL (K := K) (pv 1)) (blkOk_by (N := ["many", "found", "k", "row"]) (sc := defScope s_rows_of) (by decide +kernel)) (fun _ _ _ _ _ => pg_name (i := 3) sc_rows_of.nd rfl (Or.inl rfl)) (fun _ _ _ _ _ => pts_nil) (fun _ _ _ _ _ => (pe_op op_cat (pv 3) (pe_lst (pa_cons pe_bl pa_nil)))))))))
  (pss_one (ps_ret (pv 1))))), ?_⟩
  refine ⟨by show 0 ≤ sizeLine; decide, fun e0 ne0 => ⟨by show 1 ≤ sizeLine; decide, fun f0 nf0 => ?_⟩⟩
  have nef : e0 ≠ f0 := fun z => by rw [← z, upd_same] at nf0; cases nf0
  refine ⟨_, rfl, (m : Int), rfl, by omega, by omega, for_range (lo := 0) (fun i σ H' => ∃ p us x, σ = [some (.int m), some (.ref p), x, none] ∧ H p = none ∧ Same H H' ∧ H' p = some (.lst us) ∧ Paired (fun u g => ∃ a, u = .ref a ∧ a ≠ p ∧ H' a = some (.lst (LB g))) us (rowsN i)) ⟨f0, _, none, rfl, (Same.new ne0).free nf0, (Same.new ne0).trans (Same.new nf0), upd_same, .cons ⟨e0, rfl, nef, by rw [upd_ne nef]; exact upd_same⟩ .nil⟩ ?_ ?_⟩
  · rintro i σ H' hi ⟨p, us, x, rfl, np, sm, ep, pr⟩
    rw [Int.toNat_natCast] at hi
    have hul : us.length = 2 ^ i := by rw [Paired.len pr, rows_len]
    have hp8 : 2 ^ i ≤ 8 := pow_le (by omega)
    have half : ∀ (bb : Bool) (σ : L2.St) (H1 : Hp) (hσ : ∀ x, ((wipe σ [3]).set 3 (some x))[3]? = some (some x)) (hw : ∀ x, wipe ((wipe σ [3]).set 3 (some x)) [3] = wipe σ [3]) (s1 : Same H' H1) (Qd : Addr → Hp → Prop)
        (k : ∀ D H2 ys, H1 D = none → Same H1 H2 → H2 D = some (.lst ys) → Paired (fun u g => ∃ a, u = .ref a ∧ a ≠ D ∧ H' a = none ∧ H2 a = some (.lst (LB g))) ys ((rowsN i).map fun r => r ++ [bb]) → Qd D H2),
        ∀ D, H1 D = none → ∃ W : Nat → Nat → Hp → Prop, (∃ m, W 0 m (upd H1 D (.lst []))) ∧ ∀ i m H, W i m H →
      ((Itl K p).stop i H ∧ Qd D H) ∨ ((Itl K p).go i H ∧ ∃ Nx : Hp → Prop, (∀ H', Nx H' → ∃ m', m' < m ∧ W (i + 1) m' H') ∧ ∀ x H', (Itl K p).yld i H x H' → gName 3 x (wipe σ [3]) H' fun σ2 H2 => wipe σ2 [3] = wipe σ [3] ∧ tYes σ2 H2 fun b H3 =>
        if b = true then (tOp rCat (tVar 3) (tLst (tCons (tC (.bl bb)) tNil))) σ2 H3 fun y H4 => ∃ acc, H4 D = some (.lst acc) ∧ acc.length < sizeLine ∧ Nx (upd H4 D (.lst (acc ++ [y]))) else Nx H3) := by
      intro bb σ H1 hσ hw s1 Qd k
      refine lc_R (wk_list (SqL.of (s1 _ _ ep))) (fun _ => true) (fun D j v H2 => ∃ a, v = .ref a ∧ a ≠ D ∧ H' a = none ∧ H2 a = some (.lst (LB ((rowsN i).getD j [] ++ [bb])))) (fun D j v H2 H3 s ⟨a, e, n, nn, h⟩ => ⟨a, e, n, nn, s _ _ h⟩) (fun D j v H2 acc acc' eD ⟨a, e, n, nn, h⟩ => ⟨a, e, n, nn, by rw [upd_ne n]; exact h⟩) (by omega) hw (fun _ _ _ _ => et_yes) (fun D j H2 acc Q s2 eD hj _ k2 => ?_) (fun D H2 ys nD s2 eD pr2 => k D H2 ys nD s2 eD ?_)
      · obtain ⟨g, hg, a, ea, na, hA⟩ := Paired.at pr (itOf_at hj)
        have eg : (rowsN i).getD j [] = g := by rw [List.getD_eq_getElem?_getD, hg]; rfl
        have hA2 := s2 _ _ (s1 _ _ hA)
        refine ⟨_, hσ _, by show 1 ≤ sizeLine; decide, fun t nt => ⟨a, t, _, _, ea, rfl, (Same.new nt) _ _ hA2, upd_same, ?_, fun r nr => k2 _ _ ((Same.new nt).trans (Same.new nr)) ⟨r, rfl, ?_, ?_, ?_⟩⟩⟩
        · have : g.length = i := by
            have := List.mem_of_getElem? hg
            unfold rowsN at this
            obtain ⟨q, _, rfl⟩ := List.mem_map.mp this
            exact rowAt_len
          rw [lb_len, this]
          show i + 1 ≤ sizeLine
          exact sz (by omega)
        · have := (Same.new (o := .lst [.bl bb]) nt) _ _ eD
          exact fun z => by rw [z, this] at nr; cases nr
        · exact ((s1.trans s2).trans (Same.new nt)).free nr
        · rw [upd_same, eg, lb_app]
      · have hr : ((List.range us.length).filter fun _ => true) = List.range (rowsN i).length := by
          rw [List.filter_eq_self.mpr (fun _ _ => rfl), Paired.len pr]
        rw [hr] at pr2
        have hm : (rowsN i).map (fun r => r ++ [bb]) = (List.range (rowsN i).length).map fun j => (rowsN i).getD j [] ++ [bb] := by
          apply List.ext_getElem
          · rw [List.length_map, List.length_map, List.length_range]
          · intro j h1 h2
            rw [List.getElem_map, List.getElem_map, List.getElem_range, List.getD_eq_getElem?_getD, List.getElem?_eq_getElem (by rw [List.length_map] at h1; exact h1)]
            rfl
        rw [hm]
        exact Paired.map pr2
    show tAsg _ _ _ [some (.int m), some (.ref p), some (.int (0 + (i : Int))), none] H'
    refine ⟨_, rfl, p, rfl, ⟨_, SqL.of ep⟩, half false _ H' (fun _ => rfl) (fun _ => rfl) (Same.refl _) _ (fun D1 H1 ys1 nD1 s1 eD1 pr1 => ?_)⟩
    refine ⟨_, rfl, p, rfl, ⟨_, SqL.of (s1 _ _ ep)⟩, half true _ H1 (fun _ => rfl) (fun _ => rfl) s1 _ (fun D2 H2 ys2 nD2 s2 eD2 pr2 => ?_)⟩
    have hy1 : ys1.length = 2 ^ i := by rw [Paired.len pr1, List.length_map, rows_len]
    have hy2 : ys2.length = 2 ^ i := by rw [Paired.len pr2, List.length_map, rows_len]
    refine ⟨D1, D2, ys1, ys2, rfl, rfl, s2 _ _ eD1, eD2, by rw [hy1, hy2]; exact sz (by omega), fun t nt => ?_⟩
    have s3 := Same.new (o := .lst (ys1 ++ ys2)) nt
    have sT := sm.trans ((s1.trans s2).trans s3)
    refine ⟨t, ys1 ++ ys2, _, rfl, (sm.trans (s1.trans s2)).free nt, sT, upd_same, ?_⟩
    rw [rows_step (by omega)]
    refine Paired.app (Paired.imp (fun u g ⟨a, e, n, nn, h⟩ => ⟨a, e, ?_, s3 _ _ (s2 _ _ h)⟩) pr1) (Paired.imp (fun u g ⟨a, e, n, nn, h⟩ => ⟨a, e, ?_, s3 _ _ h⟩) pr2)
    · exact fun z => by rw [← z, s2 _ _ h] at nt; cases nt
    · exact fun z => by rw [← z, h] at nt; cases nt
  · rintro σ H' ⟨p, us, x, rfl, np, sm, ep, pr⟩
    exact ⟨_, rfl, q _ H' ⟨p, us, rfl, np, sm, ep, pr⟩⟩
theorem ok_table_of {CG CI CF : Addr} (D : Def K mg "table_of" s_table_of ["gates", "formula", "many"]) (G_ask_gates : Fn P w K mg base (L2.CX P w) 2 "ask_gates" ["gates"] (sp_ask_gates K CG)) (G_ask_inputs : Fn P w K mg base (L2.CX P w) 1 "ask_inputs" ["many"] (sp_ask_inputs CI))
    (G_ask_formula : Fn P w K mg base (L2.CX P w) 41 "ask_formula" ["gates", "formula", "many"] (sp_ask_formula K CF 40)) (G_worth : Fn P w K mg base CX0 41 "worth" ["gates", "formula", "inputs"] (sp_worth K 40)) (G_rows_of : Fn P w K mg base CX0 1 "rows_of" ["many"] (sp_rows_of K)) :
    Fn P w K mg base (L2.CX P w) 42 "table_of" ["gates", "formula", "many"] (sp_table_of K CG CI CF) := by
  refine D.fn fun f fd F => F.okX sc_table_of (fun vs H Q E h => ?_) (fun cdv A outer s H vs Q E hr h => ?_)
  · obtain ⟨x, y, m, gs, fm, rfl, _⟩ := h
    rfl
  obtain ⟨x, y, m, gs, fm, rfl, hx, hz, hF, hd, q1, q2, q3, q4⟩ := h
  refine ⟨_, (pss_cons (ps_expr (pe_fn G_ask_gates (hr.mono (by decide)) (by rfl) (passes_call (takes_of rfl rfl rfl rfl) fun _ _ _ _ h => h) (pa_cons (pv 0) pa_nil)))
  (pss_cons (ps_expr (pe_fn G_ask_inputs (hr.mono (by decide)) (by rfl) (passes_call (takes_of rfl rfl rfl rfl) fun _ _ _ _ h => h) (pa_cons (pv 2) pa_nil)))
  (pss_cons (ps_expr (pe_fn G_ask_formula (hr.mono (by decide)) (by rfl) (passes_call (takes_of rfl rfl rfl rfl) fun _ _ _ _ h => h) (pa_cons (pv 0) (pa_cons (pv 1) (pa_cons (pv 2) pa_nil)))))
  (pss_one (ps_ret (pe_lc (own := [("row", 3)]) (g := gName 3) (tt := tYes) rfl sc_table_of.nd (piL (K := K) (pe_fn G_rows_of (hr.mono (by decide)) (by rfl) pass0 (pa_cons (pv 2) pa_nil))) (blkOk_by (N := ["gates", "formula", "many", "row"]) (sc := defScope s_table_of) (by decide +kernel)) (fun _ _ _ _ _ => pg_name (i := 3) sc_table_of.nd rfl (Or.inl rfl)) (fun _ _ _ _ _ => pts_nil) (fun _ _ _ _ _ => (pe_fn G_worth (hr.mono (by decide)) (by rfl) pass0 (pa_cons (pv 0) (pa_cons (pv 1) (pa_cons (pv 3) pa_nil))))))))))), ?_⟩
  refine ⟨_, rfl, x, gs, rfl, hx, hz, fun ok H1 s1 => ?_, fun e H1 s1 => q2 e _ s1⟩
  refine ⟨_, rfl, m, rfl, fun hm1 hm3 => ?_, fun e => q3 ok e _ s1⟩
  refine ⟨_, rfl, _, rfl, _, rfl, x, y, m, gs, fm, rfl, hx.mono s1, ok, hF.mono s1, hd, fun of H2 s2 => ?_, fun e H2 s2 => q4 ok hm1 hm3 e _ (s1.trans s2)⟩
  have s12 := s1.trans s2
  have em : m = ((m.toNat : Nat) : Int) := by omega
  refine ⟨_, rfl, m.toNat, by rw [← em], by omega, by omega, fun v H3 hN => ?_⟩
  obtain ⟨p, us, rfl, np, s3, ep, pr⟩ := hN
  have hul : us.length = 2 ^ m.toNat := by rw [Paired.len pr, rows_len]
  have hp8 : 2 ^ m.toNat ≤ 8 := pow_le (by omega)
  refine ⟨p, rfl, ⟨_, SqL.of ep⟩, lc_P (wk_list (SqL.of ep)) (fun _ => true) (fun i => .bl (val gs (rowAt m.toNat i) fm)) (by omega) (fun _ => rfl) (fun _ _ _ _ => et_yes) (fun i H4 s4 hi _ => ?_) (fun D H4 nD s4 e4 => ?_)⟩
  · obtain ⟨r, hr, a, ea, _, hA⟩ := Paired.at pr (itOf_at hi)
    have er : r = rowAt m.toNat i := by
      rw [rows_at (by omega)] at hr
      exact (Option.some.inj hr).symm
    subst er
    have s4' := (s12.trans s3).trans s4
    exact fun H5 s5 Q q => ⟨_, rfl, _, rfl, _, rfl, x, y, itOf us i, gs, fm, rowAt m.toNat i, rfl, hx.mono (s4'.trans s5), ok, hF.mono (s4'.trans s5), ⟨a, ea, SqL.of (s5 _ _ (s4 _ _ hA))⟩, by rw [rowAt_len, ← em]; exact of, hd, q⟩
  · rw [given_all (fun _ _ => rfl), map_bl, hul] at e4
    refine q1 ok hm1 hm3 of _ H4 ⟨D, rfl, (s12.trans s3).free nD, (s12.trans s3).trans s4, ?_⟩
    rw [e4]
    unfold tableF rowsN
    rw [List.map_map]
    rfl
theorem ok_cell_at (D : Def K mg "_law_cell_at" s__law_cell_at ["script", "k"]) (B : Bl mg) : Fn P w K mg base CX0 1 "_law_cell_at" ["script", "k"] (sp_cell_at K) := by
  have m_len := B.len
  refine D.fn fun f fd F => F.ok sc__law_cell_at (fun vs H Q E h => ?_) (fun cdv A outer s H vs Q E hr h => ?_)
  · obtain ⟨a, ns, k, rfl, _⟩ := h
    rfl
  obtain ⟨a, ns, k, rfl, hS, q⟩ := h
  refine ⟨_, (pss_cons (ps_if (pt_cmpR op_lt (pv 1) (pe_callB (lenS (K := K)) (by rfl) m_len PySem.boot_len (pa_cons (pv 0) pa_nil)) (nomark _)) (pss_one (ps_ret (pe_ix (ixL (K := K)) (pv 0) (pv 1) (fun _ _ => rfl)))) pss_nil)
  (pss_one (ps_ret pe_int))), ?_⟩
  refine ⟨_, rfl, _, rfl, a, _, rfl, .inl hS, _, _, rfl, rfl, _, rfl, ite2 (fun c => ?_) (fun c => q 0)⟩
  have c' : (k : Int) < (((ns.map V.int).length : Nat) : Int) := of_decide_eq_true c
  rw [List.length_map] at c'
  have hk : k < ns.length := by omega
  exact ⟨_, rfl, _, rfl, a, _, k, _, rfl, rfl, hS, atI_nat (by rw [List.getElem?_map, List.getElem?_eq_getElem hk]; rfl), q _⟩
theorem ok_next (D : Def K mg "_law_next" s__law_next ["seed"]) : Fn P w K mg base CX0 1 "_law_next" ["seed"] sp_next := by
  refine D.fn fun f fd F => F.ok sc__law_next (fun vs H Q E h => ?_) (fun cdv A outer s H vs Q E hr h => ?_)
  · obtain ⟨z, rfl, _⟩ := h
    rfl
  obtain ⟨z, rfl, q⟩ := h
  refine ⟨_, (pss_cons (ps_set (i := 0) sc__law_next.nd rfl (Or.inl rfl) (pe_op op_mod (pe_op op_add (pv 0) pe_int) pe_int))
  (pss_one (ps_ret (pe_op op_mod (pe_op op_add (pe_op op_add (pe_op op_mul (pv 0) (pv 0)) (pe_op op_mul pe_int (pv 0))) pe_int) pe_int)))), ?_⟩
  have h1 := Int.emod_nonneg (z + 7919) (show (2147483647 : Int) ≠ 0 by decide)
  have h2 := Int.emod_lt_of_pos (z + 7919) (show (0 : Int) < 2147483647 by decide)
  refine ⟨_, rfl, _, _, rfl, rfl, _, _, rfl, rfl, (by show (0 : Int) < 2147483647; decide), ?_⟩
  refine ⟨_, rfl, _, rfl, _, _, rfl, rfl, .inl ⟨by omega, by omega⟩, _, rfl, _, _, rfl, rfl, .inl ⟨by decide, by decide⟩, _, _, rfl, rfl, _, _, rfl, rfl, _, _, rfl, rfl, (by show (0 : Int) < 2147483629; decide), ?_⟩
  exact q _ (Int.emod_nonneg _ (by decide)) (Int.emod_lt_of_pos _ (by decide))
theorem ok_law_gate (D : Def K mg "_law_gate" s__law_gate ["seed", "most"]) (B : Bl mg) (m : Nat) : Fn P w K mg base CX0 1 "_law_gate" ["seed", "most"] (sp_law_gate m) := by
  have m_range := B.range
  refine D.fn fun f fd F => F.ok sc__law_gate (fun vs H Q E h => ?_) (fun cdv A outer s H vs Q E hr h => ?_)
  · obtain ⟨z, rfl, _⟩ := h
    rfl
  obtain ⟨z, rfl, hz, h1, h3, q⟩ := h
  refine ⟨_, (pss_cons (ps_set (i := 2) sc__law_gate.nd rfl (Or.inr rfl) (pe_ix (ixL (K := K)) (pe_lst (pa_cons pe_int (pa_cons pe_int (pa_cons pe_int pa_nil)))) (pe_op op_mod (pe_op op_fdiv (pv 0) pe_int) (pv 1)) (fun _ _ => rfl)))
  (pss_cons (ps_set (i := 3) sc__law_gate.nd rfl (Or.inl rfl) (pe_op op_mod (pe_op op_fdiv (pv 0) pe_int) pe_int))
  (pss_cons (ps_if (pt_cmpR op_eq (pv 3) pe_int (nomark _)) (pss_one (ps_ret (pe_lc (own := [("row", 6)]) (g := gName 6) (tt := tYes) rfl sc__law_gate.nd (pi_range1 (by rfl) m_range (pa_cons (pv 2) pa_nil)) (blkOk_by (N := ["seed", "most", "size", "way", "found", "left", "row"]) (sc := defScope s__law_gate) (by decide +kernel)) (fun _ _ _ _ _ => pg_name (i := 6) sc__law_gate.nd rfl (Or.inl rfl)) (fun _ _ _ _ _ => pts_nil) (fun _ _ _ _ _ => (pe_cmpR op_eq (pe_op op_mod (pv 6) pe_int) (pe_op op_mod (pe_op op_fdiv (pv 0) pe_int) pe_int) (nomark _)))))) pss_nil)
  (pss_cons (ps_if (pt_cmpR op_eq (pv 3) pe_int (nomark _)) (pss_one (ps_ret (pe_lc (own := [("row", 6)]) (g := gName 6) (tt := tYes) rfl sc__law_gate.nd (pi_range1 (by rfl) m_range (pa_cons (pv 2) pa_nil)) (blkOk_by (N := ["seed", "most", "size", "way", "found", "left", "row"]) (sc := defScope s__law_gate) (by decide +kernel)) (fun _ _ _ _ _ => pg_name (i := 6) sc__law_gate.nd rfl (Or.inl rfl)) (fun _ _ _ _ _ => pts_nil) (fun _ _ _ _ _ => (pe_cmpR op_eq (pv 6) (pe_op op_sub (pv 2) pe_int) (nomark _)))))) pss_nil)
  (pss_cons (ps_if (pt_cmpR op_eq (pv 3) pe_int (nomark _)) (pss_one (ps_ret (pe_lc (own := [("row", 6)]) (g := gName 6) (tt := tYes) rfl sc__law_gate.nd (pi_range1 (by rfl) m_range (pa_cons (pv 2) pa_nil)) (blkOk_by (N := ["seed", "most", "size", "way", "found", "left", "row"]) (sc := defScope s__law_gate) (by decide +kernel)) (fun _ _ _ _ _ => pg_name (i := 6) sc__law_gate.nd rfl (Or.inl rfl)) (fun _ _ _ _ _ => pts_nil) (fun _ _ _ _ _ => (pe_cmpR op_gt (pv 6) pe_int (nomark _)))))) pss_nil)
  (pss_cons (ps_if (pt_cmpR op_eq (pv 3) pe_int (nomark _)) (pss_one (ps_ret (pe_lc (own := [("row", 6)]) (g := gName 6) (tt := tYes) rfl sc__law_gate.nd (pi_range1 (by rfl) m_range (pa_cons (pv 2) pa_nil)) (blkOk_by (N := ["seed", "most", "size", "way", "found", "left", "row"]) (sc := defScope s__law_gate) (by decide +kernel)) (fun _ _ _ _ _ => pg_name (i := 6) sc__law_gate.nd rfl (Or.inl rfl)) (fun _ _ _ _ _ => pts_nil) (fun _ _ _ _ _ => (pe_cmpR op_eq (pe_op op_mod (pe_op op_add (pe_op op_add (pv 6) (pe_op op_fdiv (pv 6) pe_int)) (pe_op op_fdiv (pv 6) pe_int)) pe_int) (pe_op op_mod (pe_op op_fdiv (pv 0) pe_int) pe_int) (nomark _)))))) pss_nil)
  (pss_cons (ps_if (PW.pt (pw_and (pt_cmpR op_eq (pv 3) pe_int (nomark _)) (pw_and1 (pt_cmpR op_eq (pv 2) pe_int (nomark _))))) (pss_one (ps_ret (pe_lc (own := [("row", 6)]) (g := gName 6) (tt := tYes) rfl sc__law_gate.nd (pi_range1 (by rfl) m_range (pa_cons (pv 2) pa_nil)) (blkOk_by (N := ["seed", "most", "size", "way", "found", "left", "row"]) (sc := defScope s__law_gate) (by decide +kernel)) (fun _ _ _ _ _ => pg_name (i := 6) sc__law_gate.nd rfl (Or.inl rfl)) (fun _ _ _ _ _ => pts_nil) (fun _ _ _ _ _ => (pe_cmpR (inS (K := K)) (pv 6) (pe_tup (pa_cons pe_int (pa_cons pe_int (pa_cons pe_int (pa_cons pe_int pa_nil))))) (by rfl)))))) pss_nil)
  (pss_cons (ps_set (i := 4) sc__law_gate.nd rfl (Or.inl rfl) (pe_lst pa_nil))
  (pss_cons (ps_set (i := 5) sc__law_gate.nd rfl (Or.inl rfl) (pe_op op_fdiv (pv 0) pe_int))
  (pss_cons (ps_for PassesOwn.never rfl (pi_range1 (by rfl) m_range (pa_cons (pv 2) pa_nil)) (pg_name (i := 6) sc__law_gate.nd rfl (Or.inl rfl))
  (pss_cons (ps_expr (pe_bm PySem.F.plainAttrs_list PySem.F.slot_list_append PySem.F.type_list_append mt_append (pv 4) (pa_cons (pe_cmpR op_eq (pe_op op_mod (pv 5) pe_int) pe_int (nomark _)) pa_nil)))
  (pss_one (ps_set (i := 5) sc__law_gate.nd rfl (Or.inl rfl) (pe_op op_fdiv (pv 5) pe_int)))))
  (pss_one (ps_ret (pv 4))))))))))))), ?_⟩
  -- size
  refine ⟨by show 3 ≤ sizeLine; decide, fun p np => ?_⟩
  have s0 : Same H (upd H p (.lst [.int 2, .int 4, .int 8])) := Same.new np
  obtain ⟨n, hn, hw, ha⟩ := size_at (z / 7) (m := m) h1 h3
  refine ⟨_, rfl, _, _, rfl, rfl, ⟨by decide, by decide⟩, _, rfl, _, _, rfl, rfl, (by show (0 : Int) < (m : Int); omega), p, _, _, _, rfl, rfl, SqL.of upd_same, ha, ?_⟩
  have hn8 : n ≤ 8 := okLen_le hn
  revert s0
  generalize upd H p (.lst [.int 2, .int 4, .int 8]) = H1
  intro s0
  have fin : ∀ (f : Nat → Bool) (r : Addr) (H' : Hp), H1 r = none → Same H1 H' → H' r = some (.lst (Evl.given ((n : Int)).toNat (fun _ => true) (fun i => .bl (f i)))) → Q (.ref r) H' := fun f r H' nr s1 e => by
    rw [given_all fun _ _ => rfl, show ((n : Int)).toNat = n by omega] at e
    rw [map_bl] at e
    refine q _ H' ((List.range n).map f) ?_ ?_ ⟨r, rfl, s0.free nr, s0.trans s1, e⟩
    · rw [List.length_map, List.length_range]; exact hn
    · rw [List.length_map, List.length_range]; exact hw
  -- way
  refine ⟨_, rfl, _, _, rfl, rfl, ⟨by decide, by decide⟩, _, _, rfl, rfl, (by show (0 : Int) < 6; decide), ?_⟩
  have bnd : (0 : Int) ≤ (n : Int) ∧ (n : Int) ≤ 40000 := by omega
  refine ⟨_, rfl, rfl, _, rfl, ite2 (fun _ => ?_) (fun _ => ?_)⟩
  · refine rd_ret ?_
    refine lcR1 (n : Int) (fun _ => true) (fun i => .bl (decide (V.int ((i : Int) % 2) = V.int (z / 126 % 2)))) bnd (Evl.ea_cons (Evl.ev_var rfl) Evl.ea_nil) (fun _ => rfl) (fun i H1 e hi => et_yes) (fun i H1 e hi _ => ?_) (fun r H' nr s1 e => fin _ r H' nr s1 e)
    exact Evl.ev_op (Evl.ev_op (Evl.ev_var rfl) Evl.ev_c (Evl.rv_I (by show (0 : Int) < 2; decide))) (Evl.ev_op (Evl.ev_op (Evl.ev_var rfl) Evl.ev_c (Evl.rv_I ⟨by decide, by decide⟩)) Evl.ev_c (Evl.rv_I (by show (0 : Int) < 2; decide))) (Evl.rv_eq rfl)
  refine ⟨_, rfl, rfl, _, rfl, ite2 (fun _ => ?_) (fun _ => ?_)⟩
  · refine rd_ret ?_
    refine lcR1 (n : Int) (fun _ => true) (fun i => .bl (decide (V.int (i : Int) = V.int ((n : Int) - 1)))) bnd (Evl.ea_cons (Evl.ev_var rfl) Evl.ea_nil) (fun _ => rfl) (fun i H1 e hi => et_yes) (fun i H1 e hi _ => ?_) (fun r H' nr s1 e => fin _ r H' nr s1 e)
    exact Evl.ev_op (Evl.ev_var rfl) (Evl.ev_op (Evl.ev_var rfl) Evl.ev_c Evl.rv_I0) (Evl.rv_eq rfl)
  refine ⟨_, rfl, rfl, _, rfl, ite2 (fun _ => ?_) (fun _ => ?_)⟩
  · refine rd_ret ?_
    refine lcR1 (n : Int) (fun _ => true) (fun i => .bl (decide ((0 : Int) < (i : Int)))) bnd (Evl.ea_cons (Evl.ev_var rfl) Evl.ea_nil) (fun _ => rfl) (fun i H1 e hi => et_yes) (fun i H1 e hi _ => ?_) (fun r H' nr s1 e => fin _ r H' nr s1 e)
    exact Evl.ev_op (Evl.ev_var rfl) Evl.ev_c (Evl.rv_I0 (g := fun i j => .bl (decide (j < i))))
  refine ⟨_, rfl, rfl, _, rfl, ite2 (fun _ => ?_) (fun _ => ?_)⟩
  · refine rd_ret ?_
    refine lcR1 (n : Int) (fun _ => true) (fun i => .bl (decide (V.int (((i : Int) + (i : Int) / 2 + (i : Int) / 4) % 2) = V.int (z / 126 % 2)))) bnd (Evl.ea_cons (Evl.ev_var rfl) Evl.ea_nil) (fun _ => rfl) (fun i H1 e hi => et_yes) (fun i H1 e hi _ => ?_) (fun r H' nr s1 e => fin _ r H' nr s1 e)
    exact Evl.ev_op (Evl.ev_op (Evl.ev_op (Evl.ev_op (Evl.ev_var rfl) (Evl.ev_op (Evl.ev_var rfl) Evl.ev_c (Evl.rv_I ⟨by decide, by decide⟩)) Evl.rv_I0) (Evl.ev_op (Evl.ev_var rfl) Evl.ev_c (Evl.rv_I ⟨by decide, by decide⟩)) Evl.rv_I0) Evl.ev_c (Evl.rv_I (by show (0 : Int) < 2; decide))) (Evl.ev_op (Evl.ev_op (Evl.ev_var rfl) Evl.ev_c (Evl.rv_I ⟨by decide, by decide⟩)) Evl.ev_c (Evl.rv_I (by show (0 : Int) < 2; decide))) (Evl.rv_eq rfl)
  have loop : tSeq (tAsg (tLst tNil) (gName 4)) (tSeq (tAsg (tOp (rI CDiv fun i j => .int (i / j)) (tVar 0) (tC (.int 126))) (gName 5)) (tSeq (tFor (iRng1 (tCons (tVar 2) tNil)) (gName 6) (tSeq (tDrop (tBM K "list" rAppend (tVar 4) (tCons (tOp rEq (tOp (rI (fun _ j => 0 < j) fun i j => .int (i % j)) (tVar 5) (tC (.int 2))) (tC (.int 1))) tNil)))
      (tAsg (tOp (rI CDiv fun i j => .int (i / j)) (tVar 5) (tC (.int 2))) (gName 5)))) (tRet (tVar 4)))) { nx := fun _ H' => Q .non H', rt := Q } [some (.int z), some (.int m), some (.int n), some (.int (z / 21 % 6)), none, none, none] H1 := by
    refine ⟨by show 0 ≤ sizeLine; decide, fun r nr => ?_⟩
    refine ⟨_, rfl, _, _, rfl, rfl, ⟨by decide, by decide⟩, ?_⟩
    refine ⟨_, rfl, (n : Int), rfl, by omega, by omega, for_range (lo := 0) (n := ((n : Int)).toNat) (fun i σ H' => ∃ (bs : List Bool) (l : Int) (x : Option V), σ = [some (.int z), some (.int m), some (.int n), some (.int (z / 21 % 6)), some (.ref r), some (.int l), x] ∧ bs.length = i ∧ Same H1 H' ∧ H' r = some (.lst (LB bs))) ⟨[], _, none, rfl, rfl, Same.new nr, upd_same⟩ ?_ ?_⟩
    · rintro i σ H' hi ⟨bs, l, x, rfl, hl, s2, e⟩
      refine ⟨_, rfl, .inl ⟨rfl, _, SqL.of e⟩, _, rfl, _, _, rfl, rfl, (by show (0 : Int) < 2; decide), rfl, r, _, _, rfl, rfl, e, by rw [lb_len]; exact szl (by omega), ?_⟩
      refine ⟨_, rfl, _, _, rfl, rfl, ⟨by decide, by decide⟩, ?_⟩
      exact ⟨bs ++ [decide (V.int (l % 2) = V.int 1)], _, _, rfl, by rw [List.length_append, hl]; rfl, s2.mut nr, by rw [upd_same, lb_app]⟩
    · rintro σ H' ⟨bs, l, x, rfl, hl, s2, e⟩
      have hl' : bs.length = n := by omega
      exact ⟨_, rfl, q _ H' bs (by rw [hl']; exact hn) (by rw [hl']; exact hw) ⟨r, rfl, s0.free nr, s0.trans s2, e⟩⟩
  refine ⟨_, rfl, rfl, _, rfl, ite2 (fun _ => ?_) (fun _ => iteF loop)⟩
  refine ⟨_, rfl, rfl, _, rfl, ite2 (fun _ => ?_) (fun _ => loop)⟩
  refine rd_ret ?_
  refine lcR1 (n : Int) (fun _ => true) (fun i => .bl (inV (.int (i : Int)) [.int 3, .int 5, .int 6, .int 7])) bnd (Evl.ea_cons (Evl.ev_var rfl) Evl.ea_nil) (fun _ => rfl) (fun i H1 e hi => et_yes) (fun i H1 e hi _ => ?_) (fun r H' nr s1 e => fin _ r H' nr s1 e)
  exact Evl.ev_inU (Evl.ev_var rfl) (Evl.eu_tup (Evl.ea_cons Evl.ev_c (Evl.ea_cons Evl.ev_c (Evl.ea_cons Evl.ev_c (Evl.ea_cons Evl.ev_c Evl.ea_nil)))) (by show 4 ≤ 100000; decide)) rfl rfl
theorem ok_law_gates {most : Nat} (D : Def K mg "_law_gates" s__law_gates ["script", "most"]) (B : Bl mg) (G_cell0 : Fn P w K mg base CX0 1 "_law_cell_at" ["script", "k"] (sp_cell_at K)) (G_next : Fn P w K mg base CX0 1 "_law_next" ["seed"] sp_next)
    (G_law_gate : Fn P w K mg base CX0 1 "_law_gate" ["seed", "most"] (sp_law_gate most)) : Fn P w K mg base CX0 2 "_law_gates" ["script", "most"] (sp_law_gates K most) := by
  have m_range := B.range
  have G_cell := cellZ G_cell0
  refine D.fn fun f fd F => F.ok sc__law_gates (fun vs H Q E h => ?_) (fun cdv A outer s H vs Q E hr h => ?_)
  · obtain ⟨a, ns, rfl, _⟩ := h
    rfl
  obtain ⟨a, ns, rfl, hS, h1, h3, q⟩ := h
  refine ⟨_, (pss_cons (ps_set (i := 2) sc__law_gates.nd rfl (Or.inl rfl) (pe_lst pa_nil))
  (pss_cons (ps_for PassesOwn.never rfl (pi_range1 (by rfl) m_range (pa_cons (pe_op op_add pe_int (pe_op op_mod (pe_fn G_cell (hr.mono (by decide)) (by rfl) pass0 (pa_cons (pv 0) (pa_cons pe_int pa_nil))) pe_int)) pa_nil)) (pg_name (i := 3) sc__law_gates.nd rfl (Or.inl rfl))
  (pss_one (ps_expr (pe_bm PySem.F.plainAttrs_list PySem.F.slot_list_append PySem.F.type_list_append mt_append (pv 2) (pa_cons (pe_fn G_law_gate (hr.mono (by decide)) (by rfl) pass0 (pa_cons (pe_fn G_next (hr.mono (by decide)) (by rfl) pass0 (pa_cons (pe_op op_add (pe_fn G_cell (hr.mono (by decide)) (by rfl) pass0 (pa_cons (pv 0) (pa_cons (pe_op op_add pe_int (pv 3)) pa_nil))) (pv 3)) pa_nil)) (pa_cons (pv 1) pa_nil))) pa_nil)))))
  (pss_one (ps_ret (pv 2))))), ?_⟩
  refine ⟨by show 0 ≤ sizeLine; decide, fun p np => ?_⟩
  have s0 : Same H (upd H p (.lst [])) := Same.new np
  refine ⟨_, rfl, a, ns, 0, rfl, by decide, s0.seq hS, fun z => ⟨_, _, rfl, rfl, (by show (0 : Int) < 5; decide), _, _, rfl, rfl, ?_⟩⟩
  have b1 := Int.emod_nonneg z (show (5 : Int) ≠ 0 by decide)
  have b2 := Int.emod_lt_of_pos z (show (0 : Int) < 5 by decide)
  refine ⟨1 + z % 5, rfl, by omega, by omega, for_range (lo := 0) (fun i σ H' => ∃ (us : List V) (gs : List (List Bool)) (x : Option V), σ = [some (.ref a), some (.int most), some (.ref p), x] ∧ Same H H' ∧ H' p = some (.lst us) ∧ us.length = i ∧ (∀ g ∈ gs, okLen g.length = true ∧ wideN g.length ≤ most) ∧ Paired (fun u g => ∃ a, u = .ref a ∧ a ≠ p ∧ H' a = some (.lst (LB g))) us gs) ⟨[], [], none, rfl, s0, upd_same, rfl, (fun g h => by cases h), .nil⟩ ?_ ?_⟩
  · rintro i σ H' hi ⟨us, gs, x, rfl, sm, ep, hl, hg, pr⟩
    have i5 : i < 5 := by omega
    refine ⟨_, rfl, .inl ⟨rfl, _, SqL.of ep⟩, _, rfl, _, rfl, _, _, rfl, rfl, a, ns, (1 + (0 + (i : Int))), rfl, by omega, sm.seq hS, fun z2 => ⟨_, rfl, _, _, rfl, rfl, _, rfl, fun n h0 hn => ⟨_, rfl, n, rfl, h0, h1, h3, fun v H2 g hgo hgw hN => ?_⟩⟩⟩
    obtain ⟨t, rfl, nt, s2, et⟩ := hN
    refine ⟨p, us, .ref t, rfl, rfl, s2 _ _ ep, szl (by omega), ?_⟩
    have ntp : t ≠ p := fun z => by rw [z, ep] at nt; cases nt
    refine ⟨us ++ [.ref t], gs ++ [g], _, rfl, GW.Same.step sm s2 np, upd_same, by rw [List.length_append, hl]; rfl, fun g' h' => ?_, ?_⟩
    · rcases List.mem_append.mp h' with h' | h'
      · exact hg g' h'
      · rw [List.mem_singleton.mp h']; exact ⟨hgo, hgw⟩
    · exact Paired.snoc ⟨t, rfl, ntp, by rw [upd_ne ntp]; exact et⟩ (Paired.imp (fun u g ⟨b, e, n, h⟩ => ⟨b, e, n, by rw [upd_ne n]; exact s2 _ _ h⟩) pr)
  · rintro σ H' ⟨us, gs, x, rfl, sm, ep, hl, hg, pr⟩
    have hlg := Paired.len pr
    refine ⟨_, rfl, q _ H' gs ?_ (fun g h => (hg g h).2) ⟨p, us, rfl, np, sm, ep, pr⟩⟩
    unfold okGs
    rw [decide_eq_true (show 1 ≤ gs.length by omega), decide_eq_true (show gs.length ≤ 5 by omega), List.all_eq_true.mpr fun g h => (hg g h).1]
    rfl
theorem ok__law_wide (D : Def K mg "_law_wide" s__law_wide ["gate"]) (B : Bl mg) : Fn P w K mg base CX0 1 "_law_wide" ["gate"] (sp_wide K) := by
  have m_len := B.len
  refine D.fn fun f fd F => F.ok sc__law_wide (fun vs H Q E h => ?_) (fun cdv A outer s H vs Q E hr h => ?_)
  · obtain ⟨v, g, rfl, _⟩ := h
    rfl
  obtain ⟨v, g, rfl, ⟨a, rfl, hS⟩, hl, q⟩ := h
  refine ⟨_, (pss_one (ps_ret (pe_dget (hu_of hr) (pe_disp (pps_cons pe_int pe_int (pps_cons pe_int pe_int (pps_cons pe_int pe_int pps_nil))) (by rfl) (by rfl) (fun z => by cases z) (by decide)) (pe_callB (lenS (K := K)) (by rfl) m_len PySem.boot_len (pa_cons (pv 0) pa_nil)) (fun _ _ => rfl)))), ?_⟩
  intro p np
  refine ⟨upd_same, [(.inl 2, .int 1), (.inl 4, .int 2), (.inl 8, .int 3)], rfl, by decide, ?_⟩
  have s1 : Same H (upd (upd H p (.dK [])) p (.dK (mergeK [] [(.inl 2, .int 1), (.inl 4, .int 2), (.inl 8, .int 3)]))) := (Same.new np).mut np
  refine ⟨_, rfl, a, _, rfl, .inl (s1.seq hS), p, .int (wideN g.length), rfl, ?_, q _ s1⟩
  have e : valV (mergeK [] [(.inl 2, .int 1), (.inl 4, .int 2), (.inl 8, .int 3)]) (Sum.inl ((LB g).length : Int)) = some (.int (wideN g.length)) := by
    rw [lb_len]
    rcases okLen_cases hl with e | e | e <;> rw [e] <;> rfl
  rw [← e]
  exact DGet.k (k := Sum.inl ((LB g).length : Int)) upd_same
theorem ok_law_formula (D : Def K mg "_law_formula" s__law_formula ["seed", "deep", "gates", "many"]) (B : Bl mg) (G_next : Fn P w K mg base CX0 1 "_law_next" ["seed"] sp_next) (G_law_wide : Fn P w K mg base CX0 1 "_law_wide" ["gate"] (sp_wide K)) :
    ∀ n : Nat, Fn P w K mg base CX0 (n + 1) "_law_formula" ["seed", "deep", "gates", "many"] (sp_law_formula K n)
  | 0 => (D.none (fun vs H Q E h => by obtain ⟨_, _, _, _, _, _, _, h, _⟩ := h; exact absurd h (Nat.not_lt_zero _))).mono (Nat.zero_le _)
  | n + 1 => by
    have IH := ok_law_formula D B G_next G_law_wide n
    have m_len := B.len; have m_range := B.range; have m_tuple := B.tuple
    refine D.fn fun f fd F => F.ok sc__law_formula (fun vs H Q E h => ?_) (fun cdv A outer s H vs Q E hr0 h => ?_)
    · obtain ⟨z, d, x, m, gs, rfl, _⟩ := h
      rfl
    obtain ⟨z, d, x, m, gs, rfl, hz, hd, ⟨a, us, rfl, hS, pr⟩, hok, hm1, hm3, q⟩ := h
    have hl : us.length = gs.length := Paired.len pr
    obtain ⟨hg1, hg5⟩ := okGs_len hok
    have hr1 : Room 1 (A.deeper (envOfC "_law_formula" (defScope s__law_formula) s.heap.objs.size f cdv)) := hr0.mono (by omega)
    have hr := hr0
    refine ⟨_, (pss_cons (ps_if (PW.pt (pw_or (pt_cmpR op_eq (pv 1) pe_int (nomark _)) (pw_or1 (pt_cmpR op_eq (pe_op op_mod (pe_op op_fdiv (pv 0) pe_int) pe_int) pe_int (nomark _))))) (pss_one (ps_ret (pe_tup (pa_cons pe_str (pa_cons (pe_op op_mod (pe_op op_fdiv (pv 0) pe_int) (pv 3)) pa_nil))))) pss_nil)
  (pss_cons (ps_set (i := 4) sc__law_formula.nd rfl (Or.inl rfl) (pe_op op_mod (pe_op op_fdiv (pv 0) pe_int) (pe_callB (lenS (K := K)) (by rfl) m_len PySem.boot_len (pa_cons (pv 2) pa_nil))))
  (pss_cons (ps_set (i := 5) sc__law_formula.nd rfl (Or.inl rfl) (pe_lst pa_nil))
  (pss_cons (ps_for PassesOwn.never rfl (pi_range1 (by rfl) m_range (pa_cons (pe_fn G_law_wide hr1 (by rfl) pass0 (pa_cons (pe_ix (ixL (K := K)) (pv 2) (pv 4) (fun _ _ => rfl)) pa_nil)) pa_nil)) (pg_name (i := 6) sc__law_formula.nd rfl (Or.inl rfl))
  (pss_one (ps_expr (pe_bm PySem.F.plainAttrs_list PySem.F.slot_list_append PySem.F.type_list_append mt_append (pv 5) (pa_cons (pe_fn IH hr (by rfl) pass0 (pa_cons (pe_fn G_next hr1 (by rfl) pass0 (pa_cons (pe_op op_add (pv 0) (pv 6)) pa_nil)) (pa_cons (pe_op op_sub (pv 1) pe_int) (pa_cons (pv 2) (pa_cons (pv 3) pa_nil))))) pa_nil)))))
  (pss_one (ps_ret (pe_tup (pa_cons pe_str (pa_cons (pv 4) (pa_cons (pe_callTy (tupOf (K := K)) (by rfl) m_tuple (by decide +kernel) (pa_cons (pv 5) pa_nil)) pa_nil)))))))))), ?_⟩
    have leaf : tRet (tTup (tCons (tC (.str "in")) (tCons (tOp (rI (fun _ j => 0 < j) fun i j => .int (i % j)) (tOp (rI CDiv fun i j => .int (i / j)) (tVar 0) (tC (.int 35))) (tVar 3)) tNil))) { nx := fun _ H' => Q .non H', rt := Q } [some (.int z), some (.int d), some (.ref a), some (.int m), none, none, none] H := by
      refine ⟨_, rfl, _, _, rfl, rfl, ⟨by decide, by decide⟩, _, rfl, _, _, rfl, rfl, (by show (0 : Int) < m; omega), by show 2 ≤ sizeLine; decide, fun p np => ?_⟩
      have b1 := Int.emod_nonneg (z / 35) (show m ≠ 0 by omega)
      have b2 := Int.emod_lt_of_pos (z / 35) (show (0 : Int) < m by omega)
      refine q _ _ (.inp (z / 35 % m)) (Same.new np) (.inp (SqT.of upd_same)) ?_ (Nat.zero_le _)
      simp only [okF]
      rw [decide_eq_true b1, decide_eq_true b2]
      rfl
    have rest : 0 < d → tSeq (tAsg (tOp (rI (fun _ j => 0 < j) fun i j => .int (i % j)) (tOp (rI CDiv fun i j => .int (i / j)) (tVar 0) (tC (.int 35))) (tCB (Evl.rLenS K) (tCons (tVar 2) tNil))) (gName 4)) (tSeq (tAsg (tLst tNil) (gName 5)) (tSeq (tFor (iRng1 (tCons (tFn (sp_wide K) E0 (tCons (tOp (rIxL K) (tVar 2) (tVar 4)) tNil)) tNil)) (gName 6) (tDrop (tBM K "list" rAppend (tVar 5) (tCons (tFn (sp_law_formula K n) E0 (tCons (tFn sp_next E0 (tCons (tOp (rI0 fun i j => .int (i + j)) (tVar 0) (tVar 6)) tNil)) (tCons (tOp (rI0 fun i j => .int (i - j)) (tVar 1) (tC (.int 1))) (tCons (tVar 2) (tCons (tVar 3) tNil))))) tNil)))) (tRet (tTup (tCons (tC (.str "gate")) (tCons (tVar 4) (tCons (tCB (rTupS K) (tCons (tVar 5) tNil)) tNil)))))))
        { nx := fun _ H' => Q .non H', rt := Q } [some (.int z), some (.int d), some (.ref a), some (.int m), none, none, none] H := by
      intro hd0
      refine ⟨_, rfl, _, _, rfl, rfl, ⟨by decide, by decide⟩, _, rfl, a, _, rfl, .inl hS, _, _, rfl, rfl, (by show (0 : Int) < (us.length : Int); omega), ?_⟩
      have b1 := Int.emod_nonneg (z / 35) (show (us.length : Int) ≠ 0 by omega)
      have b2 := Int.emod_lt_of_pos (z / 35) (show (0 : Int) < (us.length : Int) by omega)
      have hn : (z / 35 % (us.length : Int)).toNat < gs.length := by omega
      have hgl : gs[(z / 35 % (us.length : Int)).toNat]? = some (gs.getD (z / 35 % (us.length : Int)).toNat []) := by
        rw [List.getD_eq_getElem?_getD, List.getElem?_eq_getElem hn]; rfl
      obtain ⟨u, hu, hB⟩ := Paired.at' pr hgl
      have hgo := okGs_at hok hgl
      have hw3 := wide_le (gs.getD (z / 35 % (us.length : Int)).toNat []).length
      refine ⟨by show 0 ≤ sizeLine; decide, fun p np => ?_⟩
      have s0 : Same H (upd H p (.lst [])) := Same.new np
      refine ⟨_, rfl, _, rfl, a, _, _, u, rfl, rfl, s0.seq hS, at_of (j := (z / 35 % (us.length : Int)).toNat) (by omega) hu, u, _, rfl, hB.mono s0, hgo, fun H1 s1 => ⟨_, rfl, by omega, by omega, for_range (lo := 0) (fun i σ H' => ∃ vs ps x, σ = [some (.int z), some (.int d), some (.ref a), some (.int m), some (.int (z / 35 % (us.length : Int))), some (.ref p), x] ∧ Same H H' ∧ H' p = some (.lst vs) ∧ IsFs K H' vs ps ∧ ps.length = i ∧ okFs gs m ps = true ∧ dFs ps ≤ d - 1) ⟨[], [], none, rfl, s0.trans s1, s1 _ _ upd_same, .nil, rfl, rfl, Nat.zero_le _⟩ ?_ ?_⟩⟩
      · rintro i σ H' hi ⟨vs, ps, x, rfl, sm, ep, hF, hpl, hpo, hpd⟩
        refine ⟨_, rfl, .inl ⟨rfl, _, SqL.of ep⟩, _, rfl, _, rfl, _, _, rfl, rfl, _, rfl, fun n0 h0 _ => ⟨_, rfl, _, _, rfl, rfl, _, rfl, _, rfl, n0, d - 1, .ref a, m, gs, ?_, h0, by omega, IsBs.mono sm ⟨a, us, rfl, hS, pr⟩, hok, hm1, hm3, fun v H2 fm s2 hFm hfo hfd => ?_⟩⟩
        · rw [show ((d - 1 : Nat) : Int) = (d : Int) - 1 by omega]
        · have hvl := hF.len
          refine ⟨p, vs, v, rfl, rfl, s2 _ _ ep, szl (by omega), vs ++ [v], ps ++ [fm], _, rfl, GW.Same.step sm s2 np, upd_same, IsFs.snoc (IsF.list (s2 _ _ ep) fm hFm) (IsFs.list (s2 _ _ ep) ps (IsFs.mono s2 ps hF)), by rw [List.length_append, hpl]; rfl, ?_, ?_⟩
          · rw [okFs_app, hpo]
            simp only [okFs]
            rw [hfo]
            rfl
          · rw [dFs_app]
            simp only [dFs]
            exact Nat.max_le.mpr ⟨hpd, Nat.max_le.mpr ⟨hfd, Nat.zero_le _⟩⟩
      · rintro σ H' ⟨vs, ps, x, rfl, sm, ep, hF, hpl, hpo, hpd⟩
        have hvl := hF.len
        refine ⟨_, rfl, _, rfl, p, _, rfl, .inl ⟨SqL.of ep, fun t nt => ⟨by show 3 ≤ sizeLine; decide, fun r nr => ?_⟩⟩⟩
        have s2 := Same.new (o := .tup vs) nt
        have s3 := Same.new (o := .tup [.str "gate", .int (z / 35 % (us.length : Int)), .ref t]) nr
        have s23 := s2.trans s3
        refine q _ _ (.gate (z / 35 % (us.length : Int)) ps) (sm.trans s23) (.gate (SqT.of upd_same) (SqT.of (s3 _ _ upd_same)) (IsFs.mono s23 ps hF)) ?_ ?_
        · simp only [okF]
          rw [decide_eq_true b1, decide_eq_true (show z / 35 % (us.length : Int) < (gs.length : Int) by omega), decide_eq_true (show ps.length = wideN (gs.getD (z / 35 % (us.length : Int)).toNat []).length by rw [hpl]; omega), hpo]
          rfl
        · simp only [dF]
          omega
    refine ⟨_, rfl, rfl, _, rfl, ite2 (fun c => iteT leaf) (fun c => ?_)⟩
    have hd0 : 0 < d := by
      refine Nat.pos_of_ne_zero fun z => c ?_
      subst z
      exact decide_eq_true rfl
    refine ⟨_, rfl, _, _, rfl, rfl, ⟨by decide, by decide⟩, _, _, rfl, rfl, (by show (0 : Int) < 5; decide), rfl, _, rfl, ite2 (fun c => leaf) (fun c => rest hd0)⟩
theorem ok_law_sums (D : Def K mg "_law_sums" s__law_sums ["gate"]) (B : Bl mg) : Fn P w K mg base CX0 1 "_law_sums" ["gate"] (sp_law_sums K) := by
  have m_len := B.len; have m_range := B.range
  refine D.fn fun f fd F => F.ok sc__law_sums (fun vs H Q E h => ?_) (fun cdv A outer s H vs Q E hr h => ?_)
  · obtain ⟨a, g, rfl, _⟩ := h
    rfl
  obtain ⟨v, g, rfl, ⟨a, rfl, hS⟩, hl, q⟩ := h
  have h8 := okLen_le hl
  refine ⟨_, (pss_cons (ps_set (i := 1) sc__law_sums.nd rfl (Or.inl rfl) (pe_op op_sub (pe_callB (lenS (K := K)) (by rfl) m_len PySem.boot_len (pa_cons (pv 0) pa_nil)) pe_int))
  (pss_cons (ps_for PassesOwn.never rfl (pi_range1 (by rfl) m_range (pa_cons (pe_callB (lenS (K := K)) (by rfl) m_len PySem.boot_len (pa_cons (pv 0) pa_nil)) pa_nil)) (pg_name (i := 2) sc__law_sums.nd rfl (Or.inl rfl))
  (pss_one (ps_for PassesOwn.never rfl (piL (K := K) (pe_lst (pa_cons pe_bl (pa_cons pe_bl pa_nil)))) (pg_name (i := 3) sc__law_sums.nd rfl (Or.inl rfl))
  (pss_cons (ps_set (i := 4) sc__law_sums.nd rfl (Or.inl rfl) pe_bl)
  (pss_cons (ps_for PassesOwn.never rfl (pi_range1 (by rfl) m_range (pa_cons (pe_op op_add (pv 1) pe_int) pa_nil)) (pg_name (i := 5) sc__law_sums.nd rfl (Or.inl rfl))
  (pss_cons (ps_set (i := 6) sc__law_sums.nd rfl (Or.inl rfl) (pe_op op_mul (pe_op op_mod (pv 5) pe_int) (pe_op op_mod (pv 2) pe_int)))
  (pss_cons (ps_set (i := 6) sc__law_sums.nd rfl (Or.inl rfl) (pe_op op_add (pv 6) (pe_op op_mul (pe_op op_mod (pe_op op_fdiv (pv 5) pe_int) pe_int) (pe_op op_mod (pe_op op_fdiv (pv 2) pe_int) pe_int))))
  (pss_cons (ps_set (i := 6) sc__law_sums.nd rfl (Or.inl rfl) (pe_op op_add (pv 6) (pe_op op_mul (pe_op op_fdiv (pv 5) pe_int) (pe_op op_fdiv (pv 2) pe_int))))
  (pss_one (ps_if (pt_cmpR op_ne (pe_ix (ixL (K := K)) (pv 0) (pv 5) (fun _ _ => rfl)) (pe_cmpR op_ne (pe_cmpR op_eq (pe_op op_mod (pv 6) pe_int) pe_int (nomark _)) (pv 3) (nomark _)) (nomark _)) (pss_one (ps_set (i := 4) sc__law_sums.nd rfl (Or.inl rfl) pe_bl)) pss_nil))))))
  (pss_one (ps_if (pt_val (pv 4)) (pss_one (ps_ret pe_bl)) pss_nil)))))))
  (pss_one (ps_ret pe_bl)))), ?_⟩
  refine ⟨_, rfl, a, _, rfl, .inl hS, _, _, rfl, rfl, ?_⟩
  have elen : ((LB g).length : Int) = (g.length : Int) := by rw [lb_len]
  have hpos : 0 < g.length := by rcases okLen_cases hl with e | e | e <;> omega
  refine ⟨_, rfl, a, _, rfl, .inl hS, ((LB g).length : Int), rfl, by rw [lb_len]; omega, by rw [lb_len]; omega, for_range (lo := 0) (fun i σ H' => ∃ x2 x3 x4 x5 x6, σ = [some (.ref a), some (.int (((LB g).length : Int) - 1)), x2, x3, x4, x5, x6] ∧ Same H H' ∧ ∀ j, j < i → ([false, true].any fun t => sumFit g j t) = false) ⟨none, none, none, none, none, rfl, Same.refl H, fun j h => by omega⟩ ?_ ?_⟩
  · rintro i σ H' hi ⟨x2, x3, x4, x5, x6, rfl, sm, hn⟩
    rw [lb_len, Int.toNat_natCast] at hi
    have hL := sm.seq hS
    show tFor _ _ _ _ [some (.ref a), some (.int (((LB g).length : Int) - 1)), some (.int (0 + (i : Int))), x3, x4, x5, x6] H'
    rw [Int.zero_add]
    refine ⟨by show 2 ≤ sizeLine; decide, fun p np => ⟨p, rfl, ⟨_, SqL.of upd_same⟩, ?_⟩⟩
    have s1 : Same H' (upd H' p (.lst [.bl false, .bl true])) := Same.new np
    have ep : (upd H' p (.lst [.bl false, .bl true])) p = some (.lst [.bl false, .bl true]) := upd_same
    revert s1 ep
    generalize upd H' p (.lst [.bl false, .bl true]) = H1
    intro s1 ep
    refine for_list (K := K) (a := p) (xs := [.bl false, .bl true]) (fun i2 σ H2 => ∃ x3 x4 x5 x6, σ = [some (.ref a), some (.int (((LB g).length : Int) - 1)), some (.int (i : Int)), x3, x4, x5, x6] ∧ Same H1 H2 ∧ ∀ j t, j < i2 → [false, true][j]? = some t → sumFit g i t = false) ⟨x3, x4, x5, x6, rfl, Same.refl _, fun j t h => by omega⟩ (fun _ _ _ _ ⟨_, _, _, _, _, s2, _⟩ => s2.seq (SqL.of ep)) ?_ ?_
    · rintro i2 u σ H2 hu ⟨x3, x4, x5, x6, rfl, s2, hn2⟩
      obtain ⟨t, ht, rfl⟩ : ∃ t, [false, true][i2]? = some t ∧ u = .bl t := by
        rw [show ([V.bl false, V.bl true] : List V) = [false, true].map V.bl from rfl, List.getElem?_map] at hu
        cases e : [false, true][i2]? with
        | none => rw [e] at hu; cases hu
        | some t => rw [e] at hu; exact ⟨t, rfl, (Option.some.inj hu).symm⟩
      refine ⟨_, rfl, _, _, rfl, rfl, ((LB g).length : Int) - 1 + 1, rfl, by rw [lb_len]; omega, by rw [lb_len]; omega, for_range (lo := 0) (fun i3 σ H3 => ∃ x5 x6, σ = [some (.ref a), some (.int (((LB g).length : Int) - 1)), some (.int (i : Int)), some (.bl t), some (.bl ((List.range i3).all fun row => at_ g row == ((met i row % 2 == 1) != t))), x5, x6] ∧ Same H2 H3) ⟨x5, x6, rfl, Same.refl _⟩ ?_ ?_⟩
      · rintro r σ H3 hr ⟨x5, x6, rfl, s3⟩
        rw [lb_len] at hr
        have hr' : r < g.length := by omega
        have hL3 := ((s1.trans s2).trans s3).seq hL
        refine ⟨_, rfl, _, _, rfl, rfl, (by show (0 : Int) < 2; decide), _, rfl, _, _, rfl, rfl, (by show (0 : Int) < 2; decide), _, _, rfl, rfl, .inl ?_, ?_⟩
        · have := Int.emod_nonneg ((0 : Int) + (r : Int)) (show (2 : Int) ≠ 0 by decide)
          have := Int.emod_lt_of_pos ((0 : Int) + (r : Int)) (show (0 : Int) < 2 by decide)
          exact ⟨by omega, by omega⟩
        refine ⟨_, rfl, _, rfl, _, _, rfl, rfl, ⟨by decide, by decide⟩, _, _, rfl, rfl, (by show (0 : Int) < 2; decide), _, rfl, _, _, rfl, rfl, ⟨by decide, by decide⟩, _, _, rfl, rfl, (by show (0 : Int) < 2; decide), _, _, rfl, rfl, .inl ?_, _, _, rfl, rfl, ?_⟩
        · have := Int.emod_nonneg (((0 : Int) + (r : Int)) / 2) (show (2 : Int) ≠ 0 by decide)
          have := Int.emod_lt_of_pos (((0 : Int) + (r : Int)) / 2) (show (0 : Int) < 2 by decide)
          exact ⟨by omega, by omega⟩
        refine ⟨_, rfl, _, rfl, _, _, rfl, rfl, ⟨by decide, by decide⟩, _, rfl, _, _, rfl, rfl, ⟨by decide, by decide⟩, _, _, rfl, rfl, .inl ⟨by omega, by omega⟩, _, _, rfl, rfl, ?_⟩
        refine ⟨_, rfl, _, rfl, a, _, _, _, rfl, rfl, hL3, at_of (j := r) (by omega) (lb_get hr'), _, rfl, _, _, rfl, rfl, (by show (0 : Int) < 2; decide), rfl, _, rfl, rfl, rfl, _, rfl, ?_⟩
        have em : ((0 : Int) + (r : Int)) % 2 * ((i : Int) % 2) + ((0 : Int) + (r : Int)) / 2 % 2 * ((i : Int) / 2 % 2) + ((0 : Int) + (r : Int)) / 4 * ((i : Int) / 4) = ((met i r : Nat) : Int) := by
          rw [Int.zero_add]
          unfold met
          push_cast
          rfl
        have eb : decide (V.int ((((0 : Int) + (r : Int)) % 2 * ((i : Int) % 2) + ((0 : Int) + (r : Int)) / 2 % 2 * ((i : Int) / 2 % 2) + ((0 : Int) + (r : Int)) / 4 * ((i : Int) / 4)) % 2) = V.int 1) = (met i r % 2 == 1) := by
          rw [em]
          show _ = decide (met i r % 2 = 1)
          exact decide_eq_decide.mpr ⟨fun h => by have := V.int.inj h; omega, fun h => congrArg V.int (by omega)⟩
        have key : (!decide (V.bl (g.getD r false) = V.bl (!decide (V.bl (met i r % 2 == 1) = V.bl t)))) = !(at_ g r == ((met i r % 2 == 1) != t)) := by
          show (!decide (V.bl (at_ g r) = _)) = _
          cases at_ g r <;> cases (met i r % 2 == 1) <;> cases t <;> rfl
        show if (!decide (V.bl (g.getD r false) = V.bl (!decide (V.bl (decide (V.int ((((0 : Int) + (r : Int)) % 2 * ((i : Int) % 2) + ((0 : Int) + (r : Int)) / 2 % 2 * ((i : Int) / 2 % 2) + ((0 : Int) + (r : Int)) / 4 * ((i : Int) / 4)) % 2) = V.int 1)) = V.bl t)))) = true then _ else _
        rw [eb, key]
        have er : ((List.range (r + 1)).all fun row => at_ g row == ((met i row % 2 == 1) != t)) = (((List.range r).all fun row => at_ g row == ((met i row % 2 == 1) != t)) && (at_ g r == ((met i r % 2 == 1) != t))) := by
          rw [List.range_succ, List.all_append, List.all_cons, List.all_nil, Bool.and_true]
        cases eq : (at_ g r == ((met i r % 2 == 1) != t)) with
        | true =>
          rw [eq, Bool.and_true] at er
          exact iteF ⟨_, _, by rw [er]; rfl, s3⟩
        | false =>
          rw [eq, Bool.and_false] at er
          exact iteT ⟨_, _, by rw [er]; rfl, s3⟩
      · rintro σ H3 ⟨x5, x6, rfl, s3⟩
        have en : (((LB g).length : Int) - 1 + 1).toNat = g.length := by rw [lb_len]; omega
        rw [en]
        refine ⟨.bl (sumFit g i t), rfl, _, rfl, ?_⟩
        have sA := ((sm.trans s1).trans s2).trans s3
        cases e : sumFit g i t with
        | true =>
          have : lawSums g = true := List.any_eq_true.mpr ⟨i, List.mem_range.mpr hi, List.any_eq_true.mpr ⟨t, List.mem_of_getElem? ht, e⟩⟩
          rw [this] at q
          exact iteT (q _ sA)
        | false =>
          refine iteF ⟨_, _, _, _, rfl, s2.trans s3, fun j z hj hz => ?_⟩
          by_cases ej : j = i2
          · subst ej
            rw [ht] at hz
            cases hz
            exact e
          · exact hn2 j z (by omega) hz
    · rintro σ H2 ⟨x3, x4, x5, x6, rfl, s2, hn2⟩
      refine ⟨_, _, _, _, _, rfl, (sm.trans s1).trans s2, fun j hj => ?_⟩
      by_cases ej : j = i
      · subst ej
        show ([false, true].any fun t => sumFit g j t) = false
        rw [List.any_cons, List.any_cons, List.any_nil, hn2 0 false (by decide) rfl, hn2 1 true (by decide) rfl]
        rfl
      · exact hn j (by omega)
  · rintro σ H' ⟨x2, x3, x4, x5, x6, rfl, sm, hn⟩
    rw [lb_len, Int.toNat_natCast] at hn
    have : lawSums g = false := List.any_eq_false.mpr fun x hx => by rw [show ([false, true].any fun t => (List.range g.length).all fun row => at_ g row == ((met x row % 2 == 1) != t)) = false from hn x (List.mem_range.mp hx)]; decide
    rw [this] at q
    exact q _ sm
theorem ok_law_rises (D : Def K mg "_law_rises" s__law_rises ["gate"]) (B : Bl mg) : Fn P w K mg base CX0 1 "_law_rises" ["gate"] (sp_law_rises K) := by
  have m_len := B.len; have m_range := B.range
  refine D.fn fun f fd F => F.ok sc__law_rises (fun vs H Q E h => ?_) (fun cdv A outer s H vs Q E hr h => ?_)
  · obtain ⟨a, g, rfl, _⟩ := h
    rfl
  obtain ⟨v, g, rfl, ⟨a, rfl, hS⟩, hl, q⟩ := h
  have h8 := okLen_le hl
  refine ⟨_, (pss_cons (ps_for PassesOwn.never rfl (piL (K := K) (pe_lst (pa_cons pe_int (pa_cons pe_int (pa_cons pe_int pa_nil))))) (pg_name (i := 1) sc__law_rises.nd rfl (Or.inl rfl))
  (pss_one (ps_for PassesOwn.never rfl (pi_range1 (by rfl) m_range (pa_cons (pe_op op_sub (pe_callB (lenS (K := K)) (by rfl) m_len PySem.boot_len (pa_cons (pv 0) pa_nil)) (pv 1)) pa_nil)) (pg_name (i := 2) sc__law_rises.nd rfl (Or.inl rfl))
  (pss_one (ps_if (PW.pt (pw_and (pt_cmpR op_eq (pe_op op_mod (pe_op op_fdiv (pv 2) (pv 1)) pe_int) pe_int (nomark _)) (pw_and (pt_val (pe_ix (ixL (K := K)) (pv 0) (pv 2) (fun _ _ => rfl))) (pw_and1 (pt_not (pt_val (pe_ix (ixL (K := K)) (pv 0) (pe_op op_add (pv 2) (pv 1)) (fun _ _ => rfl)))))))) (pss_one (ps_ret pe_bl)) pss_nil)))))
  (pss_one (ps_ret pe_bl))), ?_⟩
  refine ⟨by show 3 ≤ sizeLine; decide, fun p np => ⟨p, rfl, ⟨_, SqL.of upd_same⟩, ?_⟩⟩
  have s1 : Same H (upd H p (.lst [.int 1, .int 2, .int 4])) := Same.new np
  have ep : (upd H p (.lst [.int 1, .int 2, .int 4])) p = some (.lst [.int 1, .int 2, .int 4]) := upd_same
  revert s1 ep
  generalize upd H p (.lst [.int 1, .int 2, .int 4]) = H1
  intro s1 ep
  refine for_list (K := K) (a := p) (xs := [.int 1, .int 2, .int 4]) (fun i σ H2 => ∃ x1 x2, σ = [some (.ref a), x1, x2] ∧ Same H1 H2 ∧ ∀ j b, j < i → [1, 2, 4][j]? = some b → riseFit g b = true) ⟨none, none, rfl, Same.refl _, fun j t h => by omega⟩ (fun _ _ _ _ ⟨_, _, _, s2, _⟩ => s2.seq (SqL.of ep)) ?_ ?_
  · rintro i u σ H2 hu ⟨x1, x2, rfl, s2, hn⟩
    obtain ⟨b, hb, rfl⟩ : ∃ b : Nat, [1, 2, 4][i]? = some b ∧ u = .int (b : Int) := by
      rw [show ([V.int 1, V.int 2, V.int 4] : List V) = [1, 2, 4].map (fun b : Nat => V.int (b : Int)) from rfl, List.getElem?_map] at hu
      cases e : [1, 2, 4][i]? with
      | none => rw [e] at hu; cases hu
      | some t => rw [e] at hu; exact ⟨t, rfl, (Option.some.inj hu).symm⟩
    have hbd : 0 < b ∧ b ≤ 4 := by
      have := List.mem_of_getElem? hb
      simp at this
      omega
    have hL := (s1.trans s2).seq hS
    refine ⟨_, rfl, a, _, rfl, .inl hL, _, rfl, _, _, rfl, rfl, ((LB g).length : Int) - (b : Int), rfl, by rw [lb_len]; omega, by rw [lb_len]; omega, for_range (lo := 0) (fun i2 σ H3 => ∃ x2, σ = [some (.ref a), some (.int (b : Int)), x2] ∧ Same H2 H3 ∧ ∀ j, j < i2 → (!(j / b % 2 == 0 && (at_ g j && !at_ g (j + b)))) = true) ⟨x2, rfl, Same.refl _, fun j h => by omega⟩ ?_ ?_⟩
    · rintro r σ H3 hr ⟨x2, rfl, s3, hn3⟩
      rw [lb_len] at hr
      have hrb : r + b < g.length := by omega
      have hL3 := s3.seq hL
      show tIfS _ _ _ _ [some (.ref a), some (.int (b : Int)), some (.int (0 + (r : Int)))] H3
      rw [Int.zero_add]
      have no : (r / b % 2 == 0 && (at_ g r && !at_ g (r + b))) = false → ∃ x2, [some (V.ref a), some (.int (b : Int)), some (.int (r : Int))] = [some (.ref a), some (.int (b : Int)), x2] ∧ Same H2 H3 ∧ ∀ j, j < r + 1 → (!(j / b % 2 == 0 && (at_ g j && !at_ g (j + b)))) = true := fun e => by
        refine ⟨_, rfl, s3, fun j hj => ?_⟩
        by_cases ej : j = r
        · subst ej
          rw [e]; rfl
        · exact hn3 j (by omega)
      refine ⟨_, rfl, _, rfl, _, _, rfl, rfl, ⟨by omega, by omega⟩, _, _, rfl, rfl, (by show (0 : Int) < 2; decide), rfl, _, rfl, ite2 (fun c => ?_) (fun c => iteF (no ?_))⟩
      · have c1 : r / b % 2 = 0 := by have := V.int.inj (of_decide_eq_true c); omega
        refine ⟨_, rfl, _, rfl, a, _, (r : Int), _, rfl, rfl, hL3, atI_nat (lb_get (by omega)), _, rfl, ite2 (fun c2 => ?_) (fun c2 => iteF (no ?_))⟩
        · refine ⟨_, rfl, _, rfl, _, rfl, _, _, rfl, rfl, a, _, _, _, rfl, rfl, hL3, at_of (j := r + b) (by omega) (lb_get hrb), _, rfl, ?_⟩
          cases c3 : g.getD (r + b) false with
          | true =>
            refine iteF (no ?_)
            show (r / b % 2 == 0 && (at_ g r && !g.getD (r + b) false)) = false
            rw [c3, Bool.not_true, Bool.and_false, Bool.and_false]
          | false =>
            have : lawRises g = false := by
              refine List.all_eq_false.mpr ⟨b, List.mem_of_getElem? hb, ?_⟩
              rw [Bool.not_eq_true]
              refine List.all_eq_false.mpr ⟨r, List.mem_range.mpr (by omega), ?_⟩
              show ¬ (!(r / b % 2 == 0 && (g.getD r false && !g.getD (r + b) false))) = true
              rw [c3, c2, c1]; decide
            rw [this] at q
            exact iteT (q _ ((s1.trans s2).trans s3))
        · show (r / b % 2 == 0 && (g.getD r false && !at_ g (r + b))) = false
          rw [Bool.eq_false_iff.mpr c2, Bool.false_and, Bool.and_false]
      · have c1 : ¬ r / b % 2 = 0 := fun z => c (decide_eq_true (congrArg V.int (by omega)))
        rw [beq_eq_false_iff_ne.mpr c1, Bool.false_and]
    · rintro σ H3 ⟨x2, rfl, s3, hn3⟩
      refine ⟨_, _, rfl, s2.trans s3, fun j z hj hz => ?_⟩
      by_cases ej : j = i
      · subst ej
        rw [hb] at hz
        cases hz
        exact List.all_eq_true.mpr fun k hk => hn3 k (by have := List.mem_range.mp hk; rw [lb_len]; omega)
      · exact hn j z (by omega) hz
  · rintro σ H2 ⟨x1, x2, rfl, s2, hn⟩
    have : lawRises g = true := by
      show ([1, 2, 4].all fun b => riseFit g b) = true
      rw [List.all_cons, List.all_cons, List.all_cons, List.all_nil, hn 0 1 (by decide) rfl, hn 1 2 (by decide) rfl, hn 2 4 (by decide) rfl]
      rfl
    rw [this] at q
    exact q _ (s1.trans s2)
theorem ok_law_holds (D : Def K mg "_law_holds" s__law_holds ["gate", "word"]) (B : Bl mg) (G_law_rises : Fn P w K mg base CX0 1 "_law_rises" ["gate"] (sp_law_rises K)) (G_law_sums : Fn P w K mg base CX0 1 "_law_sums" ["gate"] (sp_law_sums K)) :
    Fn P w K mg base CX0 2 "_law_holds" ["gate", "word"] (sp_law_holds K) := by
  have m_len := B.len; have m_range := B.range; have m_all := B.all
  refine D.fn fun f fd F => F.ok sc__law_holds (fun vs H Q E h => ?_) (fun cdv A outer s H vs Q E hr h => ?_)
  · obtain ⟨a, g, x, rfl, _⟩ := h
    rfl
  obtain ⟨v, g, x, rfl, ⟨a, rfl, hS⟩, hl, hx, q⟩ := h
  have h8 := okLen_le hl
  have hpos : 0 < g.length := by rcases okLen_cases hl with e | e | e <;> omega
  refine ⟨_, (pss_cons (ps_if (pt_cmpR op_eq (pv 1) pe_str (nomark _)) (pss_one (ps_ret (pe_not (pe_ix (ixL (K := K)) (pv 0) pe_int (fun _ _ => rfl))))) pss_nil)
  (pss_cons (ps_if (pt_cmpR op_eq (pv 1) pe_str (nomark _)) (pss_one (ps_ret (pe_ix (ixL (K := K)) (pv 0) (pe_un un_neg pe_int) (fun _ _ => rfl)))) pss_nil)
  (pss_cons (ps_if (pt_cmpR op_eq (pv 1) pe_str (nomark _)) (pss_one (ps_ret (pe_callB (allS (K := K) rfl) (by rfl) m_all (by decide +kernel) (pa_cons (pe_lc (own := [("row", 2)]) (g := gName 2) (tt := tYes) rfl sc__law_holds.nd (pi_range1 (by rfl) m_range (pa_cons (pe_callB (lenS (K := K)) (by rfl) m_len PySem.boot_len (pa_cons (pv 0) pa_nil)) pa_nil)) (blkOk_by (N := ["gate", "word", "row"]) (sc := defScope s__law_holds) (by decide +kernel)) (fun _ _ _ _ _ => pg_name (i := 2) sc__law_holds.nd rfl (Or.inl rfl)) (fun _ _ _ _ _ => pts_nil) (fun _ _ _ _ _ => (pe_cmpR op_ne (pe_ix (ixL (K := K)) (pv 0) (pv 2) (fun _ _ => rfl)) (pe_ix (ixL (K := K)) (pv 0) (pe_op op_sub (pe_un un_neg pe_int) (pv 2)) (fun _ _ => rfl)) (nomark _)))) pa_nil)))) pss_nil)
  (pss_cons (ps_if (pt_cmpR op_eq (pv 1) pe_str (nomark _)) (pss_one (ps_ret (pe_fn G_law_rises (hr.mono (by decide)) (by rfl) pass0 (pa_cons (pv 0) pa_nil)))) pss_nil)
  (pss_one (ps_ret (pe_fn G_law_sums (hr.mono (by decide)) (by rfl) pass0 (pa_cons (pv 0) pa_nil)))))))), ?_⟩
  refine ⟨_, rfl, rfl, _, rfl, ite2 (fun c => ?_) (fun c => ?_)⟩
  · have e : lawHolds g x = !at_ g 0 := if_pos (str_eq c)
    rw [e] at q
    exact ⟨_, rfl, a, _, _, _, rfl, rfl, hS, atI_nat (j := 0) (lb_get hpos), _, rfl, q H (Same.refl H)⟩
  have n1 := str_ne c
  refine ⟨_, rfl, rfl, _, rfl, ite2 (fun c => ?_) (fun c => ?_)⟩
  · have e : lawHolds g x = at_ g (g.length - 1) := (if_neg n1).trans (if_pos (str_eq c))
    rw [e] at q
    exact ⟨_, rfl, 1, rfl, a, _, -1, _, rfl, rfl, hS, lb_last hpos, q H (Same.refl H)⟩
  have n2 := str_ne c
  refine ⟨_, rfl, rfl, _, rfl, ite2 (fun c => ?_) (fun c => ?_)⟩
  · have e : lawHolds g x = ((List.range g.length).all fun r => at_ g r != at_ g (g.length - 1 - r)) := (if_neg n1).trans ((if_neg n2).trans (if_pos (str_eq c)))
    rw [e] at q
    refine ⟨_, rfl, a, _, rfl, .inl hS, ((LB g).length : Int), rfl, by rw [lb_len]; omega, by rw [lb_len]; omega, lc_P wk_rng (fun _ => true) (fun i => .bl (at_ g i != at_ g (g.length - 1 - i))) (by rw [lb_len]; omega) (fun _ => rfl) (fun i H1 _ _ => et_yes) (fun i H1 s1 hi _ => ?_) (fun d H1 nd s1 e1 => ?_)⟩
    · rw [lb_len] at hi
      have hL := s1.seq hS
      refine Evl.ev_is (Evl.ev_op (Evl.ev_op (Evl.ev_var rfl) (Evl.ev_var rfl) (Evl.rv_ixL hL (atI_nat (lb_get (by omega))))) (Evl.ev_op (Evl.ev_var rfl) (Evl.ev_op (Evl.ev_un Evl.ev_c Evl.ru_neg) (Evl.ev_var rfl) Evl.rv_I0) (Evl.rv_ixL hL (atI_neg (j := g.length - 1 - i) (by omega) (by rw [lb_len]; omega) (lb_get (by omega))))) (Evl.rv_ne rfl)) ?_
      show V.bl (!decide (V.bl (at_ g i) = V.bl (at_ g (g.length - 1 - i)))) = _
      cases at_ g i <;> cases at_ g (g.length - 1 - i) <;> rfl
    · rw [given_all (fun _ _ => rfl), lb_len, show ((g.length : Int)).toNat = g.length by omega, map_bl] at e1
      refine ⟨d, _, rfl, SqL.of e1, ?_⟩
      rw [all_map_id]
      exact q H1 s1
  have n3 := str_ne c
  refine ⟨_, rfl, rfl, _, rfl, ite2 (fun c => ?_) (fun c => ?_)⟩
  · have e : lawHolds g x = lawRises g := (if_neg n1).trans ((if_neg n2).trans ((if_neg n3).trans (if_pos (str_eq c))))
    rw [e] at q
    exact ⟨_, rfl, .ref a, g, rfl, ⟨a, rfl, hS⟩, hl, q⟩
  · have e : lawHolds g x = lawSums g := (if_neg n1).trans ((if_neg n2).trans ((if_neg n3).trans (if_neg (str_ne c))))
    rw [e] at q
    exact ⟨_, rfl, .ref a, g, rfl, ⟨a, rfl, hS⟩, hl, q⟩
theorem ok_law_used (D : Def K mg "_law_used" s__law_used ["formula"]) (B : Bl mg) :
    ∀ n : Nat, Fn P w K mg base CX0 (n + 1) "_law_used" ["formula"] (sp_law_used K n)
  | 0 => (D.none (fun vs H Q E h => by obtain ⟨_, _, _, _, h, _⟩ := h; exact absurd h (Nat.not_lt_zero _))).mono (Nat.zero_le _)
  | n + 1 => by
    have IH := ok_law_used D B n
    refine D.fn fun f fd F => F.ok sc__law_used (fun vs H Q E h => ?_) (fun cdv A outer s H vs Q E hr0 h => ?_)
    · obtain ⟨x, f, rfl, _⟩ := h
      rfl
    obtain ⟨x, fm, rfl, hF, hd, hz, q⟩ := h
    have hr := hr0
    refine ⟨_, (pss_cons (ps_if (pt_cmpR op_eq (pe_ix (ixT (K := K)) (pv 0) pe_int (fun _ _ => rfl)) pe_str (nomark _)) (pss_one (ps_ret (pe_lst pa_nil))) pss_nil)
  (pss_cons (ps_set (i := 1) sc__law_used.nd rfl (Or.inl rfl) (pe_lst (pa_cons (pe_ix (ixT (K := K)) (pv 0) pe_int (fun _ _ => rfl)) pa_nil)))
  (pss_cons (ps_for PassesOwn.never rfl (piT (K := K) (pe_ix (ixT (K := K)) (pv 0) pe_int (fun _ _ => rfl))) (pg_name (i := 2) sc__law_used.nd rfl (Or.inl rfl))
  (pss_one (ps_set (i := 1) sc__law_used.nd rfl (Or.inl rfl) (pe_op op_cat (pv 1) (pe_fn IH hr (by rfl) pass0 (pa_cons (pv 2) pa_nil))))))
  (pss_one (ps_ret (pv 1)))))), ?_⟩
    cases hF with
    | @inp b n' hT =>
      refine ⟨_, rfl, b, _, _, _, rfl, rfl, hT, atI_nat (j := 0) rfl, rfl, _, rfl, ?_⟩
      rw [decide_eq_true (show V.str "in" = V.str "in" from rfl)]
      exact iteT ⟨by show 0 ≤ sizeLine; decide, fun p np => q _ _ ⟨p, rfl, np, Same.new np, upd_same⟩⟩
    | @gate b p n' vs ps hT hP hps =>
      simp only [dF] at hd
      simp only [usedF, List.length_cons] at hz q
      have hlv := hps.len
      refine ⟨_, rfl, b, _, _, _, rfl, rfl, hT, atI_nat (j := 0) rfl, rfl, _, rfl, ?_⟩
      rw [decide_eq_false (show ¬ V.str "gate" = V.str "in" by decide)]
      refine iteF ⟨_, rfl, b, _, _, _, rfl, rfl, hT, atI_nat (j := 1) rfl, by show 1 ≤ sizeLine; decide, fun l nl => ?_⟩
      have s0 := Same.new (o := .lst [.int n']) nl
      refine ⟨_, rfl, b, _, _, _, rfl, rfl, s0.tup hT, atI_nat (j := 2) rfl, p, rfl, ⟨_, s0.tup hP⟩, for_tup (fun i σ H' => ∃ l x, σ = [some (.ref b), some (.ref l), x] ∧ H l = none ∧ Same H H' ∧ H' l = some (.lst (LI (n' :: usedFs (ps.take i))))) ⟨l, none, rfl, nl, s0, upd_same⟩ (fun i σ H' _ ⟨_, _, _, _, sm, _⟩ => sm.tup hP) ?_ ?_⟩
      · rintro i v σ H' hv ⟨l, x, rfl, nl, sm, el⟩
        obtain ⟨pf, hpf, hFp⟩ := hps.at hv
        have hdp := dFs_at hpf
        have hul := usedFs_at hpf
        refine ⟨_, rfl, _, rfl, v, pf, rfl, IsF.mono sm pf hFp, by omega, by omega, fun v2 H2 hN => ?_⟩
        obtain ⟨t, rfl, nt, s2, et⟩ := hN
        refine ⟨l, t, _, _, rfl, rfl, s2 _ _ el, et, ?_, fun r nr => ⟨r, _, rfl, (sm.trans s2).free nr, (sm.trans s2).trans (Same.new nr), ?_⟩⟩
        · rw [List.length_map, List.length_map, List.length_cons]
          exact sz (by omega)
        · rw [upd_same, take_snoc hpf, usedFs_app, ← List.map_append]
          simp only [usedFs, List.cons_append, List.append_nil]
      · rintro σ H' ⟨l, x, rfl, nl, sm, el⟩
        rw [hlv, List.take_length] at el
        exact ⟨_, rfl, q _ H' ⟨l, rfl, nl, sm, el⟩⟩
theorem ok_law {C C2 CG CI CF : Addr} {f : Addr} {fd : FuncData} (F : Fun K "law" "law" s_law f fd) (B : Bl mg) (G_cell0 : Fn P w K mg base CX0 1 "_law_cell_at" ["script", "k"] (sp_cell_at K)) (G_next : Fn P w K mg base CX0 1 "_law_next" ["seed"] sp_next)
    (G_law_gates : Fn P w K mg base CX0 2 "_law_gates" ["script", "most"] (sp_law_gates K 3)) (G_law_formula : Fn P w K mg base CX0 11 "_law_formula" ["seed", "deep", "gates", "many"] (sp_law_formula K 10))
    (G_law_used : Fn P w K mg base CX0 11 "_law_used" ["formula"] (sp_law_used K 10)) (G_law_holds : Fn P w K mg base CX0 2 "_law_holds" ["gate", "word"] (sp_law_holds K)) (G_is_in : Fn P w K mg base (L2.CX P w) 4 "is_in" ["gate", "word"] (sp_is_in K C C2))
    (G_table_of : Fn P w K mg base (L2.CX P w) 42 "table_of" ["gates", "formula", "many"] (sp_table_of K CG CI CF)) : FnOk P w K mg base CX0 43 f fd ["script"] (spLaw K) := by
  have m_list := B.list; have m_len := B.len; have m_isinstance := B.isinstance; have m_all := B.all
  have G_cell := cellZ G_cell0
  refine F.ok sc_law (fun vs H Q E h => ?_) (fun cdv A outer s H vs Q E hr h => ?_)
  · obtain ⟨a, ns, rfl, _⟩ := h
    rfl
  obtain ⟨a, ns, rfl, hS, h63, q⟩ := h
  refine ⟨_, (pss_cons (ps_set (i := 1) sc_law.nd rfl (Or.inr rfl) (pe_fn G_law_gates (hr.mono (by decide)) (by rfl) pass0 (pa_cons (pv 0) (pa_cons pe_int pa_nil))))
  (pss_cons (ps_set (i := 2) sc_law.nd rfl (Or.inl rfl) (pe_op op_add pe_int (pe_op op_mod (pe_fn G_cell (hr.mono (by decide)) (by rfl) pass0 (pa_cons (pv 0) (pa_cons pe_int pa_nil))) pe_int)))
  (pss_cons (ps_set (i := 3) sc_law.nd rfl (Or.inl rfl) (pe_fn G_law_formula (hr.mono (by decide)) (by rfl) pass0 (pa_cons (pe_fn G_next (hr.mono (by decide)) (by rfl) pass0 (pa_cons (pe_fn G_cell (hr.mono (by decide)) (by rfl) pass0 (pa_cons (pv 0) (pa_cons pe_int pa_nil))) pa_nil)) (pa_cons pe_int (pa_cons (pv 1) (pa_cons (pv 2) pa_nil))))))
  (pss_cons (ps_set (i := 4) sc_law.nd rfl (Or.inl rfl) (pe_fn G_table_of (hr.mono (by decide)) (by rfl) passL (pa_cons (pe_lc (own := [("gate", 7)]) (g := gName 7) (tt := tYes) rfl sc_law.nd (piL (K := K) (pv 1)) (blkOk_by (N := ["script", "gates", "many", "formula", "table", "used", "word", "gate", "number"]) (sc := defScope s_law) (by decide +kernel)) (fun _ _ _ _ _ => pg_name (i := 7) sc_law.nd rfl (Or.inl rfl)) (fun _ _ _ _ _ => pts_nil) (fun _ _ _ _ _ => (pe_callTy (listOf (K := K)) (by rfl) m_list (by decide +kernel) (pa_cons (pv 7) pa_nil)))) (pa_cons (pv 3) (pa_cons (pv 2) pa_nil)))))
  (pss_cons (ps_if (PW.pt (pw_or (pt_not (pt_val (pe_callB (isiS (K := K)) (by rfl) m_isinstance (by decide +kernel) (pa_cons (pv 4) (pa_cons (pe_bltn (v := .ty "list") (by rfl) m_list (by decide +kernel) rfl) pa_nil))))) (pw_or1 (pt_cmpR op_ne (pe_callB (lenS (K := K)) (by rfl) m_len PySem.boot_len (pa_cons (pv 4) pa_nil)) (pe_ix (ixL (K := K)) (pe_lst (pa_cons pe_int (pa_cons pe_int (pa_cons pe_int pa_nil)))) (pe_op op_sub (pv 2) pe_int) (fun _ _ => rfl)) (nomark _))))) (pss_one (ps_ret pe_bl)) pss_nil)
  (pss_cons (ps_set (i := 5) sc_law.nd rfl (Or.inl rfl) (pe_fn G_law_used (hr.mono (by decide)) (by rfl) pass0 (pa_cons (pv 3) pa_nil)))
  (pss_cons (ps_for PassesOwn.never rfl (piL (K := K) (pe_lst (pa_cons pe_str (pa_cons pe_str (pa_cons pe_str (pa_cons pe_str (pa_cons pe_str pa_nil))))))) (pg_name (i := 6) sc_law.nd rfl (Or.inr rfl))
  (pss_one (ps_if (pt_val (pe_callB (allS (K := K) rfl) (by rfl) m_all (by decide +kernel) (pa_cons (pe_lc (own := [("number", 8)]) (g := gName 8) (tt := tYes) rfl sc_law.nd (piL (K := K) (pv 5)) (blkOk_by (N := ["script", "gates", "many", "formula", "table", "used", "word", "gate", "number"]) (sc := defScope s_law) (by decide +kernel)) (fun _ _ _ _ _ => pg_name (i := 8) sc_law.nd rfl (Or.inl rfl)) (fun _ _ _ _ _ => pts_nil) (fun _ _ _ _ _ => (pe_fn G_law_holds (hr.mono (by decide)) (by rfl) pass0 (pa_cons (pe_ix (ixL (K := K)) (pv 1) (pv 8) (fun _ _ => rfl)) (pa_cons (pv 6) pa_nil))))) pa_nil))) (pss_one (ps_if (PW.pt (pw_or (pt_not (pt_val (pe_fn G_law_holds (hr.mono (by decide)) (by rfl) pass0 (pa_cons (pv 4) (pa_cons (pv 6) pa_nil))))) (pw_or1 (pt_cmpR op_notBl (pe_fn G_is_in (hr.mono (by decide)) (by rfl) passL (pa_cons (pe_callTy (listOf (K := K)) (by rfl) m_list (by decide +kernel) (pa_cons (pv 4) pa_nil)) (pa_cons (pv 6) pa_nil))) pe_bl (nomark _))))) (pss_one (ps_ret pe_bl)) pss_nil)) pss_nil)))
  (pss_one (ps_ret pe_bl))))))))), ?_⟩
  refine ⟨_, rfl, a, ns, rfl, hS, by decide, by decide, fun v H1 gs hok hw hN => ?_⟩
  have hBs := hN.isBs
  obtain ⟨p, us, rfl, np, s1, ep, pr⟩ := hN
  have hul : us.length = gs.length := Paired.len pr
  obtain ⟨hg1, hg5⟩ := okGs_len hok
  have prB : Paired (IsB K H1) us gs := Paired.imp (fun _ _ ⟨a, e, _, h⟩ => ⟨a, e, SqL.of h⟩) pr
  refine ⟨_, rfl, a, ns, 7, rfl, by decide, s1.seq hS, fun z => ⟨_, _, rfl, rfl, (by show (0 : Int) < 3; decide), _, _, rfl, rfl, ?_⟩⟩
  obtain ⟨m, hm, hm1, hm3⟩ := many_of z
  refine ⟨_, rfl, a, ns, 8, rfl, by decide, s1.seq hS, fun z2 => ⟨z2, rfl, fun n h0 _ => ⟨_, rfl, _, rfl, n, 3, .ref p, 1 + z % 3, gs, rfl, h0, by decide, hBs, hok, by omega, by omega, fun v H2 fm s2 hF hfo hfd => ?_⟩⟩⟩
  have hp8 := pow_le hm3
  have etn : (1 + z % 3).toNat = m := by omega
  have hfo' : okF gs (m : Int) fm = true := by rw [← hm]; exact hfo
  have hTl : okLen (tableF gs m fm).length = true := by rw [tableF_len]; exact (okLen_pow hm1 hm3).1
  refine ⟨_, rfl, p, rfl, ⟨_, SqL.of (s2 _ _ ep)⟩, copy_gs (SqL.of (s2 _ _ ep)) (Paired.imp (fun _ _ h => IsB.mono s2 h) prB) (by omega) (fun _ => rfl) (fun _ => rfl) (fun hd H3 hN3 => ?_)⟩
  have hH3 := hN3.isBs
  obtain ⟨_, us3, e3, nh3, s3, eh3, pr3⟩ := hN3
  cases e3
  refine ⟨_, rfl, _, rfl, .ref hd, v, 1 + z % 3, gs, fm, rfl, hH3, okGs_small hok, hF.mono s3, by omega, fun _ _ _ _ v4 H4 hN4 => ?_, fun e => absurd (hok.symm.trans e) (by decide), fun _ e => absurd ⟨by omega, by omega⟩ e, fun _ _ _ e => absurd (hfo.symm.trans e) (by decide)⟩
  rw [etn] at hN4
  obtain ⟨t, rfl, nt, s4, et⟩ := hN4
  refine ⟨_, rfl, _, _, _, _, true, rfl, .ty _, .base (.lst et), kLL, _, rfl, ?_⟩
  refine iteF ⟨_, rfl, t, _, rfl, .inl (SqL.of et), by show 3 ≤ sizeLine; decide, fun pw nw => ⟨_, rfl, _, _, rfl, rfl, pw, _, (1 + z % 3) - 1, .int ((2 ^ m : Nat) : Int), rfl, rfl, SqL.of upd_same, (by rw [hm]; exact pow_at hm1 hm3), rfl, _, rfl, ?_⟩⟩
  rw [lb_len, tableF_len, decide_eq_true rfl]
  have s5 := Same.new (o := .lst [.int 2, .int 4, .int 8]) nw
  have et5 := s5 _ _ et
  have hF5 := hF.mono (s3.trans (s4.trans s5))
  have hz := used_len fm 3 hfo (by omega)
  refine iteF ⟨_, rfl, v, fm, rfl, hF5, by omega, Nat.le_trans hz (by decide), fun v6 H6 hN6 => ?_⟩
  obtain ⟨ul, rfl, nul, s6, eul⟩ := hN6
  have et6 := s6 _ _ et5
  have s16 : Same H1 H6 := s2.trans (s3.trans (s4.trans (s5.trans s6)))
  refine ⟨by show 5 ≤ sizeLine; decide, fun wl nw => ⟨wl, rfl, ⟨_, SqL.of upd_same⟩, ?_⟩⟩
  have eW : (upd H6 wl (.lst [.str "nought", .str "one", .str "turn", .str "rise", .str "sum"])) wl = some (.lst [.str "nought", .str "one", .str "turn", .str "rise", .str "sum"]) := upd_same
  have s7 : Same H6 (upd H6 wl (.lst [.str "nought", .str "one", .str "turn", .str "rise", .str "sum"])) := Same.new nw
  have et7 := s7 _ _ et6
  have eul7 := s7 _ _ eul
  have s17 := s16.trans s7
  revert eW s7 et7 eul7 s17
  generalize (upd H6 wl (.lst [.str "nought", .str "one", .str "turn", .str "rise", .str "sum"])) = H7
  intro eW s7 et7 eul7 s17
  refine for_list (K := K) (a := wl) (xs := [.str "nought", .str "one", .str "turn", .str "rise", .str "sum"]) (fun i σ H' => ∃ x6, σ = [some (.ref a), some (.ref p), some (.int (1 + z % 3)), some v, some (.ref t), some (.ref ul), x6, none, none] ∧ Same H7 H')
    ⟨none, rfl, Same.refl _⟩ (fun _ _ _ _ ⟨_, _, sm⟩ => SqL.of (sm _ _ eW)) ?_ (fun _ H' _ => q H')
  rintro i u σ H' hu ⟨x6, rfl, sm⟩
  obtain ⟨x, hx, rfl⟩ := words_get hu
  have hxm : x ∈ words := List.mem_of_getElem? hx
  have sP := s17.trans sm
  refine ⟨_, rfl, ul, rfl, ⟨_, SqL.of (sm _ _ eul7)⟩, lc_P (wk_list (SqL.of (sm _ _ eul7))) (fun _ => true) (fun i => .bl (lawHolds (gs.getD ((usedF fm).getD i 0).toNat []) x)) (by rw [List.length_map]; exact Nat.le_trans hz (by decide)) (fun _ => rfl) (fun _ _ _ _ => et_yes) (fun k H8 s8 hk _ => ?_) (fun d H8 nd s8 e8 => ?_)⟩
  · rw [List.length_map] at hk
    have hn : (usedF fm)[k]? = some ((usedF fm).getD k 0) := by rw [List.getD_eq_getElem?_getD, List.getElem?_eq_getElem hk]; rfl
    have hit : itOf (LI (usedF fm)) k = .int ((usedF fm).getD k 0) := by
      have a := itOf_at (xs := LI (usedF fm)) (i := k) (by rw [List.length_map]; exact hk)
      rw [List.getElem?_map, hn] at a
      exact (Option.some.inj a).symm
    rw [hit]
    obtain ⟨n0, n1⟩ := used_in fm hfo _ (List.mem_of_getElem? hn)
    have hgl := gate_at n0 n1
    obtain ⟨u, hu, hB⟩ := Paired.at' prB hgl
    have sx := sP.trans s8
    exact fun H9 s9 Q q => ⟨_, rfl, _, rfl, p, _, _, u, rfl, rfl, (sx.trans s9).seq (SqL.of ep), at_of (j := ((usedF fm).getD k 0).toNat) (by omega) hu, _, rfl, u, _, x, rfl, hB.mono (sx.trans s9), okGs_at hok hgl, hxm, q⟩
  rw [given_all (fun _ _ => rfl), map_bl] at e8
  have et8 := s8 _ _ (sm _ _ et7)
  refine ⟨d, _, rfl, SqL.of e8, _, rfl, ite2 (fun c => ?_) (fun c => ⟨_, rfl, sm.trans s8⟩)⟩
  have hall : ∀ n ∈ usedF fm, lawHolds (gs.getD n.toNat []) x = true := by
    intro n hn
    obtain ⟨k, hk⟩ := List.mem_iff_getElem?.mp hn
    have hk' := (List.getElem?_eq_some_iff.mp hk).1
    rw [all_map_id] at c
    have := List.all_eq_true.mp c k (List.mem_range.mpr (by rw [List.length_map]; exact hk'))
    have hgd : (usedF fm).getD k 0 = n := by rw [List.getD_eq_getElem?_getD, hk]; rfl
    rw [hgd] at this
    exact this
  have hT := kept hok hm1 hm3 hfo' hxm hall fun n hn => by
    obtain ⟨n0, n1⟩ := used_in fm hfo n hn
    exact okGs_at hok (gate_at n0 n1)
  refine ⟨_, rfl, _, rfl, .ref t, tableF gs m fm, x, rfl, ⟨t, rfl, SqL.of et8⟩, hTl, hxm, fun H9 s9 => ⟨_, rfl, ?_⟩⟩
  rw [hT]
  have et9 := s9 _ _ et8
  refine iteF ⟨_, rfl, t, _, rfl, .inl (SqL.of et9), fun l nl => ⟨_, rfl, .ref l, tableF gs m fm, x, rfl, ⟨l, rfl, SqL.of upd_same⟩, fun _ => ⟨fun _ H10 s10 => ⟨_, _, rfl, rfl, _, rfl, ?_⟩, fun z => absurd hxm z⟩, fun e => absurd (hTl.symm.trans e) (by decide)⟩⟩
  rw [← holds_in hTl x hxm, hT]
  exact iteF ⟨_, rfl, ((sm.trans s8).trans s9).trans ((Same.new nl).trans s10)⟩
end
end GW
namespace GW
open PySem PySem.Spec PyProof.Rows L2
theorem all_mk {l : PySem.W.OpenLaw} {w : World} {K : PySem.W.Frag} {h : Heap} {mg : Str → Option Value} {fa : Addr} (X : K.In h) (G : h.Ns mainGlobals mg) (hfa : mg "law" = some (.ref fa))
    {C0 : Addr}
    {C1 : Addr}
    {C2 : Addr}
    {C3 : Addr}
    {C4 : Addr}
    {a_CLASSES : Addr} {o_CLASSES : Option Addr} {n_CLASSES : Nat} {l_CLASSES : Array (Option Value)} {t_CLASSES0 t_CLASSES1 t_CLASSES2 t_CLASSES3 t_CLASSES4 : Tok}
    {a_BITS : Addr} {o_BITS : Option Addr} {n_BITS : Nat} {l_BITS : Array (Option Value)} {t_BITS0 t_BITS1 t_BITS2 : Tok}
    {f0 : Addr} {od0 an0 : Option Addr} {sl0 : Array (Option Value)} {oc0 kV0 dc0 pm0 cd0 ct0 : Value}
    {f1 : Addr} {od1 an1 : Option Addr} {sl1 : Array (Option Value)} {oc1 kV1 dc1 pm1 cd1 ct1 : Value}
    {f2 : Addr} {od2 an2 : Option Addr} {sl2 : Array (Option Value)} {oc2 kV2 dc2 pm2 cd2 ct2 : Value}
    {f3 : Addr} {od3 an3 : Option Addr} {sl3 : Array (Option Value)} {oc3 kV3 dc3 pm3 cd3 ct3 : Value}
    {f4 : Addr} {od4 an4 : Option Addr} {sl4 : Array (Option Value)} {oc4 kV4 dc4 pm4 cd4 ct4 : Value}
    {f5 : Addr} {od5 an5 : Option Addr} {sl5 : Array (Option Value)} {oc5 kV5 dc5 pm5 cd5 ct5 : Value}
    {f6 : Addr} {od6 an6 : Option Addr} {sl6 : Array (Option Value)} {oc6 kV6 dc6 pm6 cd6 ct6 : Value}
    {f7 : Addr} {od7 an7 : Option Addr} {sl7 : Array (Option Value)} {oc7 kV7 dc7 pm7 cd7 ct7 : Value}
    {f8 : Addr} {od8 an8 : Option Addr} {sl8 : Array (Option Value)} {oc8 kV8 dc8 pm8 cd8 ct8 : Value}
    {f9 : Addr} {od9 an9 : Option Addr} {sl9 : Array (Option Value)} {oc9 kV9 dc9 pm9 cd9 ct9 : Value}
    {f10 : Addr} {od10 an10 : Option Addr} {sl10 : Array (Option Value)} {oc10 kV10 dc10 pm10 cd10 ct10 : Value}
    {f11 : Addr} {od11 an11 : Option Addr} {sl11 : Array (Option Value)} {oc11 kV11 dc11 pm11 cd11 ct11 : Value}
    {f12 : Addr} {od12 an12 : Option Addr} {sl12 : Array (Option Value)} {oc12 kV12 dc12 pm12 cd12 ct12 : Value}
    {f13 : Addr} {od13 an13 : Option Addr} {sl13 : Array (Option Value)} {oc13 kV13 dc13 pm13 cd13 ct13 : Value}
    {f14 : Addr} {od14 an14 : Option Addr} {sl14 : Array (Option Value)} {oc14 kV14 dc14 pm14 cd14 ct14 : Value}
    {f15 : Addr} {od15 an15 : Option Addr} {sl15 : Array (Option Value)} {oc15 kV15 dc15 pm15 cd15 ct15 : Value}
    {f16 : Addr} {od16 an16 : Option Addr} {sl16 : Array (Option Value)} {oc16 kV16 dc16 pm16 cd16 ct16 : Value}
    {f17 : Addr} {od17 an17 : Option Addr} {sl17 : Array (Option Value)} {oc17 kV17 dc17 pm17 cd17 ct17 : Value}
    {f18 : Addr} {od18 an18 : Option Addr} {sl18 : Array (Option Value)} {oc18 kV18 dc18 pm18 cd18 ct18 : Value}
    {f19 : Addr} {od19 an19 : Option Addr} {sl19 : Array (Option Value)} {oc19 kV19 dc19 pm19 cd19 ct19 : Value}
    {f20 : Addr} {od20 an20 : Option Addr} {sl20 : Array (Option Value)} {oc20 kV20 dc20 pm20 cd20 ct20 : Value}
    {f21 : Addr} {od21 an21 : Option Addr} {sl21 : Array (Option Value)} {oc21 kV21 dc21 pm21 cd21 ct21 : Value}
    {f22 : Addr} {od22 an22 : Option Addr} {sl22 : Array (Option Value)} {oc22 kV22 dc22 pm22 cd22 ct22 : Value}
    {f23 : Addr} {od23 an23 : Option Addr} {sl23 : Array (Option Value)} {oc23 kV23 dc23 pm23 cd23 ct23 : Value}
    {f24 : Addr} {od24 an24 : Option Addr} {sl24 : Array (Option Value)} {oc24 kV24 dc24 pm24 cd24 ct24 : Value}
    (Cg0 : PySem.W.nsIn K mainGlobals "GateError" = some (some (.ref C0)))
    (Ck0 : PySem.W.keepIn K (.ref C0) = true)
    (Cb0 : PySem.W.subIn K (.ref C0) (.type "BaseException") = some true)
    (Ct0 : PySem.W.typeIn K (.ref C0) = some (.type "type"))
    (Cg1 : PySem.W.nsIn K mainGlobals "NoGate" = some (some (.ref C1)))
    (Cx1 : PySem.W.excIn K C1 [.type "ValueError", .type "Exception", .type "BaseException", .type "object"] "ValueError.__new__" = true)
    (Ck1 : PySem.W.keepIn K (.ref C1) = true)
    (Cb1 : PySem.W.subIn K (.ref C1) (.type "BaseException") = some true)
    (Ct1 : PySem.W.typeIn K (.ref C1) = some (.type "type"))
    (Cg2 : PySem.W.nsIn K mainGlobals "NoClass" = some (some (.ref C2)))
    (Cx2 : PySem.W.excIn K C2 [.type "ValueError", .type "Exception", .type "BaseException", .type "object"] "ValueError.__new__" = true)
    (Ck2 : PySem.W.keepIn K (.ref C2) = true)
    (Cb2 : PySem.W.subIn K (.ref C2) (.type "BaseException") = some true)
    (Ct2 : PySem.W.typeIn K (.ref C2) = some (.type "type"))
    (Cg3 : PySem.W.nsIn K mainGlobals "NoInputs" = some (some (.ref C3)))
    (Cx3 : PySem.W.excIn K C3 [.type "ValueError", .type "Exception", .type "BaseException", .type "object"] "ValueError.__new__" = true)
    (Ck3 : PySem.W.keepIn K (.ref C3) = true)
    (Cb3 : PySem.W.subIn K (.ref C3) (.type "BaseException") = some true)
    (Ct3 : PySem.W.typeIn K (.ref C3) = some (.type "type"))
    (Cg4 : PySem.W.nsIn K mainGlobals "NoFormula" = some (some (.ref C4)))
    (Cx4 : PySem.W.excIn K C4 [.type "ValueError", .type "Exception", .type "BaseException", .type "object"] "ValueError.__new__" = true)
    (Ck4 : PySem.W.keepIn K (.ref C4) = true)
    (Cb4 : PySem.W.subIn K (.ref C4) (.type "BaseException") = some true)
    (Ct4 : PySem.W.typeIn K (.ref C4) = some (.type "type"))
    (vg_CLASSES : PySem.W.nsIn K mainGlobals "CLASSES" = some (some (.ref a_CLASSES)))
    (vl_CLASSES : K.lookup a_CLASSES = some ⟨.type "tuple", o_CLASSES, .seq #[.str "nought" t_CLASSES0, .str "one" t_CLASSES1, .str "turn" t_CLASSES2, .str "rise" t_CLASSES3, .str "sum" t_CLASSES4] n_CLASSES, l_CLASSES⟩)
    (vg_BITS : PySem.W.nsIn K mainGlobals "BITS" = some (some (.ref a_BITS)))
    (vl_BITS : K.lookup a_BITS = some ⟨.type "tuple", o_BITS, .seq #[.int 1 t_BITS0, .int 2 t_BITS1, .int 4 t_BITS2] n_BITS, l_BITS⟩)
    (z_len : PySem.W.nsIn K mainGlobals "len" = some none)
    (z_sum : PySem.W.nsIn K mainGlobals "sum" = some none)
    (z_range : PySem.W.nsIn K mainGlobals "range" = some none)
    (z_list : PySem.W.nsIn K mainGlobals "list" = some none)
    (z_tuple : PySem.W.nsIn K mainGlobals "tuple" = some none)
    (z_isinstance : PySem.W.nsIn K mainGlobals "isinstance" = some none)
    (z_bool : PySem.W.nsIn K mainGlobals "bool" = some none)
    (z_int : PySem.W.nsIn K mainGlobals "int" = some none)
    (z_str : PySem.W.nsIn K mainGlobals "str" = some none)
    (z_all : PySem.W.nsIn K mainGlobals "all" = some none)
    (z_any : PySem.W.nsIn K mainGlobals "any" = some none)
    (z_reversed : PySem.W.nsIn K mainGlobals "reversed" = some none)
    (z_sorted : PySem.W.nsIn K mainGlobals "sorted" = some none)
    (z_min : PySem.W.nsIn K mainGlobals "min" = some none)
    (z_max : PySem.W.nsIn K mainGlobals "max" = some none)
    (z_dict : PySem.W.nsIn K mainGlobals "dict" = some none)
    (a0 : PySem.W.nsIn K mainGlobals "ask_gate" = some (some (.ref f0)))
    (l0 : K.lookup f0 = some ⟨oc0, od0, .func (PySem.W.fnOf "ask_gate" "ask_gate" (defArgs s_ask_gate) (defBody s_ask_gate) (defScope s_ask_gate) .none kV0 dc0 pm0 an0 cd0 ct0), sl0⟩)
    (c0 : PySem.W.codeIn K cd0 "ask_gate" = true)
    (k0 : PySem.W.keepIn K (.ref f0) = true)
    (a1 : PySem.W.nsIn K mainGlobals "ask_gates" = some (some (.ref f1)))
    (l1 : K.lookup f1 = some ⟨oc1, od1, .func (PySem.W.fnOf "ask_gates" "ask_gates" (defArgs s_ask_gates) (defBody s_ask_gates) (defScope s_ask_gates) .none kV1 dc1 pm1 an1 cd1 ct1), sl1⟩)
    (c1 : PySem.W.codeIn K cd1 "ask_gates" = true)
    (k1 : PySem.W.keepIn K (.ref f1) = true)
    (a2 : PySem.W.nsIn K mainGlobals "wide" = some (some (.ref f2)))
    (l2 : K.lookup f2 = some ⟨oc2, od2, .func (PySem.W.fnOf "wide" "wide" (defArgs s_wide) (defBody s_wide) (defScope s_wide) .none kV2 dc2 pm2 an2 cd2 ct2), sl2⟩)
    (c2 : PySem.W.codeIn K cd2 "wide" = true)
    (k2 : PySem.W.keepIn K (.ref f2) = true)
    (a3 : PySem.W.nsIn K mainGlobals "row_of" = some (some (.ref f3)))
    (l3 : K.lookup f3 = some ⟨oc3, od3, .func (PySem.W.fnOf "row_of" "row_of" (defArgs s_row_of) (defBody s_row_of) (defScope s_row_of) .none kV3 dc3 pm3 an3 cd3 ct3), sl3⟩)
    (c3 : PySem.W.codeIn K cd3 "row_of" = true)
    (k3 : PySem.W.keepIn K (.ref f3) = true)
    (a4 : PySem.W.nsIn K mainGlobals "turn_witness" = some (some (.ref f4)))
    (l4 : K.lookup f4 = some ⟨oc4, od4, .func (PySem.W.fnOf "turn_witness" "turn_witness" (defArgs s_turn_witness) (defBody s_turn_witness) (defScope s_turn_witness) .none kV4 dc4 pm4 an4 cd4 ct4), sl4⟩)
    (c4 : PySem.W.codeIn K cd4 "turn_witness" = true)
    (k4 : PySem.W.keepIn K (.ref f4) = true)
    (a5 : PySem.W.nsIn K mainGlobals "rise_witness" = some (some (.ref f5)))
    (l5 : K.lookup f5 = some ⟨oc5, od5, .func (PySem.W.fnOf "rise_witness" "rise_witness" (defArgs s_rise_witness) (defBody s_rise_witness) (defScope s_rise_witness) .none kV5 dc5 pm5 an5 cd5 ct5), sl5⟩)
    (c5 : PySem.W.codeIn K cd5 "rise_witness" = true)
    (k5 : PySem.W.keepIn K (.ref f5) = true)
    (a6 : PySem.W.nsIn K mainGlobals "sum_witness" = some (some (.ref f6)))
    (l6 : K.lookup f6 = some ⟨oc6, od6, .func (PySem.W.fnOf "sum_witness" "sum_witness" (defArgs s_sum_witness) (defBody s_sum_witness) (defScope s_sum_witness) .none kV6 dc6 pm6 an6 cd6 ct6), sl6⟩)
    (c6 : PySem.W.codeIn K cd6 "sum_witness" = true)
    (k6 : PySem.W.keepIn K (.ref f6) = true)
    (a7 : PySem.W.nsIn K mainGlobals "witness" = some (some (.ref f7)))
    (l7 : K.lookup f7 = some ⟨oc7, od7, .func (PySem.W.fnOf "witness" "witness" (defArgs s_witness) (defBody s_witness) (defScope s_witness) .none kV7 dc7 pm7 an7 cd7 ct7), sl7⟩)
    (c7 : PySem.W.codeIn K cd7 "witness" = true)
    (k7 : PySem.W.keepIn K (.ref f7) = true)
    (a8 : PySem.W.nsIn K mainGlobals "is_in" = some (some (.ref f8)))
    (l8 : K.lookup f8 = some ⟨oc8, od8, .func (PySem.W.fnOf "is_in" "is_in" (defArgs s_is_in) (defBody s_is_in) (defScope s_is_in) .none kV8 dc8 pm8 an8 cd8 ct8), sl8⟩)
    (c8 : PySem.W.codeIn K cd8 "is_in" = true)
    (k8 : PySem.W.keepIn K (.ref f8) = true)
    (a9 : PySem.W.nsIn K mainGlobals "ask_inputs" = some (some (.ref f9)))
    (l9 : K.lookup f9 = some ⟨oc9, od9, .func (PySem.W.fnOf "ask_inputs" "ask_inputs" (defArgs s_ask_inputs) (defBody s_ask_inputs) (defScope s_ask_inputs) .none kV9 dc9 pm9 an9 cd9 ct9), sl9⟩)
    (c9 : PySem.W.codeIn K cd9 "ask_inputs" = true)
    (k9 : PySem.W.keepIn K (.ref f9) = true)
    (a10 : PySem.W.nsIn K mainGlobals "ask_formula" = some (some (.ref f10)))
    (l10 : K.lookup f10 = some ⟨oc10, od10, .func (PySem.W.fnOf "ask_formula" "ask_formula" (defArgs s_ask_formula) (defBody s_ask_formula) (defScope s_ask_formula) .none kV10 dc10 pm10 an10 cd10 ct10), sl10⟩)
    (c10 : PySem.W.codeIn K cd10 "ask_formula" = true)
    (k10 : PySem.W.keepIn K (.ref f10) = true)
    (a11 : PySem.W.nsIn K mainGlobals "worth" = some (some (.ref f11)))
    (l11 : K.lookup f11 = some ⟨oc11, od11, .func (PySem.W.fnOf "worth" "worth" (defArgs s_worth) (defBody s_worth) (defScope s_worth) .none kV11 dc11 pm11 an11 cd11 ct11), sl11⟩)
    (c11 : PySem.W.codeIn K cd11 "worth" = true)
    (k11 : PySem.W.keepIn K (.ref f11) = true)
    (a12 : PySem.W.nsIn K mainGlobals "rows_of" = some (some (.ref f12)))
    (l12 : K.lookup f12 = some ⟨oc12, od12, .func (PySem.W.fnOf "rows_of" "rows_of" (defArgs s_rows_of) (defBody s_rows_of) (defScope s_rows_of) .none kV12 dc12 pm12 an12 cd12 ct12), sl12⟩)
    (c12 : PySem.W.codeIn K cd12 "rows_of" = true)
    (k12 : PySem.W.keepIn K (.ref f12) = true)
    (a13 : PySem.W.nsIn K mainGlobals "table_of" = some (some (.ref f13)))
    (l13 : K.lookup f13 = some ⟨oc13, od13, .func (PySem.W.fnOf "table_of" "table_of" (defArgs s_table_of) (defBody s_table_of) (defScope s_table_of) .none kV13 dc13 pm13 an13 cd13 ct13), sl13⟩)
    (c13 : PySem.W.codeIn K cd13 "table_of" = true)
    (k13 : PySem.W.keepIn K (.ref f13) = true)
    (a14 : PySem.W.nsIn K mainGlobals "_law_cell_at" = some (some (.ref f14)))
    (l14 : K.lookup f14 = some ⟨oc14, od14, .func (PySem.W.fnOf "_law_cell_at" "_law_cell_at" (defArgs s__law_cell_at) (defBody s__law_cell_at) (defScope s__law_cell_at) .none kV14 dc14 pm14 an14 cd14 ct14), sl14⟩)
    (c14 : PySem.W.codeIn K cd14 "_law_cell_at" = true)
    (k14 : PySem.W.keepIn K (.ref f14) = true)
    (a15 : PySem.W.nsIn K mainGlobals "_law_next" = some (some (.ref f15)))
    (l15 : K.lookup f15 = some ⟨oc15, od15, .func (PySem.W.fnOf "_law_next" "_law_next" (defArgs s__law_next) (defBody s__law_next) (defScope s__law_next) .none kV15 dc15 pm15 an15 cd15 ct15), sl15⟩)
    (c15 : PySem.W.codeIn K cd15 "_law_next" = true)
    (k15 : PySem.W.keepIn K (.ref f15) = true)
    (a16 : PySem.W.nsIn K mainGlobals "_law_gate" = some (some (.ref f16)))
    (l16 : K.lookup f16 = some ⟨oc16, od16, .func (PySem.W.fnOf "_law_gate" "_law_gate" (defArgs s__law_gate) (defBody s__law_gate) (defScope s__law_gate) .none kV16 dc16 pm16 an16 cd16 ct16), sl16⟩)
    (c16 : PySem.W.codeIn K cd16 "_law_gate" = true)
    (k16 : PySem.W.keepIn K (.ref f16) = true)
    (a17 : PySem.W.nsIn K mainGlobals "_law_gates" = some (some (.ref f17)))
    (l17 : K.lookup f17 = some ⟨oc17, od17, .func (PySem.W.fnOf "_law_gates" "_law_gates" (defArgs s__law_gates) (defBody s__law_gates) (defScope s__law_gates) .none kV17 dc17 pm17 an17 cd17 ct17), sl17⟩)
    (c17 : PySem.W.codeIn K cd17 "_law_gates" = true)
    (k17 : PySem.W.keepIn K (.ref f17) = true)
    (a18 : PySem.W.nsIn K mainGlobals "_law_wide" = some (some (.ref f18)))
    (l18 : K.lookup f18 = some ⟨oc18, od18, .func (PySem.W.fnOf "_law_wide" "_law_wide" (defArgs s__law_wide) (defBody s__law_wide) (defScope s__law_wide) .none kV18 dc18 pm18 an18 cd18 ct18), sl18⟩)
    (c18 : PySem.W.codeIn K cd18 "_law_wide" = true)
    (k18 : PySem.W.keepIn K (.ref f18) = true)
    (a19 : PySem.W.nsIn K mainGlobals "_law_formula" = some (some (.ref f19)))
    (l19 : K.lookup f19 = some ⟨oc19, od19, .func (PySem.W.fnOf "_law_formula" "_law_formula" (defArgs s__law_formula) (defBody s__law_formula) (defScope s__law_formula) .none kV19 dc19 pm19 an19 cd19 ct19), sl19⟩)
    (c19 : PySem.W.codeIn K cd19 "_law_formula" = true)
    (k19 : PySem.W.keepIn K (.ref f19) = true)
    (a20 : PySem.W.nsIn K mainGlobals "_law_sums" = some (some (.ref f20)))
    (l20 : K.lookup f20 = some ⟨oc20, od20, .func (PySem.W.fnOf "_law_sums" "_law_sums" (defArgs s__law_sums) (defBody s__law_sums) (defScope s__law_sums) .none kV20 dc20 pm20 an20 cd20 ct20), sl20⟩)
    (c20 : PySem.W.codeIn K cd20 "_law_sums" = true)
    (k20 : PySem.W.keepIn K (.ref f20) = true)
    (a21 : PySem.W.nsIn K mainGlobals "_law_rises" = some (some (.ref f21)))
    (l21 : K.lookup f21 = some ⟨oc21, od21, .func (PySem.W.fnOf "_law_rises" "_law_rises" (defArgs s__law_rises) (defBody s__law_rises) (defScope s__law_rises) .none kV21 dc21 pm21 an21 cd21 ct21), sl21⟩)
    (c21 : PySem.W.codeIn K cd21 "_law_rises" = true)
    (k21 : PySem.W.keepIn K (.ref f21) = true)
    (a22 : PySem.W.nsIn K mainGlobals "_law_holds" = some (some (.ref f22)))
    (l22 : K.lookup f22 = some ⟨oc22, od22, .func (PySem.W.fnOf "_law_holds" "_law_holds" (defArgs s__law_holds) (defBody s__law_holds) (defScope s__law_holds) .none kV22 dc22 pm22 an22 cd22 ct22), sl22⟩)
    (c22 : PySem.W.codeIn K cd22 "_law_holds" = true)
    (k22 : PySem.W.keepIn K (.ref f22) = true)
    (a23 : PySem.W.nsIn K mainGlobals "_law_used" = some (some (.ref f23)))
    (l23 : K.lookup f23 = some ⟨oc23, od23, .func (PySem.W.fnOf "_law_used" "_law_used" (defArgs s__law_used) (defBody s__law_used) (defScope s__law_used) .none kV23 dc23 pm23 an23 cd23 ct23), sl23⟩)
    (c23 : PySem.W.codeIn K cd23 "_law_used" = true)
    (k23 : PySem.W.keepIn K (.ref f23) = true)
    (a24 : PySem.W.nsIn K mainGlobals "law" = some (some (.ref f24)))
    (l24 : K.lookup f24 = some ⟨oc24, od24, .func (PySem.W.fnOf "law" "law" (defArgs s_law) (defBody s_law) (defScope s_law) .none kV24 dc24 pm24 an24 cd24 ct24), sl24⟩)
    (c24 : PySem.W.codeIn K cd24 "law" = true)
    (k24 : PySem.W.keepIn K (.ref f24) = true) :
    ∃ fd : FuncData, (∀ (s : Shared) (v : Value), BindsTo s fd ⟨[v], []⟩ [("script", v)]) ∧ ∀ base : Heap, K.In base → base.Ns mainGlobals mg → FnOk l.prog w K mg base CX0 43 fa fd ["script"] (spLaw K) := by
  have e := hfa.symm.trans (PySem.W.mg_of X G a24)
  cases e
  have E_NoGate : ErrC K mg "NoGate" C1 := ⟨PySem.W.mg_of X G Cg1, Cx1, Ck1, Cb1, Ct1⟩
  have E_NoClass : ErrC K mg "NoClass" C2 := ⟨PySem.W.mg_of X G Cg2, Cx2, Ck2, Cb2, Ct2⟩
  have E_NoInputs : ErrC K mg "NoInputs" C3 := ⟨PySem.W.mg_of X G Cg3, Cx3, Ck3, Cb3, Ct3⟩
  have E_NoFormula : ErrC K mg "NoFormula" C4 := ⟨PySem.W.mg_of X G Cg4, Cx4, Ck4, Cb4, Ct4⟩
  have S_CLASSES : ∀ H, SqT K H a_CLASSES [.str "nought", .str "one", .str "turn", .str "rise", .str "sum"] := fun H => .inr ⟨_, _, _, vl_CLASSES, rfl, rfl, sz (by show 5 ≤ 100000; decide), .cons ⟨_, rfl⟩ (.cons ⟨_, rfl⟩ (.cons ⟨_, rfl⟩ (.cons ⟨_, rfl⟩ (.cons ⟨_, rfl⟩ (.nil)))))⟩
  have m_CLASSES := PySem.W.mg_of X G vg_CLASSES
  have S_BITS : ∀ H, SqT K H a_BITS [.int 1, .int 2, .int 4] := fun H => .inr ⟨_, _, _, vl_BITS, rfl, rfl, sz (by show 3 ≤ 100000; decide), .cons ⟨_, rfl⟩ (.cons ⟨_, rfl⟩ (.cons ⟨_, rfl⟩ (.nil)))⟩
  have m_BITS := PySem.W.mg_of X G vg_BITS
  have B : Bl mg := ⟨PySem.W.mg_none_of X G z_len, PySem.W.mg_none_of X G z_sum, PySem.W.mg_none_of X G z_range, PySem.W.mg_none_of X G z_list, PySem.W.mg_none_of X G z_tuple, PySem.W.mg_none_of X G z_isinstance, PySem.W.mg_none_of X G z_bool, PySem.W.mg_none_of X G z_int, PySem.W.mg_none_of X G z_str, PySem.W.mg_none_of X G z_all, PySem.W.mg_none_of X G z_any, PySem.W.mg_none_of X G z_reversed, PySem.W.mg_none_of X G z_sorted, PySem.W.mg_none_of X G z_min, PySem.W.mg_none_of X G z_max, PySem.W.mg_none_of X G z_dict⟩
  have F_ask_gate := fun_mk (st := s_ask_gate) l0 c0 k0
  have D_ask_gate : Def K mg "ask_gate" s_ask_gate ["gate"] := ⟨_, _, F_ask_gate, PySem.W.mg_of X G a0, F_ask_gate.binds (ps := ["gate"]) fun _ _ _ _ _ _ us hl => match us, hl with | [_], _ => rfl⟩
  have F_ask_gates := fun_mk (st := s_ask_gates) l1 c1 k1
  have D_ask_gates : Def K mg "ask_gates" s_ask_gates ["gates"] := ⟨_, _, F_ask_gates, PySem.W.mg_of X G a1, F_ask_gates.binds (ps := ["gates"]) fun _ _ _ _ _ _ us hl => match us, hl with | [_], _ => rfl⟩
  have F_wide := fun_mk (st := s_wide) l2 c2 k2
  have D_wide : Def K mg "wide" s_wide ["gate"] := ⟨_, _, F_wide, PySem.W.mg_of X G a2, F_wide.binds (ps := ["gate"]) fun _ _ _ _ _ _ us hl => match us, hl with | [_], _ => rfl⟩
  have F_row_of := fun_mk (st := s_row_of) l3 c3 k3
  have D_row_of : Def K mg "row_of" s_row_of ["inputs"] := ⟨_, _, F_row_of, PySem.W.mg_of X G a3, F_row_of.binds (ps := ["inputs"]) fun _ _ _ _ _ _ us hl => match us, hl with | [_], _ => rfl⟩
  have F_turn_witness := fun_mk (st := s_turn_witness) l4 c4 k4
  have D_turn_witness : Def K mg "turn_witness" s_turn_witness ["gate"] := ⟨_, _, F_turn_witness, PySem.W.mg_of X G a4, F_turn_witness.binds (ps := ["gate"]) fun _ _ _ _ _ _ us hl => match us, hl with | [_], _ => rfl⟩
  have F_rise_witness := fun_mk (st := s_rise_witness) l5 c5 k5
  have D_rise_witness : Def K mg "rise_witness" s_rise_witness ["gate"] := ⟨_, _, F_rise_witness, PySem.W.mg_of X G a5, F_rise_witness.binds (ps := ["gate"]) fun _ _ _ _ _ _ us hl => match us, hl with | [_], _ => rfl⟩
  have F_sum_witness := fun_mk (st := s_sum_witness) l6 c6 k6
  have D_sum_witness : Def K mg "sum_witness" s_sum_witness ["gate"] := ⟨_, _, F_sum_witness, PySem.W.mg_of X G a6, F_sum_witness.binds (ps := ["gate"]) fun _ _ _ _ _ _ us hl => match us, hl with | [_], _ => rfl⟩
  have F_witness := fun_mk (st := s_witness) l7 c7 k7
  have D_witness : Def K mg "witness" s_witness ["gate", "word"] := ⟨_, _, F_witness, PySem.W.mg_of X G a7, F_witness.binds (ps := ["gate", "word"]) fun _ _ _ _ _ _ us hl => match us, hl with | [_, _], _ => rfl⟩
  have F_is_in := fun_mk (st := s_is_in) l8 c8 k8
  have D_is_in : Def K mg "is_in" s_is_in ["gate", "word"] := ⟨_, _, F_is_in, PySem.W.mg_of X G a8, F_is_in.binds (ps := ["gate", "word"]) fun _ _ _ _ _ _ us hl => match us, hl with | [_, _], _ => rfl⟩
  have F_ask_inputs := fun_mk (st := s_ask_inputs) l9 c9 k9
  have D_ask_inputs : Def K mg "ask_inputs" s_ask_inputs ["many"] := ⟨_, _, F_ask_inputs, PySem.W.mg_of X G a9, F_ask_inputs.binds (ps := ["many"]) fun _ _ _ _ _ _ us hl => match us, hl with | [_], _ => rfl⟩
  have F_ask_formula := fun_mk (st := s_ask_formula) l10 c10 k10
  have D_ask_formula : Def K mg "ask_formula" s_ask_formula ["gates", "formula", "many"] := ⟨_, _, F_ask_formula, PySem.W.mg_of X G a10, F_ask_formula.binds (ps := ["gates", "formula", "many"]) fun _ _ _ _ _ _ us hl => match us, hl with | [_, _, _], _ => rfl⟩
  have F_worth := fun_mk (st := s_worth) l11 c11 k11
  have D_worth : Def K mg "worth" s_worth ["gates", "formula", "inputs"] := ⟨_, _, F_worth, PySem.W.mg_of X G a11, F_worth.binds (ps := ["gates", "formula", "inputs"]) fun _ _ _ _ _ _ us hl => match us, hl with | [_, _, _], _ => rfl⟩
  have F_rows_of := fun_mk (st := s_rows_of) l12 c12 k12
  have D_rows_of : Def K mg "rows_of" s_rows_of ["many"] := ⟨_, _, F_rows_of, PySem.W.mg_of X G a12, F_rows_of.binds (ps := ["many"]) fun _ _ _ _ _ _ us hl => match us, hl with | [_], _ => rfl⟩
  have F_table_of := fun_mk (st := s_table_of) l13 c13 k13
  have D_table_of : Def K mg "table_of" s_table_of ["gates", "formula", "many"] := ⟨_, _, F_table_of, PySem.W.mg_of X G a13, F_table_of.binds (ps := ["gates", "formula", "many"]) fun _ _ _ _ _ _ us hl => match us, hl with | [_, _, _], _ => rfl⟩
  have F__law_cell_at := fun_mk (st := s__law_cell_at) l14 c14 k14
  have D__law_cell_at : Def K mg "_law_cell_at" s__law_cell_at ["script", "k"] := ⟨_, _, F__law_cell_at, PySem.W.mg_of X G a14, F__law_cell_at.binds (ps := ["script", "k"]) fun _ _ _ _ _ _ us hl => match us, hl with | [_, _], _ => rfl⟩
  have F__law_next := fun_mk (st := s__law_next) l15 c15 k15
  have D__law_next : Def K mg "_law_next" s__law_next ["seed"] := ⟨_, _, F__law_next, PySem.W.mg_of X G a15, F__law_next.binds (ps := ["seed"]) fun _ _ _ _ _ _ us hl => match us, hl with | [_], _ => rfl⟩
  have F__law_gate := fun_mk (st := s__law_gate) l16 c16 k16
  have D__law_gate : Def K mg "_law_gate" s__law_gate ["seed", "most"] := ⟨_, _, F__law_gate, PySem.W.mg_of X G a16, F__law_gate.binds (ps := ["seed", "most"]) fun _ _ _ _ _ _ us hl => match us, hl with | [_, _], _ => rfl⟩
  have F__law_gates := fun_mk (st := s__law_gates) l17 c17 k17
  have D__law_gates : Def K mg "_law_gates" s__law_gates ["script", "most"] := ⟨_, _, F__law_gates, PySem.W.mg_of X G a17, F__law_gates.binds (ps := ["script", "most"]) fun _ _ _ _ _ _ us hl => match us, hl with | [_, _], _ => rfl⟩
  have F__law_wide := fun_mk (st := s__law_wide) l18 c18 k18
  have D__law_wide : Def K mg "_law_wide" s__law_wide ["gate"] := ⟨_, _, F__law_wide, PySem.W.mg_of X G a18, F__law_wide.binds (ps := ["gate"]) fun _ _ _ _ _ _ us hl => match us, hl with | [_], _ => rfl⟩
  have F__law_formula := fun_mk (st := s__law_formula) l19 c19 k19
  have D__law_formula : Def K mg "_law_formula" s__law_formula ["seed", "deep", "gates", "many"] := ⟨_, _, F__law_formula, PySem.W.mg_of X G a19, F__law_formula.binds (ps := ["seed", "deep", "gates", "many"]) fun _ _ _ _ _ _ us hl => match us, hl with | [_, _, _, _], _ => rfl⟩
  have F__law_sums := fun_mk (st := s__law_sums) l20 c20 k20
  have D__law_sums : Def K mg "_law_sums" s__law_sums ["gate"] := ⟨_, _, F__law_sums, PySem.W.mg_of X G a20, F__law_sums.binds (ps := ["gate"]) fun _ _ _ _ _ _ us hl => match us, hl with | [_], _ => rfl⟩
  have F__law_rises := fun_mk (st := s__law_rises) l21 c21 k21
  have D__law_rises : Def K mg "_law_rises" s__law_rises ["gate"] := ⟨_, _, F__law_rises, PySem.W.mg_of X G a21, F__law_rises.binds (ps := ["gate"]) fun _ _ _ _ _ _ us hl => match us, hl with | [_], _ => rfl⟩
  have F__law_holds := fun_mk (st := s__law_holds) l22 c22 k22
  have D__law_holds : Def K mg "_law_holds" s__law_holds ["gate", "word"] := ⟨_, _, F__law_holds, PySem.W.mg_of X G a22, F__law_holds.binds (ps := ["gate", "word"]) fun _ _ _ _ _ _ us hl => match us, hl with | [_, _], _ => rfl⟩
  have F__law_used := fun_mk (st := s__law_used) l23 c23 k23
  have D__law_used : Def K mg "_law_used" s__law_used ["formula"] := ⟨_, _, F__law_used, PySem.W.mg_of X G a23, F__law_used.binds (ps := ["formula"]) fun _ _ _ _ _ _ us hl => match us, hl with | [_], _ => rfl⟩
  have F_law := fun_mk (st := s_law) l24 c24 k24
  refine ⟨PySem.W.fnOf "law" "law" (defArgs s_law) (defBody s_law) (defScope s_law) .none kV24 dc24 pm24 an24 cd24 ct24, fun s v => .of_eq rfl, fun base _ _ => ?_⟩
  have G_ask_gate := ok_ask_gate (P := l.prog) (w := w) (base := base) D_ask_gate B E_NoGate
  have G_ask_gates := ok_ask_gates (P := l.prog) (w := w) (base := base) D_ask_gates B E_NoGate G_ask_gate
  have G_wide := ok_wide (P := l.prog) (w := w) (base := base) D_wide B
  have G_row_of := ok_row_of (P := l.prog) (w := w) (base := base) D_row_of B m_BITS S_BITS
  have G_turn := ok_turn (P := l.prog) (w := w) (base := base) D_turn_witness B
  have G_rise := ok_rise (P := l.prog) (w := w) (base := base) D_rise_witness B m_BITS S_BITS G_wide
  have G_sum := ok_sum (P := l.prog) (w := w) (base := base) D_sum_witness B m_BITS S_BITS G_wide
  have G_witness := ok_witness (P := l.prog) (w := w) (base := base) D_witness B m_CLASSES S_CLASSES E_NoClass G_ask_gate G_turn G_rise G_sum
  have G_is_in := ok_is_in (P := l.prog) (w := w) (base := base) D_is_in G_witness
  have G_ask_inputs := ok_ask_inputs (P := l.prog) (w := w) (base := base) D_ask_inputs E_NoInputs
  have G_ask_formula := ok_ask_formula (P := l.prog) (w := w) (base := base) D_ask_formula B E_NoFormula G_wide 40
  have G_worth := ok_worth (P := l.prog) (w := w) (base := base) D_worth B G_row_of 40
  have G_rows_of := ok_rows_of (P := l.prog) (w := w) (base := base) D_rows_of B
  have G_table_of := ok_table_of (P := l.prog) (w := w) (base := base) D_table_of G_ask_gates G_ask_inputs G_ask_formula G_worth G_rows_of
  have G_cell := ok_cell_at (P := l.prog) (w := w) (base := base) D__law_cell_at B
  have G_next := ok_next (P := l.prog) (w := w) (base := base) D__law_next
  have G_law_gate := ok_law_gate (P := l.prog) (w := w) (base := base) D__law_gate B 3
  have G_law_gates := ok_law_gates (P := l.prog) (w := w) (base := base) D__law_gates B G_cell G_next G_law_gate
  have G_law_wide := ok__law_wide (P := l.prog) (w := w) (base := base) D__law_wide B
  have G_law_formula := ok_law_formula (P := l.prog) (w := w) (base := base) D__law_formula B G_next G_law_wide 10
  have G_law_sums := ok_law_sums (P := l.prog) (w := w) (base := base) D__law_sums B
  have G_law_rises := ok_law_rises (P := l.prog) (w := w) (base := base) D__law_rises B
  have G_law_holds := ok_law_holds (P := l.prog) (w := w) (base := base) D__law_holds B G_law_rises G_law_sums
  have G_law_used := ok_law_used (P := l.prog) (w := w) (base := base) D__law_used B 10
  exact ok_law F_law B G_cell G_next G_law_gates G_law_formula G_law_used G_law_holds G_is_in G_table_of
end GW
open PySem PySem.W PyProof.Rows
set_option maxHeartbeats 0 in
theorem PySem.Challenge.cw_gatewhole_k09_whole_classes_kept_holds : PySem.Challenge.rw_gatewhole_k09_whole_classes_kept.Holds := by
  w_on; o_law; k_head; (case hw => w_witness2)
  k_fill
  refine L2.walk_of (l := PySem.Challenge.rw_gatewhole_k09_whole_classes_kept) (n := 63) (k := 43) (x := "script") (CX := fun _ => L2.CX0) (sp := fun w => GW.spLaw _) rfl (by decide) rfl ⟨rfl, by decide, by decide⟩ (fun w h Y => PySem.W.kIn_of Y) ?F (fun _ _ a ns hl _ hS => ⟨a, ns, rfl, hS, hl, fun _ => rfl⟩) (fun _ _ _ _ _ h => h)
  case F =>
    intro w mg fa h KX G hmg
    refine' GW.all_mk KX G hmg ?Cg0 ?Ck0 ?Cb0 ?Ct0 ?Cg1 ?Cx1 ?Ck1 ?Cb1 ?Ct1 ?Cg2 ?Cx2 ?Ck2 ?Cb2 ?Ct2 ?Cg3 ?Cx3 ?Ck3 ?Cb3 ?Ct3 ?Cg4 ?Cx4 ?Ck4 ?Cb4 ?Ct4 ?vg_CLASSES ?vl_CLASSES ?vg_BITS ?vl_BITS ?z_len ?z_sum ?z_range ?z_list ?z_tuple ?z_isinstance ?z_bool ?z_int ?z_str ?z_all ?z_any ?z_reversed ?z_sorted ?z_min ?z_max ?z_dict ?a0 ?l0 ?c0 ?k0 ?a1 ?l1 ?c1 ?k1 ?a2 ?l2 ?c2 ?k2 ?a3 ?l3 ?c3 ?k3 ?a4 ?l4 ?c4 ?k4 ?a5 ?l5 ?c5 ?k5 ?a6 ?l6 ?c6 ?k6 ?a7 ?l7 ?c7 ?k7 ?a8 ?l8 ?c8 ?k8 ?a9 ?l9 ?c9 ?k9 ?a10 ?l10 ?c10 ?k10 ?a11 ?l11 ?c11 ?k11 ?a12 ?l12 ?c12 ?k12 ?a13 ?l13 ?c13 ?k13 ?a14 ?l14 ?c14 ?k14 ?a15 ?l15 ?c15 ?k15 ?a16 ?l16 ?c16 ?k16 ?a17 ?l17 ?c17 ?k17 ?a18 ?l18 ?c18 ?k18 ?a19 ?l19 ?c19 ?k19 ?a20 ?l20 ?c20 ?k20 ?a21 ?l21 ?c21 ?k21 ?a22 ?l22 ?c22 ?k22 ?a23 ?l23 ?c23 ?k23 ?a24 ?l24 ?c24 ?k24
    (case Cg0 => k_is)
    (case Ck0 => k_is)
    (case Cb0 => k_is)
    (case Ct0 => k_is)
    (case Cg1 => k_is)
    (case Cx1 => k_exc)
    (case Ck1 => k_is)
    (case Cb1 => k_is)
    (case Ct1 => k_is)
    (case Cg2 => k_is)
    (case Cx2 => k_exc)
    (case Ck2 => k_is)
    (case Cb2 => k_is)
    (case Ct2 => k_is)
    (case Cg3 => k_is)
    (case Cx3 => k_exc)
    (case Ck3 => k_is)
    (case Cb3 => k_is)
    (case Ct3 => k_is)
    (case Cg4 => k_is)
    (case Cx4 => k_exc)
    (case Ck4 => k_is)
    (case Cb4 => k_is)
    (case Ct4 => k_is)
    (case vg_CLASSES => k_is)
    (case vl_CLASSES => k_is)
    (case vg_BITS => k_is)
    (case vl_BITS => k_is)
    (case z_len => k_is)
    (case z_sum => k_is)
    (case z_range => k_is)
    (case z_list => k_is)
    (case z_tuple => k_is)
    (case z_isinstance => k_is)
    (case z_bool => k_is)
    (case z_int => k_is)
    (case z_str => k_is)
    (case z_all => k_is)
    (case z_any => k_is)
    (case z_reversed => k_is)
    (case z_sorted => k_is)
    (case z_min => k_is)
    (case z_max => k_is)
    (case z_dict => k_is)
    (case a0 => k_is)
    (case l0 => k_is)
    (case c0 => k_is)
    (case k0 => k_is)
    (case a1 => k_is)
    (case l1 => k_is)
    (case c1 => k_is)
    (case k1 => k_is)
    (case a2 => k_is)
    (case l2 => k_is)
    (case c2 => k_is)
    (case k2 => k_is)
    (case a3 => k_is)
    (case l3 => k_is)
    (case c3 => k_is)
    (case k3 => k_is)
    (case a4 => k_is)
    (case l4 => k_is)
    (case c4 => k_is)
    (case k4 => k_is)
    (case a5 => k_is)
    (case l5 => k_is)
    (case c5 => k_is)
    (case k5 => k_is)
    (case a6 => k_is)
    (case l6 => k_is)
    (case c6 => k_is)
    (case k6 => k_is)
    (case a7 => k_is)
    (case l7 => k_is)
    (case c7 => k_is)
    (case k7 => k_is)
    (case a8 => k_is)
    (case l8 => k_is)
    (case c8 => k_is)
    (case k8 => k_is)
    (case a9 => k_is)
    (case l9 => k_is)
    (case c9 => k_is)
    (case k9 => k_is)
    (case a10 => k_is)
    (case l10 => k_is)
    (case c10 => k_is)
    (case k10 => k_is)
    (case a11 => k_is)
    (case l11 => k_is)
    (case c11 => k_is)
    (case k11 => k_is)
    (case a12 => k_is)
    (case l12 => k_is)
    (case c12 => k_is)
    (case k12 => k_is)
    (case a13 => k_is)
    (case l13 => k_is)
    (case c13 => k_is)
    (case k13 => k_is)
    (case a14 => k_is)
    (case l14 => k_is)
    (case c14 => k_is)
    (case k14 => k_is)
    (case a15 => k_is)
    (case l15 => k_is)
    (case c15 => k_is)
    (case k15 => k_is)
    (case a16 => k_is)
    (case l16 => k_is)
    (case c16 => k_is)
    (case k16 => k_is)
    (case a17 => k_is)
    (case l17 => k_is)
    (case c17 => k_is)
    (case k17 => k_is)
    (case a18 => k_is)
    (case l18 => k_is)
    (case c18 => k_is)
    (case k18 => k_is)
    (case a19 => k_is)
    (case l19 => k_is)
    (case c19 => k_is)
    (case k19 => k_is)
    (case a20 => k_is)
    (case l20 => k_is)
    (case c20 => k_is)
    (case k20 => k_is)
    (case a21 => k_is)
    (case l21 => k_is)
    (case c21 => k_is)
    (case k21 => k_is)
    (case a22 => k_is)
    (case l22 => k_is)
    (case c22 => k_is)
    (case k22 => k_is)
    (case a23 => k_is)
    (case l23 => k_is)
    (case c23 => k_is)
    (case k23 => k_is)
    (case a24 => k_is)
    (case l24 => k_is)
    (case c24 => k_is)
    (case k24 => k_is)
