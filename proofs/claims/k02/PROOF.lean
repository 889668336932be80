import PyProof.Rows.All
import Wide.All
import OpenK.AllK
import Wide.FinOn
import HandS.ForMost
import HandS.ForExc
import HandS.Evl
import HandS.IsInst
import PySem.Challenge.RW_gatewhole_k02_contrary
set_option Elab.async false
set_option linter.all false
set_option maxRecDepth 100000
set_option maxHeartbeats 8000000
set_option Elab.async false
set_option linter.all false
set_option maxRecDepth 100000
set_option maxHeartbeats 4000000
/-! Gatewhole, the base: defs as one fact (Fn, Def), heaps, lists of truths, comprehensions. -/
namespace GW
open PySem PySem.Spec PyProof.Rows L2

/-! ### defs -/
/-- a def under its global name that keeps a promise -/
structure Fn (P : Program) (w : World) (K : PySem.W.Frag) (mg : Str → Option Value) (base : Heap) (CX : CXT) (k : Nat) (x : Str) (ps : List Str) (sp : Sp) : Prop where
  ex : ∃ f fd, FnOk P w K mg base CX k f fd ps sp ∧ mg x = some (.ref f) ∧ PySem.W.keepIn K (.ref f) = true ∧ Binds K fd ps []
/-- a def of the text as it stands behind the top -/
structure Def (K : PySem.W.Frag) (mg : Str → Option Value) (x : Str) (st : Stmt) (ps : List Str) : Prop where
  ex : ∃ f fd, Fun K x x st f fd ∧ mg x = some (.ref f) ∧ Binds K fd ps []
section
variable {P : Program} {w : World} {K : PySem.W.Frag} {mg : Str → Option Value} {base : Heap} {CX : CXT} {k : Nat} {x : Str} {st : Stmt} {ps N : List Str} {sp sp' : Sp}
theorem Def.fn (D : Def K mg x st ps) (h : ∀ f fd, Fun K x x st f fd → FnOk P w K mg base CX k f fd ps sp) : Fn P w K mg base CX k x ps sp := by
  obtain ⟨f, fd, F, hm, hb⟩ := D.ex
  exact ⟨f, fd, h f fd F, hm, F.kp, hb⟩
theorem Fn.mono {j : Nat} (G : Fn P w K mg base CX j x ps sp) (h : j ≤ k) : Fn P w K mg base CX k x ps sp := by
  obtain ⟨f, fd, F, r⟩ := G.ex
  exact ⟨f, fd, F.mono h, r⟩
theorem Fn.imp (G : Fn P w K mg base CX k x ps sp) (h : ∀ vs H Q E, sp' vs H Q E → sp vs H Q E) : Fn P w K mg base CX k x ps sp' := by
  obtain ⟨f, fd, F, r⟩ := G.ex
  exact ⟨f, fd, F.imp h, r⟩
/-- nothing can be asked -/
theorem Def.none (D : Def K mg x st ps) (no : ∀ vs H Q E, ¬ sp vs H Q E) : Fn P w K mg base CX 0 x ps sp :=
  D.fn fun _ _ _ => ⟨fun vs H Q E h => absurd h (no vs H Q E), fun A outer s H args us vs Q E _ _ _ _ h => absurd h (no vs H Q E)⟩
end
/-- f(..) -/
def tFn (sp : Sp) (E : XK) (t : TA) : TE := fun σ H Q => t σ H fun vs H1 => sp vs H1 Q E
section
variable {X : Cx} {CX : CXT} {k : Nat} {ps : List Str} {sp : Sp} {E : XK} {x : Str} {p pos : Pos} {e : Expr} {es : List Expr} {t : TA}
theorem tFn_eq : tCall sp [] E t = tFn sp E t := by
  funext σ H Q
  unfold tCall tFn
  have : (fun (vs : List V) H1 => sp (vs ++ []) H1 Q E) = fun vs H1 => sp vs H1 Q E := by
    funext vs H1
    rw [List.append_nil]
  rw [this]
theorem pe_fn (G : Fn X.prog X.w X.K X.mg X.base CX k x ps sp) (hr : Room k X.A) (hg : Gl X x) (hx : Passes CX X E) (ha : PA X (e :: es) t) (hdb : (x == ("__debug__" : Str)) = false := by decide)
    (he : starEach (e :: es) X.env = (false, eval e X.env) :: starEach es X.env := by rfl) (hpl : (backTo pos (starEach es X.env)).any (·.1) = false := by rfl) :
    PE X (.Call (.Name x p) (e :: es) [] pos) (tFn sp E t) := by
  obtain ⟨f, fd, F, hm, hk, hb⟩ := G.ex
  rw [← tFn_eq]
  exact pe_call F hr hg hm hk hb .nil hx ha hdb he hpl
/-- in a try's body: W tells what the slots are then -/
theorem pe_fnS {E : L2.St → XK} (G : Fn X.prog X.w X.K X.mg X.base CX k x ps sp) (hr : Room k X.A) (hg : Gl X x) (hx : ∀ σ, PassesAt CX X σ (E σ)) (ha : PA X (e :: es) t) (hdb : (x == ("__debug__" : Str)) = false := by decide)
    (he : starEach (e :: es) X.env = (false, eval e X.env) :: starEach es X.env := by rfl) (hpl : (backTo pos (starEach es X.env)).any (·.1) = false := by rfl) :
    PE X (.Call (.Name x p) (e :: es) [] pos) (tCallS sp E t) := by
  obtain ⟨f, fd, F, hm, hk, hb⟩ := G.ex
  exact pe_callS F hr hg hm hk hb hx ha hdb he hpl
end
/-- an own class of error over ValueError, without __init__, as the written part has it -/
structure ErrC (K : PySem.W.Frag) (mg : Str → Option Value) (x : Str) (C : Addr) : Prop where
  g : mg x = some (.ref C)
  x : PySem.W.excIn K C [.type "ValueError", .type "Exception", .type "BaseException", .type "object"] "ValueError.__new__" = true
  k : PySem.W.keepIn K (.ref C) = true
  b : PySem.W.subIn K (.ref C) (.type "BaseException") = some true
  t : PySem.W.typeIn K (.ref C) = some (.type "type")

end GW
namespace L2
open PySem PySem.Spec PyProof.Rows
/-! ### heaps -/
theorem Same.new {H : Hp} {p : Addr} {o : HO} (h : H p = none) : Same H (upd H p o) := fun b u q => by rw [upd_ne (ne_of_none q h)]; exact q
theorem Same.mut {H H' : Hp} {p : Addr} {o : HO} (e : Same H H') (h : H p = none) : Same H (upd H' p o) := fun a u ha => by
  rw [upd_ne (ne_of_none ha h)]
  exact e a u ha
theorem Same.rd {H H' : Hp} {a : Addr} {u : HO} (e : Same H H') (h : Rd H a u) : Rd H' a u := by
  rcases h with h | ⟨o, h⟩
  · exact .inl (e _ _ h)
  · exact .inr ⟨o, e _ _ h⟩
theorem Same.tup {K : PySem.W.Frag} {H H' : Hp} {a : Addr} {xs : List V} (e : Same H H') (h : SqT K H a xs) : SqT K H' a xs := by
  rcases h with h | h
  · exact .inl (e.rd h)
  · exact .inr h
end L2
namespace GW
open PySem PySem.Spec PyProof.Rows L2
theorem sz {n : Nat} (h : n ≤ 100000) : n ≤ sizeLine := Nat.le_trans h (by decide)
theorem szl {n : Nat} (h : n < 100000) : n < sizeLine := Nat.lt_of_lt_of_le h (by decide)

/-! ### Paired over lists -/
theorem Paired.len {α β : Type} {R : α → β → Prop} : ∀ {xs : List α} {ys : List β}, Paired R xs ys → xs.length = ys.length := fun r => Paired.length r
theorem Paired.at {α β : Type} {R : α → β → Prop} : ∀ {xs : List α} {ys : List β} {i : Nat} {x : α}, Paired R xs ys → xs[i]? = some x → ∃ y, ys[i]? = some y ∧ R x y
  | _, _, _, _, .nil, e => by simp at e
  | _, _, 0, _, .cons r _, e => by simp at e; subst e; exact ⟨_, rfl, r⟩
  | _, _, i + 1, x, .cons _ t, e => by
    obtain ⟨u, h1, h2⟩ := Paired.at (i := i) (x := x) t (by simpa using e)
    exact ⟨u, by simpa using h1, h2⟩
theorem Paired.at' {α β : Type} {R : α → β → Prop} : ∀ {xs : List α} {ys : List β} {i : Nat} {y : β}, Paired R xs ys → ys[i]? = some y → ∃ x, xs[i]? = some x ∧ R x y
  | _, _, _, _, .nil, e => by simp at e
  | _, _, 0, _, .cons r _, e => by simp at e; subst e; exact ⟨_, rfl, r⟩
  | _, _, i + 1, y, .cons _ t, e => by
    obtain ⟨u, h1, h2⟩ := Paired.at' (i := i) (y := y) t (by simpa using e)
    exact ⟨u, by simpa using h1, h2⟩
theorem Paired.imp {α β : Type} {R S : α → β → Prop} (h : ∀ x y, R x y → S x y) : ∀ {xs : List α} {ys : List β}, Paired R xs ys → Paired S xs ys
  | _, _, .nil => .nil
  | _, _, .cons r t => .cons (h _ _ r) (Paired.imp h t)
theorem Paired.snoc {α β : Type} {R : α → β → Prop} {x : α} {y : β} (q : R x y) : ∀ {xs : List α} {ys : List β}, Paired R xs ys → Paired R (xs ++ [x]) (ys ++ [y])
  | _, _, .nil => .cons q .nil
  | _, _, .cons r t => .cons r (Paired.snoc q t)
theorem Paired.app {α β : Type} {R : α → β → Prop} : ∀ {xs : List α} {ys : List β} {xs' : List α} {ys' : List β}, Paired R xs ys → Paired R xs' ys' → Paired R (xs ++ xs') (ys ++ ys')
  | _, _, _, _, .nil, q => q
  | _, _, _, _, .cons r t, q => .cons r (Paired.app t q)

/-! ### lists of truths -/
abbrev LB (bs : List Bool) : List V := bs.map V.bl
/-- v is a list of the truths bs -/
def IsB (K : PySem.W.Frag) (H : Hp) (v : V) (bs : List Bool) : Prop := ∃ a, v = .ref a ∧ SqL K H a (LB bs)
theorem IsB.mono {K : PySem.W.Frag} {H H' : Hp} {v : V} {bs : List Bool} (e : Same H H') (h : IsB K H v bs) : IsB K H' v bs := by
  obtain ⟨a, rfl, h⟩ := h
  exact ⟨a, rfl, e.seq h⟩
/-- v is a list of lists of truths -/
def IsBs (K : PySem.W.Frag) (H : Hp) (v : V) (gs : List (List Bool)) : Prop := ∃ a vs, v = .ref a ∧ SqL K H a vs ∧ Paired (IsB K H) vs gs
theorem IsBs.mono {K : PySem.W.Frag} {H H' : Hp} {v : V} {gs : List (List Bool)} (e : Same H H') (h : IsBs K H v gs) : IsBs K H' v gs := by
  obtain ⟨a, vs, rfl, h, p⟩ := h
  exact ⟨a, vs, rfl, e.seq h, Paired.imp (fun _ _ q => q.mono e) p⟩
theorem lb_at {bs : List Bool} {i : Nat} {b : Bool} (h : bs[i]? = some b) : (LB bs)[i]? = some (.bl b) := by
  rw [List.getElem?_map, h]; rfl
theorem lb_get {bs : List Bool} {i : Nat} (h : i < bs.length) : (LB bs)[i]? = some (.bl (bs.getD i false)) := by
  rw [List.getElem?_map, List.getElem?_eq_getElem h, List.getD_eq_getElem?_getD, List.getElem?_eq_getElem h]; rfl
theorem lb_of {bs : List Bool} {i : Nat} {x : V} (h : (LB bs)[i]? = some x) : i < bs.length ∧ x = .bl (bs.getD i false) := by
  rw [List.getElem?_map] at h
  cases e : bs[i]? with
  | none => rw [e] at h; cases h
  | some b =>
    rw [e] at h
    have hi := (List.getElem?_eq_some_iff.mp e).1
    refine ⟨hi, ?_⟩
    rw [List.getD_eq_getElem?_getD, e]
    exact (Option.some.inj h).symm
theorem lb_len {bs : List Bool} : (LB bs).length = bs.length := List.length_map _

theorem lb_app {bs : List Bool} {b : Bool} : LB (bs ++ [b]) = LB bs ++ [V.bl b] := List.map_append
theorem map_bl {n : Nat} {f : Nat → Bool} : (List.range n).map (fun i => V.bl (f i)) = LB ((List.range n).map f) := by
  unfold LB
  rw [List.map_map]
  rfl

/-! ### data -/
def dB (bs : List Bool) : PyData := .list (bs.map .bool)
def dBs (gs : List (List Bool)) : PyData := .list (gs.map dB)
theorem dpAll_lb {K : PySem.W.Frag} {H : Hp} : ∀ bs : List Bool, DpAll K H (LB bs) (bs.map .bool)
  | [] => .nil
  | b :: r => .cons (.bl b) (dpAll_lb r)
theorem IsB.dp {K : PySem.W.Frag} {H : Hp} {v : V} {bs : List Bool} (h : IsB K H v bs) : Dp K H v (dB bs) := by
  obtain ⟨a, rfl, h⟩ := h
  exact .lst h (dpAll_lb bs)
theorem dpAll_of {K : PySem.W.Frag} {H : Hp} {α : Type} {R : V → α → Prop} {f : α → PyData} (h : ∀ v a, R v a → Dp K H v (f a)) : ∀ {vs : List V} {as : List α}, Paired R vs as → DpAll K H vs (as.map f)
  | _, _, .nil => .nil
  | _, _, .cons r t => .cons (h _ _ r) (dpAll_of h t)
theorem IsBs.dp {K : PySem.W.Frag} {H : Hp} {v : V} {gs : List (List Bool)} (h : IsBs K H v gs) : Dp K H v (dBs gs) := by
  obtain ⟨a, vs, rfl, h, p⟩ := h
  exact .lst h (dpAll_of (fun _ _ q => q.dp) p)
/-- of a right shape: no text beyond what can be laid, at most n deep -/
def Shp (n : Nat) (d : PyData) : Prop := d.canLay0 = true ∧ d.depth ≤ n
theorem shp_all {n : Nat} : ∀ {ds : List PyData}, (∀ d ∈ ds, Shp n d) → PyData.canLayAll0 ds = true ∧ PyData.depthAll ds ≤ n
  | [], _ => ⟨by simp only [PyData.canLayAll0], by simp only [PyData.depthAll]; omega⟩
  | d :: r, h => by
    have h1 := h d List.mem_cons_self
    have h2 := shp_all fun x hx => h x (List.mem_cons_of_mem _ hx)
    refine ⟨?_, ?_⟩
    · simp only [PyData.canLayAll0, h1.1, h2.1, Bool.and_self]
    · simp only [PyData.depthAll]
      exact Nat.max_le.mpr ⟨h1.2, h2.2⟩
theorem shp_list {n : Nat} {ds : List PyData} (h : ∀ d ∈ ds, Shp n d) : Shp (n + 1) (.list ds) := by
  have q := shp_all h
  refine ⟨?_, ?_⟩
  · simp only [PyData.canLay0, q.1]
  · simp only [PyData.depth]
    exact Nat.succ_le_succ q.2
theorem shp_tuple {n : Nat} {ds : List PyData} (h : ∀ d ∈ ds, Shp n d) : Shp (n + 1) (.tuple ds) := by
  have q := shp_all h
  refine ⟨?_, ?_⟩
  · simp only [PyData.canLay0, q.1]
  · simp only [PyData.depth]
    exact Nat.succ_le_succ q.2
theorem Shp.mono {n m : Nat} {d : PyData} (h : Shp n d) (l : n ≤ m) : Shp m d := ⟨h.1, Nat.le_trans h.2 l⟩
theorem Shp.ok {n : Nat} {d : PyData} (h : Shp n d) (l : n ≤ 64) : SeqAt.shaped d = true := by
  unfold SeqAt.shaped
  rw [h.1, decide_eq_true (Nat.le_trans h.2 l)]
  rfl
theorem shp_bool {n : Nat} {b : Bool} : Shp n (.bool b) := ⟨by simp only [PyData.canLay0], by simp only [PyData.depth]; omega⟩
theorem shp_int {n : Nat} {b : Int} : Shp n (.int b) := ⟨by simp only [PyData.canLay0], by simp only [PyData.depth]; omega⟩
theorem shp_dB {bs : List Bool} : Shp 1 (dB bs) := shp_list (n := 0) fun d h => by
  obtain ⟨b, _, rfl⟩ := List.mem_map.mp h
  exact shp_bool
theorem shp_dBs {gs : List (List Bool)} : Shp 2 (dBs gs) := shp_list (n := 1) fun d h => by
  obtain ⟨b, _, rfl⟩ := List.mem_map.mp h
  exact shp_dB
/-! == of data -/
theorem eqv_list (as bs : List PyData) : PyData.eqv (.list as) (.list bs) = PyData.eqvAll as bs := by simp only [PyData.eqv]
theorem eqvAll_map {α : Type} [DecidableEq α] {f : α → PyData} (h : ∀ a b, PyData.eqv (f a) (f b) = decide (a = b)) : ∀ as bs : List α, PyData.eqvAll (as.map f) (bs.map f) = decide (as = bs)
  | [], [] => by simp [PyData.eqvAll]
  | [], _ :: _ => by simp [PyData.eqvAll]
  | _ :: _, [] => by simp [PyData.eqvAll]
  | a :: as, b :: bs => by
    rw [List.map_cons, List.map_cons]
    simp only [PyData.eqvAll]
    rw [h a b, eqvAll_map h as bs]
    by_cases e1 : a = b
    · by_cases e2 : as = bs
      · simp [e1, e2]
      · simp [e1, e2]
    · simp [e1]
theorem eqv_dB (a b : List Bool) : PyData.eqv (dB a) (dB b) = decide (a = b) := by
  unfold dB
  rw [eqv_list]
  exact eqvAll_map (fun x y => by simp only [PyData.eqv]; cases x <;> cases y <;> rfl) a b
theorem eqv_dBs (a b : List (List Bool)) : PyData.eqv (dBs a) (dBs b) = decide (a = b) := by
  unfold dBs
  rw [eqv_list]
  exact eqvAll_map eqv_dB a b
end GW
/-! ### the rules with the written part K named (within a comprehension the context is another, K is the same) -/
namespace GW
open PySem PySem.Spec PyProof.Rows L2
section
variable {K : PySem.W.Frag} {X : Cx}
theorem ixL (h : X.K = K := by rfl) : IxR X (rIxL K) := h ▸ ix_list
theorem ixT (h : X.K = K := by rfl) : IxR X (rIxT K) := h ▸ ix_tup
theorem lenS (h : X.K = K := by rfl) : CallR X (.builtin "len") (Evl.rLenS K) := h ▸ call_len_seq
theorem listOf (h : X.K = K := by rfl) : CallR X (.type "list") (Evl.rListS K) := h ▸ call_list_of
def rTupS (K : PySem.W.Frag) : List V → Hp → VK → Prop := fun xs H Q => ∃ p ys, xs = [.ref p] ∧ ((SqL K H p ys ∧ ∀ l, H l = none → Q (.ref l) (upd H l (.tup ys))) ∨ (SqT K H p ys ∧ Q (.ref p) H))
theorem tupOf (h : X.K = K := by rfl) : CallR X (.type "tuple") (rTupS K) := h ▸ call_tuple_of
theorem inS (h : X.K = K := by rfl) : OpR X (compareOp .In) (rIn K false) := h ▸ op_in_seq
theorem notInS (h : X.K = K := by rfl) : OpR X (compareOp .NotIn) (rIn K true) := h ▸ op_notIn_seq
theorem eqD (hu : X.A.units + 64 < cLine) (h : X.K = K := by rfl) : OpR X (compareOp .Eq) (rEqD K) := h ▸ op_eqD hu
theorem neD (hu : X.A.units + 64 < cLine) (h : X.K = K := by rfl) : OpR X (compareOp .NotEq) (rNeD K) := h ▸ op_neD hu
theorem sumS (hc : X.calm = true) (h : X.K = K := by rfl) : CallR X (.builtin "sum") (rSum K) := h ▸ cr_sum hc
theorem allS (hc : X.calm = true) (h : X.K = K := by rfl) : CallR X (.builtin "all") (rAll K) := h ▸ cr_all hc
theorem anyS (hc : X.calm = true) (h : X.K = K := by rfl) : CallR X (.builtin "any") (rAny K) := h ▸ cr_any hc
theorem isiS (h : X.K = K := by rfl) : CallR X (.builtin "isinstance") (rIsi K) := h ▸ call_isi
theorem piL {tg l : Expr} {tl : TE} (hl : PE X l tl) (h : X.K = K := by rfl) : PI X tg l (iList K tl) := h ▸ pi_list hl
theorem piT {tg l : Expr} {tl : TE} (hl : PE X l tl) (h : X.K = K := by rfl) : PI X tg l (iTup K tl) := h ▸ pi_tup hl
end
end GW
/-! ### comprehensions whose elements are plain values -/
namespace GW
open PySem PySem.Spec PyProof.Rows L2
section
variable {K : PySem.W.Frag} {σ : L2.St} {H : Hp} {te : TE} {t : TT} {Q : VK}
/-- over range(n) -/
theorem lcR1 {ta : TA} {j : Nat} {vs : List Nat} (n : Int) (f : Nat → Bool) (v : Nat → V) (hn : 0 ≤ n ∧ n ≤ 40000) (h : Evl.EvA ta σ H [.int n]) (hw : ∀ x, wipe ((wipe σ vs).set j (some x)) vs = wipe σ vs)
    (ht : ∀ (i : Nat) H1, Same H H1 → (i : Int) < n → Evl.EvT t ((wipe σ vs).set j (some (.int (i : Int)))) H1 (f i)) (he : ∀ (i : Nat) H1, Same H H1 → (i : Int) < n → f i = true → Evl.Ev te ((wipe σ vs).set j (some (.int (i : Int)))) H1 (v i))
    (q : ∀ p H', H p = none → Same H H' → H' p = some (.lst (Evl.given n.toNat f v)) → Q (.ref p) H') : tLc (iRng1 ta) (gName j) t te vs σ H Q :=
  Evl.el_lcR1 f v h hn hw ht he H (Same.refl H) Q q
/-- over a list -/
theorem lcL {a : Addr} {xs : List V} {tl : TE} {j : Nat} {vs : List Nat} (f : Nat → Bool) (v : Nat → V) (hx : SqL K H a xs) (hz : xs.length ≤ 40000) (h : Evl.Ev tl σ H (.ref a)) (hw : ∀ x, wipe ((wipe σ vs).set j (some x)) vs = wipe σ vs)
    (ht : ∀ (i : Nat) (x : V) H1, Same H H1 → xs[i]? = some x → Evl.EvT t ((wipe σ vs).set j (some x)) H1 (f i)) (he : ∀ (i : Nat) (x : V) H1, Same H H1 → xs[i]? = some x → f i = true → Evl.Ev te ((wipe σ vs).set j (some x)) H1 (v i))
    (q : ∀ p H', H p = none → Same H H' → H' p = some (.lst (Evl.given xs.length f v)) → Q (.ref p) H') : tLc (iList K tl) (gName j) t te vs σ H Q :=
  Evl.el_lcL f v h hx hz hw ht he H (Same.refl H) Q q
theorem et_yes : Evl.EvT tYes σ H true := fun H1 _ _ q => q H1 (Evl.Ex.refl H1)
theorem given_all {n : Nat} {f : Nat → Bool} {v : Nat → V} (h : ∀ i, i < n → f i = true) : Evl.given n f v = (List.range n).map v := by
  unfold Evl.given
  rw [List.filter_eq_self.mpr fun i hi => h i (List.mem_range.mp hi)]
end
end GW
/-! ### readings opened one word at a time -/
namespace GW
open PySem PySem.Spec PyProof.Rows L2
section
variable {K : PySem.W.Frag} {σ : L2.St} {H : Hp} {te ta tb : TE} {tr t : TA} {c : TT} {ts tu : TS} {Q : VK} {D : Ends} {i : Nat}
theorem rd_ret (h : te σ H D.rt) : tRet te D σ H := h
theorem rd_cb {r : List V → Hp → VK → Prop} (h : t σ H fun vs H1 => r vs H1 Q) : tCB r t σ H Q := h
theorem rd_cons {Q : List V → Hp → Prop} (h : te σ H fun x H1 => tr σ H1 fun xs H2 => Q (x :: xs) H2) : tCons te tr σ H Q := h
theorem rd_nil {Q : List V → Hp → Prop} (h : Q [] H) : tNil σ H Q := h
theorem rd_set (h : te σ H fun x H1 => D.nx (σ.set i (some x)) H1) : tAsg te (gName i) D σ H := h
theorem rd_drop (h : te σ H fun _ H1 => D.nx σ H1) : tDrop te D σ H := h
theorem rd_op {r : R2} (h : ta σ H fun x H1 => tb σ H1 fun y H2 => r x y H2 Q) : tOp r ta tb σ H Q := h
theorem rd_fn {sp : Sp} {E : XK} (h : t σ H fun vs H1 => sp vs H1 Q E) : tFn sp E t σ H Q := h
theorem rd_seq (h : ts { D with nx := tu D } σ H) : tSeq ts tu D σ H := h
theorem rd_if (h : c σ H fun b H1 => if b = true then ts D σ H1 else tu D σ H1) : tIfS c ts tu D σ H := h
theorem rd_test {Q : Bool → Hp → Prop} (h : te σ H fun x H' => ∃ k, x = .bl k ∧ Q k H') : tTest te σ H Q := h
theorem rd_B {Q : Bool → Hp → Prop} (h : te σ H fun x H' => ∃ k, x = .bl k ∧ Q k H') : tB te σ H Q := h
theorem rd_lst (h : t σ H fun xs H1 => xs.length ≤ sizeLine ∧ ∀ p, H1 p = none → Q (.ref p) (upd H1 p (.lst xs))) : tLst t σ H Q := h
theorem rd_tup (h : t σ H fun xs H1 => xs.length ≤ sizeLine ∧ ∀ p, H1 p = none → Q (.ref p) (upd H1 p (.tup xs))) : tTup t σ H Q := h
theorem rd_not {Q : Bool → Hp → Prop} (h : c σ H fun b H1 => Q (!b) H1) : tNot c σ H Q := h
theorem rd_bm {T : String} {r : V → List V → Hp → VK → Prop} (h : ta σ H fun x H1 => tyV K T x H1 ∧ t σ H1 fun xs H2 => r x xs H2 Q) : tBM K T r ta t σ H Q := h
theorem rd_forR1 {g : TG} (h : t σ H fun vs H1 => ∃ j : Int, vs = [.int j] ∧ -(2 ^ 62) ≤ j ∧ j < 2 ^ 62 ∧ ∃ W : Nat → Nat → L2.St → Hp → Prop, (∃ m, W 0 m σ H1) ∧ ∀ i m σ H, W i m σ H →
  ((Itr 0 j.toNat).stop i H ∧ D.nx σ H) ∨ ((Itr 0 j.toNat).go i H ∧ ∃ N : L2.St → Hp → Prop, (∀ σ' H', N σ' H' → ∃ m', m' < m ∧ W (i + 1) m' σ' H') ∧ ∀ x H', (Itr 0 j.toNat).yld i H x H' → g x σ H' fun σ2 H2 => ts { D with nx := N, ct := N, bk := D.nx } σ2 H2)) : tFor (iRng1 t) g ts D σ H := h
end
end GW
/-! ### lists of lists that a def grows at r -/
namespace GW
open PySem PySem.Spec PyProof.Rows L2
theorem rd_upd {H : Hp} {a r : Addr} {u o : HO} (n : a ≠ r) (h : Rd H a u) : Rd (upd H r o) a u := by
  rcases h with h | ⟨z, h⟩
  · exact .inl (by rw [upd_ne n]; exact h)
  · exact .inr ⟨z, by rw [upd_ne n]; exact h⟩
theorem sql_upd {K : PySem.W.Frag} {H : Hp} {a r : Addr} {xs : List V} {o : HO} (n : a ≠ r) (h : SqL K H a xs) : SqL K (upd H r o) a xs := by
  rcases h with h | h
  · exact .inl (rd_upd n h)
  · exact .inr h
theorem sqt_upd {K : PySem.W.Frag} {H : Hp} {a r : Addr} {xs : List V} {o : HO} (n : a ≠ r) (h : SqT K H a xs) : SqT K (upd H r o) a xs := by
  rcases h with h | h
  · exact .inl (rd_upd n h)
  · exact .inr h
/-- a list of truths elsewhere than at r -/
def IsBN (K : PySem.W.Frag) (r : Addr) (H : Hp) (v : V) (bs : List Bool) : Prop := ∃ a, v = .ref a ∧ a ≠ r ∧ SqL K H a (LB bs)
theorem IsBN.isB {K : PySem.W.Frag} {r : Addr} {H : Hp} {v : V} {bs : List Bool} (h : IsBN K r H v bs) : IsB K H v bs := by
  obtain ⟨a, e, _, h⟩ := h
  exact ⟨a, e, h⟩
theorem IsBN.mono {K : PySem.W.Frag} {r : Addr} {H H' : Hp} {v : V} {bs : List Bool} (s : Same H H') (h : IsBN K r H v bs) : IsBN K r H' v bs := by
  obtain ⟨a, e, n, h⟩ := h
  exact ⟨a, e, n, s.seq h⟩
theorem IsBN.upd {K : PySem.W.Frag} {r : Addr} {H : Hp} {v : V} {bs : List Bool} {o : HO} (h : IsBN K r H v bs) : IsBN K r (upd H r o) v bs := by
  obtain ⟨a, e, n, h⟩ := h
  exact ⟨a, e, n, sql_upd n h⟩
/-- behind a step that leaves all as it was but the new list at r -/
theorem Same.step {H0 H H' : Hp} {r : Addr} {o : HO} (s : Same H0 H) (s2 : Same H H') (nr : H0 r = none) : Same H0 (L2.upd H' r o) := fun b u e => by
  rw [upd_ne (ne_of_none e nr)]
  exact s2 _ _ (s _ _ e)
end GW
/-! ### isinstance -/
namespace GW
open PySem PySem.Spec PyProof.Rows L2
section
variable {K : PySem.W.Frag} {H : Hp} {Q : VK}
theorem isi_bool {b : Bool} (h : Q (.bl true) H) : rIsi K [.bl b, .ty "bool"] H Q := ⟨_, _, _, _, true, rfl, .ty _, .base (.bl b), kit_ty (a := "bool") (b := "bool") (by decide +kernel), h⟩
theorem isi_int_bool {i : Int} (h : Q (.bl false) H) : rIsi K [.int i, .ty "bool"] H Q := ⟨_, _, _, _, false, rfl, .ty _, .base (.int i), kit_ty (a := "int") (b := "bool") (by decide +kernel), h⟩
theorem isi_int {i : Int} (h : Q (.bl true) H) : rIsi K [.int i, .ty "int"] H Q := ⟨_, _, _, _, true, rfl, .ty _, .base (.int i), kit_ty (a := "int") (b := "int") (by decide +kernel), h⟩
theorem isi_str {x : Str} (h : Q (.bl true) H) : rIsi K [.str x, .ty "str"] H Q := ⟨_, _, _, _, true, rfl, .ty _, .base (.str x), kit_ty (a := "str") (b := "str") (by decide +kernel), h⟩
theorem isi_list {a : Addr} {xs : List V} (e : H a = some (.lst xs)) (h : Q (.bl true) H) : rIsi K [.ref a, .ty "list"] H Q := ⟨_, _, _, _, true, rfl, .ty _, .base (.lst e), kit_ty (a := "list") (b := "list") (by decide +kernel), h⟩
theorem isi_tuple {a : Addr} {xs : List V} (e : H a = some (.tup xs)) (h : Q (.bl true) H) : rIsi K [.ref a, .ty "tuple"] H Q := ⟨_, _, _, _, true, rfl, .ty _, .base (.tup e), kit_ty (a := "tuple") (b := "tuple") (by decide +kernel), h⟩
theorem isi_none {t : String} (hk : kitB "NoneType" t = some false) (h : Q (.bl false) H) : rIsi K [.non, .ty t] H Q := ⟨_, _, _, _, false, rfl, .ty _, .base .non, kit_ty hk, h⟩
end
/-- [a, b] of two data -/
theorem dp_two {K : PySem.W.Frag} {H : Hp} {p : Addr} {x y : V} {d e : PyData} (h : SqL K H p [x, y]) (hx : Dp K H x d) (hy : Dp K H y e) : Dp K H (.ref p) (.list [d, e]) := .lst h (.cons hx (.cons hy .nil))
theorem shp_two {n : Nat} {d e : PyData} (hd : Shp n d) (he : Shp n e) : Shp (n + 1) (.list [d, e]) := shp_list fun x h => by
  rcases List.mem_cons.mp h with h | h
  · rw [h]; exact hd
  · rw [List.mem_singleton.mp h]; exact he
theorem eqv_two (a b c d : PyData) : PyData.eqv (.list [a, b]) (.list [c, d]) = (PyData.eqv a c && (PyData.eqv b d && true)) := by
  rw [eqv_list]
  simp only [PyData.eqvAll]
theorem eqv_same {n : Nat} {d : PyData} (h : Shp n d) : PyData.eqv d d = true := SeqAt.eqv_refl d h.1
end GW
namespace GW
open PySem PySem.Spec PyProof.Rows L2
section
variable {K : PySem.W.Frag}
theorem kBB : PySem.W.kitOne K (.type "bool") (.type "bool") = some true := kit_ty (by decide +kernel)
theorem kIB : PySem.W.kitOne K (.type "int") (.type "bool") = some false := kit_ty (by decide +kernel)
theorem kII : PySem.W.kitOne K (.type "int") (.type "int") = some true := kit_ty (by decide +kernel)
theorem kSS : PySem.W.kitOne K (.type "str") (.type "str") = some true := kit_ty (by decide +kernel)
theorem kLL : PySem.W.kitOne K (.type "list") (.type "list") = some true := kit_ty (by decide +kernel)
theorem kTT : PySem.W.kitOne K (.type "tuple") (.type "tuple") = some true := kit_ty (by decide +kernel)
end
end GW
/-! ### walks of known length, whatever is walked -/
namespace GW
open PySem PySem.Spec PyProof.Rows L2
/-- over any heap that extends H1 the iterator J yields it 0 .. it (n - 1), and stops -/
structure Wk (J : It) (H1 : Hp) (n : Nat) (it : Nat → V) : Prop where
  go : ∀ i H, Same H1 H → i < n → J.go i H
  yl : ∀ i H v H', Same H1 H → i < n → J.yld i H v H' → H' = H ∧ v = it i
  st : ∀ H, Same H1 H → J.stop n H
def itOf (xs : List V) (i : Nat) : V := xs.getD i .non
theorem itOf_at {xs : List V} {i : Nat} (h : i < xs.length) : xs[i]? = some (itOf xs i) := by
  unfold itOf
  rw [List.getD_eq_getElem?_getD, List.getElem?_eq_getElem h]
  rfl
section
variable {K : PySem.W.Frag} {H1 : Hp} {a : Addr} {xs : List V}
theorem wk_list (h : SqL K H1 a xs) : Wk (Itl K a) H1 xs.length (itOf xs) where
  go := fun i H s hi => ⟨xs, _, s.seq h, itOf_at hi⟩
  yl := fun i H v H' s hi y => ⟨y.1, Option.some.inj ((y.2 xs (s.seq h)).symm.trans (itOf_at hi))⟩
  st := fun H s => ⟨xs, s.seq h, Nat.le_refl _⟩
theorem wk_tup (h : SqT K H1 a xs) : Wk (Itt K a) H1 xs.length (itOf xs) where
  go := fun i H s hi => ⟨xs, _, s.tup h, itOf_at hi⟩
  yl := fun i H v H' s hi y => ⟨y.1, Option.some.inj ((y.2 xs (s.tup h)).symm.trans (itOf_at hi))⟩
  st := fun H s => ⟨xs, s.tup h, Nat.le_refl _⟩
theorem wk_rng {n : Nat} : Wk (Itr 0 n) H1 n (fun i => .int (i : Int)) where
  go := fun i H s hi => hi
  yl := fun i H v H' s hi y => ⟨y.1, y.2.trans (by rw [Int.zero_add])⟩
  st := fun H s => Nat.le_refl _
theorem wk_rev (h : SqL K H1 a xs) : Wk (Itv K a xs.length) H1 xs.length (fun i => itOf xs (xs.length - 1 - i)) where
  go := fun i H s hi => ⟨hi, xs, _, s.seq h, itOf_at (by omega)⟩
  yl := fun i H v H' s hi y => ⟨y.1, Option.some.inj ((y.2 xs (s.seq h)).symm.trans (itOf_at (by omega)))⟩
  st := fun H s => Nat.le_refl _
end
section
variable {J : It} {H1 : Hp} {n : Nat} {it : Nat → V} {te : TE} {t : TT} {vs : List Nat} {j : Nat} {σ : L2.St}
/-- a comprehension, its elements told by a relation (D: the new list) -/
theorem lc_R (W : Wk J H1 n it) (f : Nat → Bool) (R : Addr → Nat → V → Hp → Prop) (mono : ∀ D i v H H', Same H H' → R D i v H → R D i v H')
    (hupd : ∀ D i v H acc acc', H D = some (.lst acc) → R D i v H → R D i v (upd H D (.lst acc'))) (hn : n ≤ 40000) (hw : ∀ x, wipe ((wipe σ vs).set j (some x)) vs = wipe σ vs)
    (ht : ∀ (i : Nat) H, Same H1 H → i < n → Evl.EvT t ((wipe σ vs).set j (some (it i))) H (f i))
    (he : ∀ D (i : Nat) H acc (Q : VK), Same H1 H → H D = some (.lst acc) → i < n → f i = true → (∀ v H3, Same H H3 → R D i v H3 → Q v H3) → te ((wipe σ vs).set j (some (it i))) H Q)
    {Qd : Addr → Hp → Prop} (q : ∀ D H' ys, H1 D = none → Same H1 H' → H' D = some (.lst ys) → Paired (fun v i => R D i v H') ys ((List.range n).filter f) → Qd D H') :
    ∀ D, H1 D = none → ∃ W : Nat → Nat → Hp → Prop, (∃ m, W 0 m (upd H1 D (.lst []))) ∧ ∀ i m H, W i m H →
      (J.stop i H ∧ Qd D H) ∨ (J.go i H ∧ ∃ Nx : Hp → Prop, (∀ H', Nx H' → ∃ m', m' < m ∧ W (i + 1) m' H') ∧ ∀ x H', J.yld i H x H' → gName j x (wipe σ vs) H' fun σ2 H2 => wipe σ2 vs = wipe σ vs ∧ t σ2 H2 fun b H3 =>
        if b = true then te σ2 H3 fun y H4 => ∃ acc, H4 D = some (.lst acc) ∧ acc.length < sizeLine ∧ Nx (upd H4 D (.lst (acc ++ [y]))) else Nx H3) := by
  intro D hD
  have flt : ∀ i, (List.range (i + 1)).filter f = (List.range i).filter f ++ (if f i = true then [i] else []) := fun i => by
    rw [List.range_succ, List.filter_append, List.filter_cons, List.filter_nil]
  refine ⟨fun i m H => m = n - i ∧ i ≤ n ∧ Same H1 H ∧ ∃ ys, H D = some (.lst ys) ∧ Paired (fun v i => R D i v H) ys ((List.range i).filter f), ⟨n, rfl, Nat.zero_le _, Same.new hD, [], upd_same, .nil⟩, ?_⟩
  rintro i m H ⟨rfl, hi, sm, ys, eD, pr⟩
  by_cases hlt : i < n
  · refine .inr ⟨W.go i H sm hlt, fun H' => Same H1 H' ∧ ∃ ys, H' D = some (.lst ys) ∧ Paired (fun v i => R D i v H') ys ((List.range (i + 1)).filter f), fun H' ⟨a, b⟩ => ⟨n - (i + 1), by omega, rfl, hlt, a, b⟩, fun x H' y => ?_⟩
    obtain ⟨rfl, rfl⟩ := W.yl i H x H' sm hlt y
    have hys : ys.length < 50000 := by
      rw [Paired.len pr]
      refine Nat.lt_of_le_of_lt (List.length_filter_le _ _) ?_
      rw [List.length_range]; omega
    refine ⟨hw _, ht i H' sm hlt H' (Evl.Ex.refl _) _ fun H3 e3 => ?_⟩
    have e3' : Same H' H3 := e3
    cases hf : f i with
    | false =>
      refine iteF ⟨sm.trans e3', ys, e3 _ _ eD, ?_⟩
      rw [flt, hf]
      rw [if_neg (by decide), List.append_nil]
      exact Paired.imp (fun _ _ z => mono _ _ _ _ _ e3' z) pr
    | true =>
      refine iteT (he D i H3 ys _ (sm.trans e3') (e3 _ _ eD) hlt hf fun v H4 s4 r4 => ⟨ys, s4 _ _ (e3 _ _ eD), szl (by omega), ?_, ys ++ [v], upd_same, ?_⟩)
      · exact ((sm.trans e3').trans s4).mut hD
      · rw [flt, hf, if_pos rfl]
        exact Paired.snoc (R := fun u k => R D k u (upd H4 D (.lst (ys ++ [v])))) (hupd _ _ _ _ _ _ (s4 _ _ (e3 _ _ eD)) r4) (Paired.imp (fun _ _ z => hupd _ _ _ _ _ _ (s4 _ _ (e3 _ _ eD)) (mono _ _ _ _ _ s4 (mono _ _ _ _ _ e3' z))) pr)
  · have e : i = n := by omega
    subst e
    exact .inl ⟨W.st H sm, q D H ys hD sm eD pr⟩
/-- .. its elements plain values -/
theorem lc_P (W : Wk J H1 n it) (f : Nat → Bool) (val : Nat → V) (hn : n ≤ 40000) (hw : ∀ x, wipe ((wipe σ vs).set j (some x)) vs = wipe σ vs)
    (ht : ∀ (i : Nat) H, Same H1 H → i < n → Evl.EvT t ((wipe σ vs).set j (some (it i))) H (f i))
    (he : ∀ (i : Nat) H, Same H1 H → i < n → f i = true → Evl.Ev te ((wipe σ vs).set j (some (it i))) H (val i))
    {Qd : Addr → Hp → Prop} (q : ∀ D H', H1 D = none → Same H1 H' → H' D = some (.lst (Evl.given n f val)) → Qd D H') :
    ∀ D, H1 D = none → ∃ W : Nat → Nat → Hp → Prop, (∃ m, W 0 m (upd H1 D (.lst []))) ∧ ∀ i m H, W i m H →
      (J.stop i H ∧ Qd D H) ∨ (J.go i H ∧ ∃ Nx : Hp → Prop, (∀ H', Nx H' → ∃ m', m' < m ∧ W (i + 1) m' H') ∧ ∀ x H', J.yld i H x H' → gName j x (wipe σ vs) H' fun σ2 H2 => wipe σ2 vs = wipe σ vs ∧ t σ2 H2 fun b H3 =>
        if b = true then te σ2 H3 fun y H4 => ∃ acc, H4 D = some (.lst acc) ∧ acc.length < sizeLine ∧ Nx (upd H4 D (.lst (acc ++ [y]))) else Nx H3) := by
  refine lc_R W f (fun _ i v _ => v = val i) (fun _ _ _ _ _ _ z => z) (fun _ _ _ _ _ _ _ z => z) hn hw ht (fun D i H acc Q s _ hi hf k => he i H s hi hf H (Evl.Ex.refl _) Q fun H2 e2 => k _ H2 e2 rfl) fun D H' ys hD s e pr => q D H' hD s ?_
  rw [e]
  congr 2
  unfold Evl.given
  have : ∀ {ys : List V} {l : List Nat}, Paired (fun v i => v = val i) ys l → ys = l.map val := fun {ys l} p => by
    induction p with
    | nil => rfl
    | cons a _ ih => rw [List.map_cons, ← ih, ← a]
  exact this pr
end
end GW
set_option Elab.async false
set_option linter.all false
set_option maxRecDepth 100000
set_option maxHeartbeats 4000000
/-! Promises and plain functions of the gates' defs; no row. -/
namespace GW
open PySem PySem.Spec PyProof.Rows L2
def okLen (n : Nat) : Bool := n == 2 || n == 4 || n == 8
/-- the names of built-ins that the text leaves alone -/
structure Bl (mg : Str → Option Value) : Prop where
  len : mg "len" = none
  sum : mg "sum" = none
  range : mg "range" = none
  list : mg "list" = none
  tuple : mg "tuple" = none
  isinstance : mg "isinstance" = none
  bool : mg "bool" = none
  int : mg "int" = none
  str : mg "str" = none
  all : mg "all" = none
  any : mg "any" = none
  reversed : mg "reversed" = none
  sorted : mg "sorted" = none
  min : mg "min" = none
  max : mg "max" = none
  dict : mg "dict" = none
/-- the row of some inputs -/
def rowOf : List Bool → Nat
  | [] => 0
  | b :: r => (if b then 1 else 0) + 2 * rowOf r
def wideN (n : Nat) : Nat := if n = 2 then 1 else if n = 4 then 2 else 3
/-- a new list -/
def NewL (H H' : Hp) (v : V) (xs : List V) : Prop := ∃ p, v = .ref p ∧ H p = none ∧ Same H H' ∧ H' p = some (.lst xs)
theorem NewL.isB {K : PySem.W.Frag} {H H' : Hp} {v : V} {bs : List Bool} (h : NewL H H' v (LB bs)) : IsB K H' v bs := by
  obtain ⟨p, rfl, _, _, e⟩ := h
  exact ⟨p, rfl, .inl (.inl e)⟩
def sp_ask_gate (K : PySem.W.Frag) (C : Addr) : Sp := fun vs H Q E => ∃ v g, vs = [v] ∧ IsB K H v g ∧
  (okLen g.length = true → ∀ H', Same H H' → Q .non H') ∧ (okLen g.length = false → ∀ H', Same H H' → E (.ref C) none H')
def sp_row_of (K : PySem.W.Frag) : Sp := fun vs H Q _ => ∃ v g, vs = [v] ∧ IsB K H v g ∧ g.length ≤ 3 ∧ ∀ H', Same H H' → Q (.int (rowOf g)) H'
def sp_answer (K : PySem.W.Frag) (C : Addr) : Sp := fun vs H Q E => ∃ x y g ins, vs = [x, y] ∧ IsB K H x g ∧ IsB K H y ins ∧
  (okLen g.length = true → ins.length = wideN g.length ∧ ∀ H', Same H H' → Q (.bl (g.getD (rowOf ins) false)) H') ∧ (okLen g.length = false → ∀ H', Same H H' → E (.ref C) none H')
def sp_cell_at (K : PySem.W.Frag) : Sp := fun vs H Q _ => ∃ (a : Addr) (ns : List Int) (k : Nat), vs = [.ref a, .int k] ∧ SqL K H a (ns.map V.int) ∧ ∀ z : Int, Q (.int z) H
def sp_next : Sp := fun vs H Q _ => ∃ z : Int, vs = [.int z] ∧ ∀ n : Int, 0 ≤ n → n < 2147483629 → Q (.int n) H
def sp_law_gate (m : Nat) : Sp := fun vs H Q _ => ∃ z : Int, vs = [.int z, .int m] ∧ 0 ≤ z ∧ 1 ≤ m ∧ m ≤ 3 ∧ ∀ v H' g, okLen g.length = true → wideN g.length ≤ m → NewL H H' v (LB g) → Q v H'
def sp_wide (K : PySem.W.Frag) : Sp := fun vs H Q _ => ∃ v g, vs = [v] ∧ IsB K H v g ∧ okLen g.length = true ∧ ∀ H', Same H H' → Q (.int (wideN g.length)) H'
/-- all rows of m inputs, as a law goes through them -/
def rowAt (m r : Nat) : List Bool := (List.range m).map fun k => r / 2 ^ k % 2 == 1
def rowsN (m : Nat) : List (List Bool) := (List.range (2 ^ m)).map (rowAt m)
def sp_law_rows (K : PySem.W.Frag) : Sp := fun vs H Q _ => ∃ m : Nat, vs = [.int m] ∧ 1 ≤ m ∧ m ≤ 3 ∧ ∀ v H', Same H H' → (∃ p us, v = .ref p ∧ H p = none ∧ H' p = some (.lst us) ∧ Paired (IsB K H') us (rowsN m)) → Q v H'
/-- what law(script) promises -/
def spLaw (K : PySem.W.Frag) : Sp := fun vs H Q _ => ∃ (a : Addr) (ns : List Int), vs = [.ref a] ∧ SqL K H a (ns.map V.int) ∧ ns.length ≤ 63 ∧ ∀ H', Q (.bl true) H'
theorem three (P : Int → Prop) (h1 : P 1) (h2 : P 2) (h3 : P 4) : ∀ k : Nat, k < 3 → ∃ v : Int, ([V.int 1, V.int 2, V.int 4] : List V)[k]? = some (.int v) ∧ v = 2 ^ k ∧ P v
  | 0, _ => ⟨1, rfl, rfl, h1⟩
  | 1, _ => ⟨2, rfl, rfl, h2⟩
  | 2, _ => ⟨4, rfl, rfl, h3⟩
  | k + 3, h => by omega
end GW
namespace GW
open PySem PySem.Spec PyProof.Rows L2
theorem inV_len (n : Nat) : inV (V.int (n : Int)) [V.int 2, V.int 4, V.int 8] = okLen n := by
  have h : ∀ m : Nat, eqV (V.int (m : Int)) (V.int (n : Int)) = (n == m) := fun m => by
    show decide ((m : Int) = (n : Int)) = decide (n = m)
    by_cases e : n = m
    · rw [decide_eq_true e, decide_eq_true (by omega)]
    · rw [decide_eq_false e, decide_eq_false (by omega)]
  show ([V.int 2, V.int 4, V.int 8].any fun y => eqV y (V.int (n : Int))) = okLen n
  rw [List.any_cons, List.any_cons, List.any_cons, List.any_nil]
  have h2 := h 2; have h4 := h 4; have h8 := h 8
  rw [show (V.int 2) = V.int ((2 : Nat) : Int) from rfl, show (V.int 4) = V.int ((4 : Nat) : Int) from rfl, show (V.int 8) = V.int ((8 : Nat) : Int) from rfl, h2, h4, h8]
  unfold okLen
  cases (n == 2) <;> cases (n == 4) <;> cases (n == 8) <;> rfl
end GW
namespace GW
open PySem PySem.Spec PyProof.Rows L2
theorem wide_le (n : Nat) : wideN n ≤ 3 := by
  unfold wideN
  split
  · omega
  · split <;> omega
theorem wide_pos (n : Nat) : 1 ≤ wideN n := by
  unfold wideN
  split
  · omega
  · split <;> omega
theorem okLen_cases {n : Nat} (h : okLen n = true) : n = 2 ∨ n = 4 ∨ n = 8 := by
  unfold okLen at h
  simp only [Bool.or_eq_true, beq_iff_eq] at h
  omega
theorem wide_pow {n : Nat} (h : okLen n = true) : 2 ^ wideN n = n := by
  rcases okLen_cases h with e | e | e <;> subst e <;> rfl
theorem rowOf_lt : ∀ ins : List Bool, rowOf ins < 2 ^ ins.length
  | [] => by decide
  | b :: r => by
    have h := rowOf_lt r
    show (if b then 1 else 0) + 2 * rowOf r < 2 ^ (r.length + 1)
    rw [Nat.pow_succ]
    cases b with
    | true =>
      show 1 + 2 * rowOf r < _
      omega
    | false =>
      show 0 + 2 * rowOf r < _
      omega
theorem row_lt {g ins : List Bool} (h : okLen g.length = true) (hl : ins.length = wideN g.length) : rowOf ins < g.length := by
  have q := rowOf_lt ins
  rw [hl, wide_pow h] at q
  exact q
/-- 1, 2, 4 -/
def bitN : Nat → Int
  | 0 => 1
  | 1 => 2
  | 2 => 4
  | _ => 0
theorem bit_at : ∀ {i : Nat}, i < 3 → ([.int 1, .int 2, .int 4] : List V)[i]? = some (.int (bitN i))
  | 0, _ => rfl
  | 1, _ => rfl
  | 2, _ => rfl
  | i + 3, h => by omega
theorem row_sum : ∀ {g : List Bool}, g.length ≤ 3 → (rowOf g : Int) = (((List.range g.length).filter fun i => g.getD i false).map bitN).sum
  | [], _ => rfl
  | [a], _ => by cases a <;> rfl
  | [a, b], _ => by cases a <;> cases b <;> rfl
  | [a, b, c], _ => by cases a <;> cases b <;> cases c <;> rfl
  | _ :: _ :: _ :: _ :: _, h => by simp at h
theorem okLen_le {n : Nat} (h : okLen n = true) : n ≤ 8 := by
  rcases okLen_cases h with e | e | e <;> omega
theorem size_at (z : Int) {m : Nat} (h1 : 1 ≤ m) (h3 : m ≤ 3) : ∃ n : Nat, okLen n = true ∧ wideN n ≤ m ∧ atI [V.int 2, V.int 4, V.int 8] (z % (m : Int)) = some (V.int (n : Int)) := by
  have a := Int.emod_nonneg z (show (m : Int) ≠ 0 by omega)
  have b := Int.emod_lt_of_pos z (show (0 : Int) < (m : Int) by omega)
  have c : z % (m : Int) = 0 ∨ (z % (m : Int) = 1 ∧ 2 ≤ m) ∨ (z % (m : Int) = 2 ∧ 3 ≤ m) := by omega
  rcases c with c | ⟨c, d⟩ | ⟨c, d⟩
  · exact ⟨2, rfl, h1, by rw [c]; exact atI_nat (j := 0) rfl⟩
  · exact ⟨4, rfl, d, by rw [c]; exact atI_nat (j := 1) rfl⟩
  · exact ⟨8, rfl, d, by rw [c]; exact atI_nat (j := 2) rfl⟩
end GW
namespace GW
open PySem PySem.Spec PyProof.Rows L2
theorem row_bit : ∀ {k r : Nat}, k < 3 → decide (V.int ((r : Int) / bitN k % 2) = V.int 1) = (r / 2 ^ k % 2 == 1)
  | 0, r, _ => by
    show decide (V.int ((r : Int) / 1 % 2) = V.int 1) = decide (r / 1 % 2 = 1)
    exact decide_eq_decide.mpr ⟨fun h => by have := V.int.inj h; omega, fun h => congrArg V.int (by omega)⟩
  | 1, r, _ => by
    show decide (V.int ((r : Int) / 2 % 2) = V.int 1) = decide (r / 2 % 2 = 1)
    exact decide_eq_decide.mpr ⟨fun h => by have := V.int.inj h; omega, fun h => congrArg V.int (by omega)⟩
  | 2, r, _ => by
    show decide (V.int ((r : Int) / 4 % 2) = V.int 1) = decide (r / 4 % 2 = 1)
    exact decide_eq_decide.mpr ⟨fun h => by have := V.int.inj h; omega, fun h => congrArg V.int (by omega)⟩
  | k + 3, _, h => by omega
theorem bit_div : ∀ {k : Nat} (r : Int), k < 3 → CDiv r (bitN k)
  | 0, _, _ => ⟨by decide, by decide⟩
  | 1, _, _ => ⟨by decide, by decide⟩
  | 2, _, _ => ⟨by decide, by decide⟩
  | k + 3, _, h => by omega
theorem rows_len {m : Nat} : (rowsN m).length = 2 ^ m := by
  unfold rowsN
  rw [List.length_map, List.length_range]
theorem rowAt_len {m r : Nat} : (rowAt m r).length = m := by
  unfold rowAt
  rw [List.length_map, List.length_range]
theorem rows_at {m i : Nat} (h : i < 2 ^ m) : (rowsN m)[i]? = some (rowAt m i) := by
  unfold rowsN
  rw [List.getElem?_map, List.getElem?_range h]
  rfl
theorem rows_take {m i : Nat} (h : i < 2 ^ m) : (rowsN m).take (i + 1) = (rowsN m).take i ++ [rowAt m i] := by
  rw [List.take_add_one, rows_at h]
  rfl
/-- the row that the inputs of a row count to is the row -/
theorem rowOf_at {m i : Nat} (hm : m ≤ 3) (h : i < 2 ^ m) : rowOf (rowAt m i) = i := by
  match m, hm with
  | 0, _ => match i, h with | 0, _ => rfl
  | 1, _ => match i, h with | 0, _ => rfl | 1, _ => rfl
  | 2, _ => match i, h with | 0, _ => rfl | 1, _ => rfl | 2, _ => rfl | 3, _ => rfl
  | 3, _ => match i, h with | 0, _ => rfl | 1, _ => rfl | 2, _ => rfl | 3, _ => rfl | 4, _ => rfl | 5, _ => rfl | 6, _ => rfl | 7, _ => rfl
theorem pow_at {m : Nat} (h1 : 1 ≤ m) (h3 : m ≤ 3) : atI [V.int 2, V.int 4, V.int 8] ((m : Int) - 1) = some (V.int ((2 ^ m : Nat) : Int)) := by
  have : m = 1 ∨ m = 2 ∨ m = 3 := by omega
  rcases this with e | e | e <;> subst e
  · exact atI_nat (j := 0) rfl
  · exact atI_nat (j := 1) rfl
  · exact atI_nat (j := 2) rfl
theorem pow_le {m : Nat} (h3 : m ≤ 3) : 2 ^ m ≤ 8 := by
  have : m = 0 ∨ m = 1 ∨ m = 2 ∨ m = 3 := by omega
  rcases this with e | e | e | e <;> subst e <;> decide
end GW
namespace GW
open PySem PySem.Spec PyProof.Rows L2
def contr (g : List Bool) : List Bool := g.reverse.map not
def sp_contrary (K : PySem.W.Frag) (C : Addr) : Sp := fun vs H Q E => ∃ v g, vs = [v] ∧ IsB K H v g ∧
  (okLen g.length = true → ∀ v H', NewL H H' v (LB (contr g)) → Q v H') ∧ (okLen g.length = false → ∀ H', Same H H' → E (.ref C) none H')
def sp_law_truths (K : PySem.W.Frag) : Sp := fun vs H Q _ => ∃ a y f g, vs = [.ref a, y] ∧ H a = some (.lst (LB f)) ∧ IsB K H y g ∧ f.length ≤ 40000 ∧ ∀ H', Same H H' → Q (.bl (decide (f = g))) H'
theorem all_true {n : Nat} : ((List.range n).map fun _ => true).all id = true := by
  rw [List.all_eq_true]
  intro x hx
  obtain ⟨_, _, rfl⟩ := List.mem_map.mp hx
  rfl
theorem contr_len (g : List Bool) : (contr g).length = g.length := by
  unfold contr
  rw [List.length_map, List.length_reverse]
theorem contr_contr (g : List Bool) : contr (contr g) = g := by
  unfold contr
  rw [← List.map_reverse, List.reverse_reverse, List.map_map]
  conv => rhs; rw [← List.map_id g]
  exact List.map_congr_left fun b _ => Bool.not_not b
theorem contr_at {g : List Bool} {i : Nat} (h : i < g.length) : (contr g).getD i false = !g.getD (g.length - 1 - i) false := by
  unfold contr
  rw [List.getD_eq_getElem?_getD, List.getElem?_map, List.getElem?_reverse h, List.getD_eq_getElem?_getD, List.getElem?_eq_getElem (show g.length - 1 - i < g.length by omega)]
  rfl
theorem map_getD (g : List Bool) : (List.range g.length).map (fun i => g.getD i false) = g := by
  apply List.ext_getElem
  · rw [List.length_map, List.length_range]
  · intro i h1 h2
    rw [List.getElem_map, List.getElem_range, List.getD_eq_getElem?_getD, List.getElem?_eq_getElem h2]
    rfl
theorem contr_map (g : List Bool) : (List.range g.length).map (fun i => !g.getD (g.length - 1 - i) false) = contr g := by
  rw [← map_getD (contr g), contr_len]
  exact List.map_congr_left fun i hi => (contr_at (List.mem_range.mp hi)).symm
theorem itOf_lb {g : List Bool} {i : Nat} (h : i < g.length) : itOf (LB g) i = .bl (g.getD i false) := by
  have a := itOf_at (xs := LB g) (i := i) (by rw [lb_len]; exact h)
  rw [lb_get h] at a
  exact (Option.some.inj a).symm
end GW
namespace GW
open PySem PySem.Spec PyProof.Rows L2
def topS (i : Nat) : Stmt := PySem.Challenge.pw_gatewhole_k02_contrary.main.body.getD i (.Pass ⟨0, 0, 0, 0⟩)
abbrev s_ask_gate : Stmt := topS 4
theorem sc_ask_gate : FnScope ["gate"] ["gate"] (defScope s_ask_gate) := ⟨rfl, rfl, rfl, by decide +kernel, rfl, by decide +kernel, by decide +kernel⟩
abbrev s_contrary : Stmt := topS 5
theorem sc_contrary : FnScope ["gate", "one"] ["gate"] (defScope s_contrary) := ⟨rfl, rfl, rfl, by decide +kernel, rfl, by decide +kernel, by decide +kernel⟩
abbrev s__law_cell_at : Stmt := topS 7
theorem sc__law_cell_at : FnScope ["script", "k"] ["script", "k"] (defScope s__law_cell_at) := ⟨rfl, rfl, rfl, by decide +kernel, rfl, by decide +kernel, by decide +kernel⟩
abbrev s__law_next : Stmt := topS 8
theorem sc__law_next : FnScope ["seed"] ["seed"] (defScope s__law_next) := ⟨rfl, rfl, rfl, by decide +kernel, rfl, by decide +kernel, by decide +kernel⟩
abbrev s__law_gate : Stmt := topS 9
theorem sc__law_gate : FnScope ["seed", "most", "size", "way", "found", "left", "row"] ["seed", "most"] (defScope s__law_gate) := ⟨rfl, rfl, rfl, by decide +kernel, rfl, by decide +kernel, by decide +kernel⟩
abbrev s__law_truths : Stmt := topS 10
theorem sc__law_truths : FnScope ["found", "due", "one"] ["found", "due"] (defScope s__law_truths) := ⟨rfl, rfl, rfl, by decide +kernel, rfl, by decide +kernel, by decide +kernel⟩
abbrev s_law : Stmt := topS 11
theorem sc_law : FnScope ["script", "gate", "due", "handed", "found", "row"] ["script"] (defScope s_law) := ⟨rfl, rfl, rfl, by decide +kernel, rfl, by decide +kernel, by decide +kernel⟩
end GW
namespace GW
open PySem PySem.Spec PyProof.Rows L2
section
variable {P : Program} {w : World} {K : PySem.W.Frag} {mg : Str → Option Value} {base : Heap}
theorem ok_ask_gate {C : Addr} (D : Def K mg "ask_gate" s_ask_gate ["gate"]) (B : Bl mg) (e_NoGate : ErrC K mg "NoGate" C) : Fn P w K mg base (L2.CX P w) 1 "ask_gate" ["gate"] (sp_ask_gate K C) := by
  have m_len := B.len
  refine D.fn fun f fd F => F.okX sc_ask_gate (fun vs H Q E h => ?_) (fun cdv A outer s H vs Q E hr h => ?_)
  · obtain ⟨a, ns, rfl, _⟩ := h
    rfl
  obtain ⟨v, g, rfl, ⟨a, rfl, hS⟩, q1, q2⟩ := h
  refine ⟨_, (pss_one (ps_if (pt_cmpR (notInS (K := K)) (pe_callB (lenS (K := K)) (by rfl) m_len PySem.boot_len (pa_cons (pv 0) pa_nil)) (pe_tup (pa_cons pe_int (pa_cons pe_int (pa_cons pe_int pa_nil)))) (by rfl)) (pss_one (ps_raise rfl (takes_of rfl rfl rfl rfl) (pmk_own PySem.F.excBase_ValueError e_NoGate.x e_NoGate.g e_NoGate.k (raises_own e_NoGate.b e_NoGate.t) rfl))) pss_nil)), ?_⟩
  refine ⟨_, rfl, a, _, rfl, .inl hS, by show 3 ≤ sizeLine; decide, fun p np => ⟨p, _, rfl, .inr (SqT.of upd_same), rfl, rfl, _, rfl, ?_⟩⟩
  show if (if true = true then !inV (V.int ((LB g).length : Int)) [V.int 2, V.int 4, V.int 8] else inV (V.int ((LB g).length : Int)) [V.int 2, V.int 4, V.int 8]) = true then _ else _
  rw [if_pos rfl, inV_len, lb_len]
  cases e : okLen g.length with
  | true => exact iteF (q1 e _ (Same.new np))
  | false => exact iteT (q2 e _ (Same.new np))
theorem ok_contrary {C : Addr} (D : Def K mg "contrary" s_contrary ["gate"]) (B : Bl mg) (G_ask_gate : Fn P w K mg base (L2.CX P w) 1 "ask_gate" ["gate"] (sp_ask_gate K C)) :
    Fn P w K mg base (L2.CX P w) 2 "contrary" ["gate"] (sp_contrary K C) := by
  have m_reversed := B.reversed
  refine D.fn fun f fd F => F.okX sc_contrary (fun vs H Q E h => ?_) (fun cdv A outer s H vs Q E hr h => ?_)
  · obtain ⟨a, b, rfl, _⟩ := h
    rfl
  obtain ⟨v, g, rfl, ⟨a, rfl, hS⟩, q1, q2⟩ := h
  refine ⟨_, (pss_cons (ps_expr (pe_fn G_ask_gate (hr.mono (by decide)) (by rfl) (passes_call (takes_of rfl rfl rfl rfl) fun _ _ _ _ h => h) (pa_cons (pv 0) pa_nil)))
  (pss_one (ps_ret (pe_lc (own := [("one", 1)]) (g := gName 1) (tt := tYes) rfl sc_contrary.nd (pi_reversed (by rfl) m_reversed (pa_cons (pv 0) pa_nil)) (blkOk_by (N := ["gate", "one"]) (sc := defScope s_contrary) (by decide +kernel)) (fun _ _ _ _ _ => pg_name (i := 1) sc_contrary.nd rfl (Or.inl rfl)) (fun _ _ _ _ _ => pts_nil) (fun _ _ _ _ _ => (pe_not (pv 1))))))), ?_⟩
  refine ⟨_, rfl, .ref a, g, rfl, ⟨a, rfl, hS⟩, fun e H1 s1 => ?_, fun e H' s1 => q2 e H' s1⟩
  have hl8 := okLen_le e
  refine ⟨_, rfl, a, _, rfl, s1.seq hS, lc_P (wk_rev (s1.seq hS)) (fun _ => true) (fun i => .bl (!g.getD (g.length - 1 - i) false)) (by rw [lb_len]; omega) (fun _ => rfl) (fun i H2 _ _ => et_yes) (fun i H2 _ hi _ => ?_) (fun D H' nD s2 e2 => ?_)⟩
  · rw [lb_len] at hi ⊢
    rw [itOf_lb (by omega)]
    exact Evl.ev_notV (Evl.ev_var rfl)
  · rw [given_all (fun _ _ => rfl), lb_len, map_bl, contr_map] at e2
    exact q1 e _ _ ⟨D, rfl, s1.free nD, s1.trans s2, e2⟩
theorem ok_cell_at (D : Def K mg "_law_cell_at" s__law_cell_at ["script", "k"]) (B : Bl mg) : Fn P w K mg base CX0 1 "_law_cell_at" ["script", "k"] (sp_cell_at K) := by
  have m_len := B.len
  refine D.fn fun f fd F => F.ok sc__law_cell_at (fun vs H Q E h => ?_) (fun cdv A outer s H vs Q E hr h => ?_)
  · obtain ⟨a, ns, k, rfl, _⟩ := h
    rfl
  obtain ⟨a, ns, k, rfl, hS, q⟩ := h
  refine ⟨_, (pss_cons (ps_if (pt_cmpR op_lt (pv 1) (pe_callB (lenS (K := K)) (by rfl) m_len PySem.boot_len (pa_cons (pv 0) pa_nil)) (nomark _)) (pss_one (ps_ret (pe_ix (ixL (K := K)) (pv 0) (pv 1) (fun _ _ => rfl)))) pss_nil)
  (pss_one (ps_ret pe_int))), ?_⟩
  refine ⟨_, rfl, _, rfl, a, _, rfl, .inl hS, _, _, rfl, rfl, _, rfl, ite2 (fun c => ?_) (fun c => q 0)⟩
  have c' : (k : Int) < (((ns.map V.int).length : Nat) : Int) := of_decide_eq_true c
  rw [List.length_map] at c'
  have hk : k < ns.length := by omega
  exact ⟨_, rfl, _, rfl, a, _, k, _, rfl, rfl, hS, atI_nat (by rw [List.getElem?_map, List.getElem?_eq_getElem hk]; rfl), q _⟩
theorem ok_next (D : Def K mg "_law_next" s__law_next ["seed"]) : Fn P w K mg base CX0 1 "_law_next" ["seed"] sp_next := by
  refine D.fn fun f fd F => F.ok sc__law_next (fun vs H Q E h => ?_) (fun cdv A outer s H vs Q E hr h => ?_)
  · obtain ⟨z, rfl, _⟩ := h
    rfl
  obtain ⟨z, rfl, q⟩ := h
  refine ⟨_, (pss_cons (ps_set (i := 0) sc__law_next.nd rfl (Or.inl rfl) (pe_op op_mod (pe_op op_add (pv 0) pe_int) pe_int))
  (pss_one (ps_ret (pe_op op_mod (pe_op op_add (pe_op op_add (pe_op op_mul (pv 0) (pv 0)) (pe_op op_mul pe_int (pv 0))) pe_int) pe_int)))), ?_⟩
  have h1 := Int.emod_nonneg (z + 7919) (show (2147483647 : Int) ≠ 0 by decide)
  have h2 := Int.emod_lt_of_pos (z + 7919) (show (0 : Int) < 2147483647 by decide)
  refine ⟨_, rfl, _, _, rfl, rfl, _, _, rfl, rfl, (by show (0 : Int) < 2147483647; decide), ?_⟩
  refine ⟨_, rfl, _, rfl, _, _, rfl, rfl, .inl ⟨by omega, by omega⟩, _, rfl, _, _, rfl, rfl, .inl ⟨by decide, by decide⟩, _, _, rfl, rfl, _, _, rfl, rfl, _, _, rfl, rfl, (by show (0 : Int) < 2147483629; decide), ?_⟩
  exact q _ (Int.emod_nonneg _ (by decide)) (Int.emod_lt_of_pos _ (by decide))
theorem ok_law_gate (D : Def K mg "_law_gate" s__law_gate ["seed", "most"]) (B : Bl mg) (m : Nat) : Fn P w K mg base CX0 1 "_law_gate" ["seed", "most"] (sp_law_gate m) := by
  have m_range := B.range
  refine D.fn fun f fd F => F.ok sc__law_gate (fun vs H Q E h => ?_) (fun cdv A outer s H vs Q E hr h => ?_)
  · obtain ⟨z, rfl, _⟩ := h
    rfl
  obtain ⟨z, rfl, hz, h1, h3, q⟩ := h
  refine ⟨_, (pss_cons (ps_set (i := 2) sc__law_gate.nd rfl (Or.inr rfl) (pe_ix (ixL (K := K)) (pe_lst (pa_cons pe_int (pa_cons pe_int (pa_cons pe_int pa_nil)))) (pe_op op_mod (pe_op op_fdiv (pv 0) pe_int) (pv 1)) (fun _ _ => rfl)))
  (pss_cons (ps_set (i := 3) sc__law_gate.nd rfl (Or.inl rfl) (pe_op op_mod (pe_op op_fdiv (pv 0) pe_int) pe_int))
  (pss_cons (ps_if (pt_cmpR op_eq (pv 3) pe_int (nomark _)) (pss_one (ps_ret (pe_lc (own := [("row", 6)]) (g := gName 6) (tt := tYes) rfl sc__law_gate.nd (pi_range1 (by rfl) m_range (pa_cons (pv 2) pa_nil)) (blkOk_by (N := ["seed", "most", "size", "way", "found", "left", "row"]) (sc := defScope s__law_gate) (by decide +kernel)) (fun _ _ _ _ _ => pg_name (i := 6) sc__law_gate.nd rfl (Or.inl rfl)) (fun _ _ _ _ _ => pts_nil) (fun _ _ _ _ _ => (pe_cmpR op_eq (pe_op op_mod (pv 6) pe_int) (pe_op op_mod (pe_op op_fdiv (pv 0) pe_int) pe_int) (nomark _)))))) pss_nil)
  (pss_cons (ps_if (pt_cmpR op_eq (pv 3) pe_int (nomark _)) (pss_one (ps_ret (pe_lc (own := [("row", 6)]) (g := gName 6) (tt := tYes) rfl sc__law_gate.nd (pi_range1 (by rfl) m_range (pa_cons (pv 2) pa_nil)) (blkOk_by (N := ["seed", "most", "size", "way", "found", "left", "row"]) (sc := defScope s__law_gate) (by decide +kernel)) (fun _ _ _ _ _ => pg_name (i := 6) sc__law_gate.nd rfl (Or.inl rfl)) (fun _ _ _ _ _ => pts_nil) (fun _ _ _ _ _ => (pe_cmpR op_eq (pv 6) (pe_op op_sub (pv 2) pe_int) (nomark _)))))) pss_nil)
  (pss_cons (ps_if (pt_cmpR op_eq (pv 3) pe_int (nomark _)) (pss_one (ps_ret (pe_lc (own := [("row", 6)]) (g := gName 6) (tt := tYes) rfl sc__law_gate.nd (pi_range1 (by rfl) m_range (pa_cons (pv 2) pa_nil)) (blkOk_by (N := ["seed", "most", "size", "way", "found", "left", "row"]) (sc := defScope s__law_gate) (by decide +kernel)) (fun _ _ _ _ _ => pg_name (i := 6) sc__law_gate.nd rfl (Or.inl rfl)) (fun _ _ _ _ _ => pts_nil) (fun _ _ _ _ _ => (pe_cmpR op_gt (pv 6) pe_int (nomark _)))))) pss_nil)
  (pss_cons (ps_if (pt_cmpR op_eq (pv 3) pe_int (nomark _)) (pss_one (ps_ret (pe_lc (own := [("row", 6)]) (g := gName 6) (tt := tYes) rfl sc__law_gate.nd (pi_range1 (by rfl) m_range (pa_cons (pv 2) pa_nil)) (blkOk_by (N := ["seed", "most", "size", "way", "found", "left", "row"]) (sc := defScope s__law_gate) (by decide +kernel)) (fun _ _ _ _ _ => pg_name (i := 6) sc__law_gate.nd rfl (Or.inl rfl)) (fun _ _ _ _ _ => pts_nil) (fun _ _ _ _ _ => (pe_cmpR op_eq (pe_op op_mod (pe_op op_add (pe_op op_add (pv 6) (pe_op op_fdiv (pv 6) pe_int)) (pe_op op_fdiv (pv 6) pe_int)) pe_int) (pe_op op_mod (pe_op op_fdiv (pv 0) pe_int) pe_int) (nomark _)))))) pss_nil)
  (pss_cons (ps_if (PW.pt (pw_and (pt_cmpR op_eq (pv 3) pe_int (nomark _)) (pw_and1 (pt_cmpR op_eq (pv 2) pe_int (nomark _))))) (pss_one (ps_ret (pe_lc (own := [("row", 6)]) (g := gName 6) (tt := tYes) rfl sc__law_gate.nd (pi_range1 (by rfl) m_range (pa_cons (pv 2) pa_nil)) (blkOk_by (N := ["seed", "most", "size", "way", "found", "left", "row"]) (sc := defScope s__law_gate) (by decide +kernel)) (fun _ _ _ _ _ => pg_name (i := 6) sc__law_gate.nd rfl (Or.inl rfl)) (fun _ _ _ _ _ => pts_nil) (fun _ _ _ _ _ => (pe_cmpR (inS (K := K)) (pv 6) (pe_tup (pa_cons pe_int (pa_cons pe_int (pa_cons pe_int (pa_cons pe_int pa_nil))))) (by rfl)))))) pss_nil)
  (pss_cons (ps_set (i := 4) sc__law_gate.nd rfl (Or.inl rfl) (pe_lst pa_nil))
  (pss_cons (ps_set (i := 5) sc__law_gate.nd rfl (Or.inl rfl) (pe_op op_fdiv (pv 0) pe_int))
  (pss_cons (ps_for PassesOwn.never rfl (pi_range1 (by rfl) m_range (pa_cons (pv 2) pa_nil)) (pg_name (i := 6) sc__law_gate.nd rfl (Or.inl rfl))
  (pss_cons (ps_expr (pe_bm PySem.F.plainAttrs_list PySem.F.slot_list_append PySem.F.type_list_append mt_append (pv 4) (pa_cons (pe_cmpR op_eq (pe_op op_mod (pv 5) pe_int) pe_int (nomark _)) pa_nil)))
  (pss_one (ps_set (i := 5) sc__law_gate.nd rfl (Or.inl rfl) (pe_op op_fdiv (pv 5) pe_int)))))
  (pss_one (ps_ret (pv 4))))))))))))), ?_⟩
  -- size
  refine ⟨by show 3 ≤ sizeLine; decide, fun p np => ?_⟩
  have s0 : Same H (upd H p (.lst [.int 2, .int 4, .int 8])) := Same.new np
  obtain ⟨n, hn, hw, ha⟩ := size_at (z / 7) (m := m) h1 h3
  refine ⟨_, rfl, _, _, rfl, rfl, ⟨by decide, by decide⟩, _, rfl, _, _, rfl, rfl, (by show (0 : Int) < (m : Int); omega), p, _, _, _, rfl, rfl, SqL.of upd_same, ha, ?_⟩
  have hn8 : n ≤ 8 := okLen_le hn
  revert s0
  generalize upd H p (.lst [.int 2, .int 4, .int 8]) = H1
  intro s0
  have fin : ∀ (f : Nat → Bool) (r : Addr) (H' : Hp), H1 r = none → Same H1 H' → H' r = some (.lst (Evl.given ((n : Int)).toNat (fun _ => true) (fun i => .bl (f i)))) → Q (.ref r) H' := fun f r H' nr s1 e => by
    rw [given_all fun _ _ => rfl, show ((n : Int)).toNat = n by omega] at e
    rw [map_bl] at e
    refine q _ H' ((List.range n).map f) ?_ ?_ ⟨r, rfl, s0.free nr, s0.trans s1, e⟩
    · rw [List.length_map, List.length_range]; exact hn
    · rw [List.length_map, List.length_range]; exact hw
  -- way
  refine ⟨_, rfl, _, _, rfl, rfl, ⟨by decide, by decide⟩, _, _, rfl, rfl, (by show (0 : Int) < 6; decide), ?_⟩
  have bnd : (0 : Int) ≤ (n : Int) ∧ (n : Int) ≤ 40000 := by omega
  refine ⟨_, rfl, rfl, _, rfl, ite2 (fun _ => ?_) (fun _ => ?_)⟩
  · refine rd_ret ?_
    refine lcR1 (n : Int) (fun _ => true) (fun i => .bl (decide (V.int ((i : Int) % 2) = V.int (z / 126 % 2)))) bnd (Evl.ea_cons (Evl.ev_var rfl) Evl.ea_nil) (fun _ => rfl) (fun i H1 e hi => et_yes) (fun i H1 e hi _ => ?_) (fun r H' nr s1 e => fin _ r H' nr s1 e)
    exact Evl.ev_op (Evl.ev_op (Evl.ev_var rfl) Evl.ev_c (Evl.rv_I (by show (0 : Int) < 2; decide))) (Evl.ev_op (Evl.ev_op (Evl.ev_var rfl) Evl.ev_c (Evl.rv_I ⟨by decide, by decide⟩)) Evl.ev_c (Evl.rv_I (by show (0 : Int) < 2; decide))) (Evl.rv_eq rfl)
  refine ⟨_, rfl, rfl, _, rfl, ite2 (fun _ => ?_) (fun _ => ?_)⟩
  · refine rd_ret ?_
    refine lcR1 (n : Int) (fun _ => true) (fun i => .bl (decide (V.int (i : Int) = V.int ((n : Int) - 1)))) bnd (Evl.ea_cons (Evl.ev_var rfl) Evl.ea_nil) (fun _ => rfl) (fun i H1 e hi => et_yes) (fun i H1 e hi _ => ?_) (fun r H' nr s1 e => fin _ r H' nr s1 e)
    exact Evl.ev_op (Evl.ev_var rfl) (Evl.ev_op (Evl.ev_var rfl) Evl.ev_c Evl.rv_I0) (Evl.rv_eq rfl)
  refine ⟨_, rfl, rfl, _, rfl, ite2 (fun _ => ?_) (fun _ => ?_)⟩
  · refine rd_ret ?_
    refine lcR1 (n : Int) (fun _ => true) (fun i => .bl (decide ((0 : Int) < (i : Int)))) bnd (Evl.ea_cons (Evl.ev_var rfl) Evl.ea_nil) (fun _ => rfl) (fun i H1 e hi => et_yes) (fun i H1 e hi _ => ?_) (fun r H' nr s1 e => fin _ r H' nr s1 e)
    exact Evl.ev_op (Evl.ev_var rfl) Evl.ev_c (Evl.rv_I0 (g := fun i j => .bl (decide (j < i))))
  refine ⟨_, rfl, rfl, _, rfl, ite2 (fun _ => ?_) (fun _ => ?_)⟩
  · refine rd_ret ?_
    refine lcR1 (n : Int) (fun _ => true) (fun i => .bl (decide (V.int (((i : Int) + (i : Int) / 2 + (i : Int) / 4) % 2) = V.int (z / 126 % 2)))) bnd (Evl.ea_cons (Evl.ev_var rfl) Evl.ea_nil) (fun _ => rfl) (fun i H1 e hi => et_yes) (fun i H1 e hi _ => ?_) (fun r H' nr s1 e => fin _ r H' nr s1 e)
    exact Evl.ev_op (Evl.ev_op (Evl.ev_op (Evl.ev_op (Evl.ev_var rfl) (Evl.ev_op (Evl.ev_var rfl) Evl.ev_c (Evl.rv_I ⟨by decide, by decide⟩)) Evl.rv_I0) (Evl.ev_op (Evl.ev_var rfl) Evl.ev_c (Evl.rv_I ⟨by decide, by decide⟩)) Evl.rv_I0) Evl.ev_c (Evl.rv_I (by show (0 : Int) < 2; decide))) (Evl.ev_op (Evl.ev_op (Evl.ev_var rfl) Evl.ev_c (Evl.rv_I ⟨by decide, by decide⟩)) Evl.ev_c (Evl.rv_I (by show (0 : Int) < 2; decide))) (Evl.rv_eq rfl)
  have loop : tSeq (tAsg (tLst tNil) (gName 4)) (tSeq (tAsg (tOp (rI CDiv fun i j => .int (i / j)) (tVar 0) (tC (.int 126))) (gName 5)) (tSeq (tFor (iRng1 (tCons (tVar 2) tNil)) (gName 6) (tSeq (tDrop (tBM K "list" rAppend (tVar 4) (tCons (tOp rEq (tOp (rI (fun _ j => 0 < j) fun i j => .int (i % j)) (tVar 5) (tC (.int 2))) (tC (.int 1))) tNil)))
      (tAsg (tOp (rI CDiv fun i j => .int (i / j)) (tVar 5) (tC (.int 2))) (gName 5)))) (tRet (tVar 4)))) { nx := fun _ H' => Q .non H', rt := Q } [some (.int z), some (.int m), some (.int n), some (.int (z / 21 % 6)), none, none, none] H1 := by
    refine ⟨by show 0 ≤ sizeLine; decide, fun r nr => ?_⟩
    refine ⟨_, rfl, _, _, rfl, rfl, ⟨by decide, by decide⟩, ?_⟩
    refine ⟨_, rfl, (n : Int), rfl, by omega, by omega, for_range (lo := 0) (n := ((n : Int)).toNat) (fun i σ H' => ∃ (bs : List Bool) (l : Int) (x : Option V), σ = [some (.int z), some (.int m), some (.int n), some (.int (z / 21 % 6)), some (.ref r), some (.int l), x] ∧ bs.length = i ∧ Same H1 H' ∧ H' r = some (.lst (LB bs))) ⟨[], _, none, rfl, rfl, Same.new nr, upd_same⟩ ?_ ?_⟩
    · rintro i σ H' hi ⟨bs, l, x, rfl, hl, s2, e⟩
      refine ⟨_, rfl, .inl ⟨rfl, _, SqL.of e⟩, _, rfl, _, _, rfl, rfl, (by show (0 : Int) < 2; decide), rfl, r, _, _, rfl, rfl, e, by rw [lb_len]; exact szl (by omega), ?_⟩
      refine ⟨_, rfl, _, _, rfl, rfl, ⟨by decide, by decide⟩, ?_⟩
      exact ⟨bs ++ [decide (V.int (l % 2) = V.int 1)], _, _, rfl, by rw [List.length_append, hl]; rfl, s2.mut nr, by rw [upd_same, lb_app]⟩
    · rintro σ H' ⟨bs, l, x, rfl, hl, s2, e⟩
      have hl' : bs.length = n := by omega
      exact ⟨_, rfl, q _ H' bs (by rw [hl']; exact hn) (by rw [hl']; exact hw) ⟨r, rfl, s0.free nr, s0.trans s2, e⟩⟩
  refine ⟨_, rfl, rfl, _, rfl, ite2 (fun _ => ?_) (fun _ => iteF loop)⟩
  refine ⟨_, rfl, rfl, _, rfl, ite2 (fun _ => ?_) (fun _ => loop)⟩
  refine rd_ret ?_
  refine lcR1 (n : Int) (fun _ => true) (fun i => .bl (inV (.int (i : Int)) [.int 3, .int 5, .int 6, .int 7])) bnd (Evl.ea_cons (Evl.ev_var rfl) Evl.ea_nil) (fun _ => rfl) (fun i H1 e hi => et_yes) (fun i H1 e hi _ => ?_) (fun r H' nr s1 e => fin _ r H' nr s1 e)
  exact Evl.ev_inU (Evl.ev_var rfl) (Evl.eu_tup (Evl.ea_cons Evl.ev_c (Evl.ea_cons Evl.ev_c (Evl.ea_cons Evl.ev_c (Evl.ea_cons Evl.ev_c Evl.ea_nil)))) (by show 4 ≤ 100000; decide)) rfl rfl
theorem ok_law_truths (D : Def K mg "_law_truths" s__law_truths ["found", "due"]) (B : Bl mg) : Fn P w K mg base CX0 1 "_law_truths" ["found", "due"] (sp_law_truths K) := by
  have m_len := B.len; have m_list := B.list; have m_isinstance := B.isinstance; have m_bool := B.bool; have m_all := B.all
  refine D.fn fun f fd F => F.ok sc__law_truths (fun vs H Q E h => ?_) (fun cdv A outer s H vs Q E hr h => ?_)
  · obtain ⟨a, b, f, g, rfl, _⟩ := h
    rfl
  obtain ⟨a, y, f, g, rfl, eA, ⟨b, rfl, hS⟩, hz, q⟩ := h
  refine ⟨_, (pss_cons (ps_if (PW.pt (pw_or (pt_not (pt_val (pe_callB (isiS (K := K)) (by rfl) m_isinstance (by decide +kernel) (pa_cons (pv 0) (pa_cons (pe_bltn (v := .ty "list") (by rfl) m_list (by decide +kernel) rfl) pa_nil))))) (pw_or1 (pt_cmpR op_ne (pe_callB (lenS (K := K)) (by rfl) m_len PySem.boot_len (pa_cons (pv 0) pa_nil)) (pe_callB (lenS (K := K)) (by rfl) m_len PySem.boot_len (pa_cons (pv 1) pa_nil)) (nomark _))))) (pss_one (ps_ret pe_bl)) pss_nil)
  (pss_one (ps_ret (pe_and (pe_callB (allS (K := K) rfl) (by rfl) m_all (by decide +kernel) (pa_cons (pe_lc (own := [("one", 2)]) (g := gName 2) (tt := tYes) rfl sc__law_truths.nd (piL (K := K) (pv 0)) (blkOk_by (N := ["found", "due", "one"]) (sc := defScope s__law_truths) (by decide +kernel)) (fun _ _ _ _ _ => pg_name (i := 2) sc__law_truths.nd rfl (Or.inl rfl)) (fun _ _ _ _ _ => pts_nil) (fun _ _ _ _ _ => (pe_callB (isiS (K := K)) (by rfl) m_isinstance (by decide +kernel) (pa_cons (pv 2) (pa_cons (pe_bltn (v := .ty "bool") (by rfl) m_bool (by decide +kernel) rfl) pa_nil))))) pa_nil)) (pe_one (pe_cmpR (eqD (K := K) hr.units) (pv 0) (pv 1) (nomark _))))))), ?_⟩
  refine ⟨_, rfl, _, _, _, _, true, rfl, .ty _, .base (.lst eA), kLL, _, rfl, ?_⟩
  refine iteF ⟨_, rfl, a, _, rfl, .inl (SqL.of eA), _, rfl, b, _, rfl, .inl hS, rfl, _, rfl, ?_⟩
  rw [lb_len, lb_len]
  by_cases e : f.length = g.length
  · rw [decide_eq_true (show V.int ((f.length : Nat) : Int) = V.int ((g.length : Nat) : Int) by rw [e])]
    refine iteF ⟨_, rfl, a, rfl, ⟨_, SqL.of eA⟩, lc_P (wk_list (SqL.of eA)) (fun _ => true) (fun i => .bl true) (by rw [lb_len]; omega) (fun _ => rfl) (fun i H2 _ _ => et_yes) (fun i H2 _ hi _ => ?_) (fun D H' nD s2 e2 => ?_)⟩
    · rw [lb_len] at hi
      rw [itOf_lb hi]
      exact fun H3 _ Q q => ⟨_, rfl, _, _, _, _, true, rfl, .ty _, .base (.bl _), kBB, q H3 (Evl.Ex.refl _)⟩
    · rw [given_all (fun _ _ => rfl), lb_len, map_bl] at e2
      refine ⟨D, _, rfl, SqL.of e2, true, congrArg V.bl all_true, iteT ⟨_, rfl, _, rfl, dB f, dB g, IsB.dp ⟨a, rfl, s2.seq (SqL.of eA)⟩, IsB.dp ⟨b, rfl, s2.seq hS⟩, shp_dB.ok (by decide), shp_dB.ok (by decide), ?_⟩⟩
      rw [eqv_dB]
      exact q H' s2
  · rw [decide_eq_false (show ¬ V.int ((f.length : Nat) : Int) = V.int ((g.length : Nat) : Int) from fun z => e (by have := V.int.inj z; omega))]
    have e2 : decide (f = g) = false := decide_eq_false fun z => e (by rw [z])
    rw [e2] at q
    exact iteT (q H (Same.refl _))
theorem ok_law {C : Addr} {f : Addr} {fd : FuncData} (F : Fun K "law" "law" s_law f fd) (B : Bl mg) (G_cell : Fn P w K mg base CX0 1 "_law_cell_at" ["script", "k"] (sp_cell_at K)) (G_next : Fn P w K mg base CX0 1 "_law_next" ["seed"] sp_next)
    (G_law_gate : Fn P w K mg base CX0 1 "_law_gate" ["seed", "most"] (sp_law_gate 3)) (G_law_truths : Fn P w K mg base CX0 1 "_law_truths" ["found", "due"] (sp_law_truths K))
    (G_contrary : Fn P w K mg base (L2.CX P w) 2 "contrary" ["gate"] (sp_contrary K C)) : FnOk P w K mg base CX0 3 f fd ["script"] (spLaw K) := by
  have m_range := B.range; have m_len := B.len; have m_list := B.list
  refine F.ok sc_law (fun vs H Q E h => ?_) (fun cdv A outer s H vs Q E hr h => ?_)
  · obtain ⟨a, ns, rfl, _⟩ := h
    rfl
  obtain ⟨a, ns, rfl, hS, h63, q⟩ := h
  refine ⟨_, (pss_cons (ps_set (i := 1) sc_law.nd rfl (Or.inr rfl) (pe_fn G_law_gate (hr.mono (by decide)) (by rfl) pass0 (pa_cons (pe_fn G_next (hr.mono (by decide)) (by rfl) pass0 (pa_cons (pe_fn G_cell (hr.mono (by decide)) (by rfl) pass0 (pa_cons (pv 0) (pa_cons pe_int pa_nil))) pa_nil)) (pa_cons pe_int pa_nil))))
  (pss_cons (ps_setLc (i := 2) (own := [("row", 5)]) (g := gName 5) (tt := tYes) rfl sc_law.nd rfl rfl (sw_true rfl rfl rfl (by decide +kernel)) (pi_range1 (by rfl) m_range (pa_cons (pe_callB (lenS (K := K)) (by rfl) m_len PySem.boot_len (pa_cons (pv 1) pa_nil)) pa_nil)) (blkOk_by (N := ["script", "gate", "due", "handed", "found", "row"]) (sc := defScope s_law) (by decide +kernel)) (fun _ _ _ _ _ => pg_name (i := 5) sc_law.nd rfl (Or.inl rfl)) (fun _ _ _ _ _ => pts_nil) (fun _ _ _ _ _ => (pe_not (pe_ix (ixL (K := K)) (pv 1) (pe_op op_sub (pe_op op_sub (pe_callB (lenS (K := K)) (by rfl) m_len PySem.boot_len (pa_cons (pv 1) pa_nil)) pe_int) (pv 5)) (fun _ _ => rfl)))))
  (pss_cons (ps_set (i := 3) sc_law.nd rfl (Or.inl rfl) (pe_callTy (listOf (K := K)) (by rfl) m_list (by decide +kernel) (pa_cons (pv 1) pa_nil)))
  (pss_cons (ps_set (i := 4) sc_law.nd rfl (Or.inl rfl) (pe_fn G_contrary (hr.mono (by decide)) (by rfl) passL (pa_cons (pv 3) pa_nil)))
  (pss_cons (ps_if (PW.pt (pw_or (pt_not (pt_val (pe_fn G_law_truths (hr.mono (by decide)) (by rfl) pass0 (pa_cons (pv 4) (pa_cons (pv 2) pa_nil))))) (pw_or1 (pt_cmpR (neD (K := K) hr.units) (pv 3) (pv 1) (nomark _))))) (pss_one (ps_ret pe_bl)) pss_nil)
  (pss_cons (ps_expr (pe_bm PySem.F.plainAttrs_list PySem.F.slot_list_append PySem.F.type_list_append mt_append (pv 4) (pa_cons pe_bl pa_nil)))
  (pss_one (ps_ret (pe_and (pe_fn G_law_truths (hr.mono (by decide)) (by rfl) pass0 (pa_cons (pe_fn G_contrary (hr.mono (by decide)) (by rfl) passL (pa_cons (pv 3) pa_nil)) (pa_cons (pv 2) pa_nil))) (pe_one (pe_fn G_law_truths (hr.mono (by decide)) (by rfl) pass0 (pa_cons (pe_fn G_contrary (hr.mono (by decide)) (by rfl) passL (pa_cons (pv 2) pa_nil)) (pa_cons (pv 1) pa_nil))))))))))))), ?_⟩
  refine ⟨_, rfl, a, ns, 0, rfl, hS, fun z => ⟨z, rfl, fun n h0 _ => ⟨n, rfl, h0, by decide, by decide, fun v H1 g hg hw hN => ?_⟩⟩⟩
  obtain ⟨p, rfl, np, s1, e1⟩ := hN
  have h8 := okLen_le hg
  -- due
  refine ⟨_, rfl, p, _, rfl, .inl (SqL.of e1), ((LB g).length : Int), rfl, by rw [lb_len]; omega, by rw [lb_len]; omega, lc_P wk_rng (fun _ => true) (fun i => .bl (!g.getD (g.length - 1 - i) false)) (by rw [lb_len]; omega) (fun _ => rfl) (fun i H2 _ _ => et_yes) (fun i H2 s2 hi _ => ?_) (fun r H2 nr s2 e2 => ?_)⟩
  · rw [lb_len] at hi
    refine Evl.ev_notV (Evl.ev_op (y := .int ((g.length - 1 - i : Nat) : Int)) (Evl.ev_var rfl) (Evl.ev_is (Evl.ev_op (Evl.ev_op (Evl.ev_len (Evl.ev_var rfl) (s2.seq (SqL.of e1))) Evl.ev_c Evl.rv_I0) (Evl.ev_var rfl) Evl.rv_I0) ?_) (Evl.rv_ixL (s2.seq (SqL.of e1)) (atI_nat (lb_get (by omega)))))
    show V.int (((LB g).length : Int) - 1 - (i : Int)) = _
    rw [lb_len]
    exact congrArg V.int (by omega)
  rw [given_all (fun _ _ => rfl), lb_len, show ((g.length : Int)).toNat = g.length by omega, map_bl, contr_map] at e2
  -- handed, found
  refine ⟨_, rfl, p, _, rfl, .inl (s2.seq (SqL.of e1)), fun hd nh => ?_⟩
  have s3 := Same.new (o := .lst (LB g)) nh
  have eh : (upd H2 hd (.lst (LB g))) hd = some (.lst (LB g)) := upd_same
  revert s3 eh
  generalize upd H2 hd (.lst (LB g)) = H3
  intro s3 eh
  refine ⟨_, rfl, .ref hd, g, rfl, ⟨hd, rfl, SqL.of eh⟩, fun _ v H4 hN => ?_, fun e => absurd (hg.symm.trans e) (by decide)⟩
  obtain ⟨fo, rfl, nf, s4, e4⟩ := hN
  have sr := (s3.trans s4) _ _ e2
  refine ⟨_, rfl, _, rfl, fo, .ref r, contr g, contr g, rfl, e4, ⟨r, rfl, SqL.of sr⟩, by rw [contr_len]; omega, fun H5 s5 => ⟨_, rfl, ?_⟩⟩
  rw [decide_eq_true rfl]
  have ep5 : SqL K H5 p (LB g) := ((s2.trans s3).trans (s4.trans s5)).seq (SqL.of e1)
  have eh5 := (s4.trans s5) _ _ eh
  refine iteF ⟨_, rfl, _, rfl, dB g, dB g, IsB.dp ⟨hd, rfl, SqL.of eh5⟩, IsB.dp ⟨p, rfl, ep5⟩, shp_dB.ok (by decide), shp_dB.ok (by decide), _, rfl, ?_⟩
  rw [eqv_same shp_dB]
  refine iteF ?_
  -- found.append(True)
  refine ⟨_, rfl, .inl ⟨rfl, _, SqL.of (s5 _ _ e4)⟩, fo, _, _, rfl, rfl, s5 _ _ e4, by rw [lb_len, contr_len]; exact szl (by omega), ?_⟩
  have nfh : hd ≠ fo := ne_of_none eh nf
  have nrf : r ≠ fo := ne_of_none (s3 _ _ e2) nf
  have eh6 : (upd H5 fo (.lst (LB (contr g) ++ [.bl true]))) hd = some (.lst (LB g)) := by rw [upd_ne nfh]; exact eh5
  have er6 : (upd H5 fo (.lst (LB (contr g) ++ [.bl true]))) r = some (.lst (LB (contr g))) := by rw [upd_ne nrf]; exact s5 _ _ sr
  have ep6 : SqL K (upd H5 fo (.lst (LB (contr g) ++ [.bl true]))) p (LB g) := sql_upd (fun z => by
    have : H3 p = some (.lst (LB g)) := (s2.trans s3) _ _ e1
    rw [z, nf] at this; cases this) ep5
  revert eh6 er6 ep6
  generalize upd H5 fo (.lst (LB (contr g) ++ [.bl true])) = H6
  intro eh6 er6 ep6
  refine ⟨_, rfl, .ref hd, g, rfl, ⟨hd, rfl, SqL.of eh6⟩, fun _ v H7 hN => ?_, fun e => absurd (hg.symm.trans e) (by decide)⟩
  obtain ⟨fo2, rfl, nf2, s7, e7⟩ := hN
  refine ⟨_, rfl, fo2, .ref r, contr g, contr g, rfl, e7, ⟨r, rfl, SqL.of (s7 _ _ er6)⟩, by rw [contr_len]; omega, fun H8 s8 => ⟨_, rfl, ?_⟩⟩
  rw [decide_eq_true rfl]
  have er8 := (s7.trans s8) _ _ er6
  refine iteT ⟨_, rfl, .ref r, contr g, rfl, ⟨r, rfl, SqL.of er8⟩, fun _ v H9 hN => ?_, fun e => absurd e (by rw [contr_len, hg]; decide)⟩
  obtain ⟨fo3, rfl, nf3, s9, e9⟩ := hN
  rw [contr_contr] at e9
  refine ⟨_, rfl, fo3, .ref p, g, g, rfl, e9, ⟨p, rfl, ((s7.trans s8).trans s9).seq ep6⟩, by omega, fun H10 s10 => ?_⟩
  rw [decide_eq_true rfl]
  exact q _
end
end GW
namespace GW
open PySem PySem.Spec PyProof.Rows L2
theorem all_mk {l : PySem.W.OpenLaw} {w : World} {K : PySem.W.Frag} {h : Heap} {mg : Str → Option Value} {fa : Addr} (X : K.In h) (G : h.Ns mainGlobals mg) (hfa : mg "law" = some (.ref fa))
    {C0 : Addr}
    {C1 : Addr}
    {f0 : Addr} {od0 an0 : Option Addr} {sl0 : Array (Option Value)} {oc0 kV0 dc0 pm0 cd0 ct0 : Value}
    {f1 : Addr} {od1 an1 : Option Addr} {sl1 : Array (Option Value)} {oc1 kV1 dc1 pm1 cd1 ct1 : Value}
    {f2 : Addr} {od2 an2 : Option Addr} {sl2 : Array (Option Value)} {oc2 kV2 dc2 pm2 cd2 ct2 : Value}
    {f3 : Addr} {od3 an3 : Option Addr} {sl3 : Array (Option Value)} {oc3 kV3 dc3 pm3 cd3 ct3 : Value}
    {f4 : Addr} {od4 an4 : Option Addr} {sl4 : Array (Option Value)} {oc4 kV4 dc4 pm4 cd4 ct4 : Value}
    {f5 : Addr} {od5 an5 : Option Addr} {sl5 : Array (Option Value)} {oc5 kV5 dc5 pm5 cd5 ct5 : Value}
    {f6 : Addr} {od6 an6 : Option Addr} {sl6 : Array (Option Value)} {oc6 kV6 dc6 pm6 cd6 ct6 : Value}
    (Cg0 : PySem.W.nsIn K mainGlobals "GateError" = some (some (.ref C0)))
    (Ck0 : PySem.W.keepIn K (.ref C0) = true)
    (Cb0 : PySem.W.subIn K (.ref C0) (.type "BaseException") = some true)
    (Ct0 : PySem.W.typeIn K (.ref C0) = some (.type "type"))
    (Cg1 : PySem.W.nsIn K mainGlobals "NoGate" = some (some (.ref C1)))
    (Cx1 : PySem.W.excIn K C1 [.type "ValueError", .type "Exception", .type "BaseException", .type "object"] "ValueError.__new__" = true)
    (Ck1 : PySem.W.keepIn K (.ref C1) = true)
    (Cb1 : PySem.W.subIn K (.ref C1) (.type "BaseException") = some true)
    (Ct1 : PySem.W.typeIn K (.ref C1) = some (.type "type"))
    (z_len : PySem.W.nsIn K mainGlobals "len" = some none)
    (z_sum : PySem.W.nsIn K mainGlobals "sum" = some none)
    (z_range : PySem.W.nsIn K mainGlobals "range" = some none)
    (z_list : PySem.W.nsIn K mainGlobals "list" = some none)
    (z_tuple : PySem.W.nsIn K mainGlobals "tuple" = some none)
    (z_isinstance : PySem.W.nsIn K mainGlobals "isinstance" = some none)
    (z_bool : PySem.W.nsIn K mainGlobals "bool" = some none)
    (z_int : PySem.W.nsIn K mainGlobals "int" = some none)
    (z_str : PySem.W.nsIn K mainGlobals "str" = some none)
    (z_all : PySem.W.nsIn K mainGlobals "all" = some none)
    (z_any : PySem.W.nsIn K mainGlobals "any" = some none)
    (z_reversed : PySem.W.nsIn K mainGlobals "reversed" = some none)
    (z_sorted : PySem.W.nsIn K mainGlobals "sorted" = some none)
    (z_min : PySem.W.nsIn K mainGlobals "min" = some none)
    (z_max : PySem.W.nsIn K mainGlobals "max" = some none)
    (z_dict : PySem.W.nsIn K mainGlobals "dict" = some none)
    (a0 : PySem.W.nsIn K mainGlobals "ask_gate" = some (some (.ref f0)))
    (l0 : K.lookup f0 = some ⟨oc0, od0, .func (PySem.W.fnOf "ask_gate" "ask_gate" (defArgs s_ask_gate) (defBody s_ask_gate) (defScope s_ask_gate) .none kV0 dc0 pm0 an0 cd0 ct0), sl0⟩)
    (c0 : PySem.W.codeIn K cd0 "ask_gate" = true)
    (k0 : PySem.W.keepIn K (.ref f0) = true)
    (a1 : PySem.W.nsIn K mainGlobals "contrary" = some (some (.ref f1)))
    (l1 : K.lookup f1 = some ⟨oc1, od1, .func (PySem.W.fnOf "contrary" "contrary" (defArgs s_contrary) (defBody s_contrary) (defScope s_contrary) .none kV1 dc1 pm1 an1 cd1 ct1), sl1⟩)
    (c1 : PySem.W.codeIn K cd1 "contrary" = true)
    (k1 : PySem.W.keepIn K (.ref f1) = true)
    (a2 : PySem.W.nsIn K mainGlobals "_law_cell_at" = some (some (.ref f2)))
    (l2 : K.lookup f2 = some ⟨oc2, od2, .func (PySem.W.fnOf "_law_cell_at" "_law_cell_at" (defArgs s__law_cell_at) (defBody s__law_cell_at) (defScope s__law_cell_at) .none kV2 dc2 pm2 an2 cd2 ct2), sl2⟩)
    (c2 : PySem.W.codeIn K cd2 "_law_cell_at" = true)
    (k2 : PySem.W.keepIn K (.ref f2) = true)
    (a3 : PySem.W.nsIn K mainGlobals "_law_next" = some (some (.ref f3)))
    (l3 : K.lookup f3 = some ⟨oc3, od3, .func (PySem.W.fnOf "_law_next" "_law_next" (defArgs s__law_next) (defBody s__law_next) (defScope s__law_next) .none kV3 dc3 pm3 an3 cd3 ct3), sl3⟩)
    (c3 : PySem.W.codeIn K cd3 "_law_next" = true)
    (k3 : PySem.W.keepIn K (.ref f3) = true)
    (a4 : PySem.W.nsIn K mainGlobals "_law_gate" = some (some (.ref f4)))
    (l4 : K.lookup f4 = some ⟨oc4, od4, .func (PySem.W.fnOf "_law_gate" "_law_gate" (defArgs s__law_gate) (defBody s__law_gate) (defScope s__law_gate) .none kV4 dc4 pm4 an4 cd4 ct4), sl4⟩)
    (c4 : PySem.W.codeIn K cd4 "_law_gate" = true)
    (k4 : PySem.W.keepIn K (.ref f4) = true)
    (a5 : PySem.W.nsIn K mainGlobals "_law_truths" = some (some (.ref f5)))
    (l5 : K.lookup f5 = some ⟨oc5, od5, .func (PySem.W.fnOf "_law_truths" "_law_truths" (defArgs s__law_truths) (defBody s__law_truths) (defScope s__law_truths) .none kV5 dc5 pm5 an5 cd5 ct5), sl5⟩)
    (c5 : PySem.W.codeIn K cd5 "_law_truths" = true)
    (k5 : PySem.W.keepIn K (.ref f5) = true)
    (a6 : PySem.W.nsIn K mainGlobals "law" = some (some (.ref f6)))
    (l6 : K.lookup f6 = some ⟨oc6, od6, .func (PySem.W.fnOf "law" "law" (defArgs s_law) (defBody s_law) (defScope s_law) .none kV6 dc6 pm6 an6 cd6 ct6), sl6⟩)
    (c6 : PySem.W.codeIn K cd6 "law" = true)
    (k6 : PySem.W.keepIn K (.ref f6) = true) :
    ∃ fd : FuncData, (∀ (s : Shared) (v : Value), BindsTo s fd ⟨[v], []⟩ [("script", v)]) ∧ ∀ base : Heap, K.In base → base.Ns mainGlobals mg → FnOk l.prog w K mg base CX0 3 fa fd ["script"] (spLaw K) := by
  have e := hfa.symm.trans (PySem.W.mg_of X G a6)
  cases e
  have E_NoGate : ErrC K mg "NoGate" C1 := ⟨PySem.W.mg_of X G Cg1, Cx1, Ck1, Cb1, Ct1⟩
  have B : Bl mg := ⟨PySem.W.mg_none_of X G z_len, PySem.W.mg_none_of X G z_sum, PySem.W.mg_none_of X G z_range, PySem.W.mg_none_of X G z_list, PySem.W.mg_none_of X G z_tuple, PySem.W.mg_none_of X G z_isinstance, PySem.W.mg_none_of X G z_bool, PySem.W.mg_none_of X G z_int, PySem.W.mg_none_of X G z_str, PySem.W.mg_none_of X G z_all, PySem.W.mg_none_of X G z_any, PySem.W.mg_none_of X G z_reversed, PySem.W.mg_none_of X G z_sorted, PySem.W.mg_none_of X G z_min, PySem.W.mg_none_of X G z_max, PySem.W.mg_none_of X G z_dict⟩
  have F_ask_gate := fun_mk (st := s_ask_gate) l0 c0 k0
  have D_ask_gate : Def K mg "ask_gate" s_ask_gate ["gate"] := ⟨_, _, F_ask_gate, PySem.W.mg_of X G a0, F_ask_gate.binds (ps := ["gate"]) fun _ _ _ _ _ _ us hl => match us, hl with | [_], _ => rfl⟩
  have F_contrary := fun_mk (st := s_contrary) l1 c1 k1
  have D_contrary : Def K mg "contrary" s_contrary ["gate"] := ⟨_, _, F_contrary, PySem.W.mg_of X G a1, F_contrary.binds (ps := ["gate"]) fun _ _ _ _ _ _ us hl => match us, hl with | [_], _ => rfl⟩
  have F__law_cell_at := fun_mk (st := s__law_cell_at) l2 c2 k2
  have D__law_cell_at : Def K mg "_law_cell_at" s__law_cell_at ["script", "k"] := ⟨_, _, F__law_cell_at, PySem.W.mg_of X G a2, F__law_cell_at.binds (ps := ["script", "k"]) fun _ _ _ _ _ _ us hl => match us, hl with | [_, _], _ => rfl⟩
  have F__law_next := fun_mk (st := s__law_next) l3 c3 k3
  have D__law_next : Def K mg "_law_next" s__law_next ["seed"] := ⟨_, _, F__law_next, PySem.W.mg_of X G a3, F__law_next.binds (ps := ["seed"]) fun _ _ _ _ _ _ us hl => match us, hl with | [_], _ => rfl⟩
  have F__law_gate := fun_mk (st := s__law_gate) l4 c4 k4
  have D__law_gate : Def K mg "_law_gate" s__law_gate ["seed", "most"] := ⟨_, _, F__law_gate, PySem.W.mg_of X G a4, F__law_gate.binds (ps := ["seed", "most"]) fun _ _ _ _ _ _ us hl => match us, hl with | [_, _], _ => rfl⟩
  have F__law_truths := fun_mk (st := s__law_truths) l5 c5 k5
  have D__law_truths : Def K mg "_law_truths" s__law_truths ["found", "due"] := ⟨_, _, F__law_truths, PySem.W.mg_of X G a5, F__law_truths.binds (ps := ["found", "due"]) fun _ _ _ _ _ _ us hl => match us, hl with | [_, _], _ => rfl⟩
  have F_law := fun_mk (st := s_law) l6 c6 k6
  refine ⟨PySem.W.fnOf "law" "law" (defArgs s_law) (defBody s_law) (defScope s_law) .none kV6 dc6 pm6 an6 cd6 ct6, fun s v => .of_eq rfl, fun base _ _ => ?_⟩
  have G_ask_gate := ok_ask_gate (P := l.prog) (w := w) (base := base) D_ask_gate B E_NoGate
  have G_contrary := ok_contrary (P := l.prog) (w := w) (base := base) D_contrary B G_ask_gate
  have G_cell := ok_cell_at (P := l.prog) (w := w) (base := base) D__law_cell_at B
  have G_next := ok_next (P := l.prog) (w := w) (base := base) D__law_next
  have G_law_gate := ok_law_gate (P := l.prog) (w := w) (base := base) D__law_gate B 3
  have G_law_truths := ok_law_truths (P := l.prog) (w := w) (base := base) D__law_truths B
  exact ok_law F_law B G_cell G_next G_law_gate G_law_truths G_contrary
end GW
open PySem PySem.W PyProof.Rows
set_option maxHeartbeats 0 in
theorem PySem.Challenge.cw_gatewhole_k02_contrary_holds : PySem.Challenge.rw_gatewhole_k02_contrary.Holds := by
  w_on; o_law; k_head; (case hw => w_witness2)
  k_fill
  refine L2.walk_of (l := PySem.Challenge.rw_gatewhole_k02_contrary) (n := 63) (k := 3) (x := "script") (CX := fun _ => L2.CX0) (sp := fun w => GW.spLaw _) rfl (by decide) rfl ⟨rfl, by decide, by decide⟩ (fun w h Y => PySem.W.kIn_of Y) ?F (fun _ _ a ns hl _ hS => ⟨a, ns, rfl, hS, hl, fun _ => rfl⟩) (fun _ _ _ _ _ h => h)
  case F =>
    intro w mg fa h KX G hmg
    refine' GW.all_mk KX G hmg ?Cg0 ?Ck0 ?Cb0 ?Ct0 ?Cg1 ?Cx1 ?Ck1 ?Cb1 ?Ct1 ?z_len ?z_sum ?z_range ?z_list ?z_tuple ?z_isinstance ?z_bool ?z_int ?z_str ?z_all ?z_any ?z_reversed ?z_sorted ?z_min ?z_max ?z_dict ?a0 ?l0 ?c0 ?k0 ?a1 ?l1 ?c1 ?k1 ?a2 ?l2 ?c2 ?k2 ?a3 ?l3 ?c3 ?k3 ?a4 ?l4 ?c4 ?k4 ?a5 ?l5 ?c5 ?k5 ?a6 ?l6 ?c6 ?k6
    (case Cg0 => k_is)
    (case Ck0 => k_is)
    (case Cb0 => k_is)
    (case Ct0 => k_is)
    (case Cg1 => k_is)
    (case Cx1 => k_exc)
    (case Ck1 => k_is)
    (case Cb1 => k_is)
    (case Ct1 => k_is)
    (case z_len => k_is)
    (case z_sum => k_is)
    (case z_range => k_is)
    (case z_list => k_is)
    (case z_tuple => k_is)
    (case z_isinstance => k_is)
    (case z_bool => k_is)
    (case z_int => k_is)
    (case z_str => k_is)
    (case z_all => k_is)
    (case z_any => k_is)
    (case z_reversed => k_is)
    (case z_sorted => k_is)
    (case z_min => k_is)
    (case z_max => k_is)
    (case z_dict => k_is)
    (case a0 => k_is)
    (case l0 => k_is)
    (case c0 => k_is)
    (case k0 => k_is)
    (case a1 => k_is)
    (case l1 => k_is)
    (case c1 => k_is)
    (case k1 => k_is)
    (case a2 => k_is)
    (case l2 => k_is)
    (case c2 => k_is)
    (case k2 => k_is)
    (case a3 => k_is)
    (case l3 => k_is)
    (case c3 => k_is)
    (case k3 => k_is)
    (case a4 => k_is)
    (case l4 => k_is)
    (case c4 => k_is)
    (case k4 => k_is)
    (case a5 => k_is)
    (case l5 => k_is)
    (case c5 => k_is)
    (case k5 => k_is)
    (case a6 => k_is)
    (case l6 => k_is)
    (case c6 => k_is)
    (case k6 => k_is)
