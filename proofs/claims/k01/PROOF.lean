import PyProof.Rows.All
import Wide.All
import OpenK.AllK
import Wide.FinOn
import HandS.ForMost
import HandS.ForExc
import HandS.Evl
import HandS.IsInst
import PySem.Challenge.RW_gatewhole_k01_answer
set_option Elab.async false
set_option linter.all false
set_option maxRecDepth 100000
set_option maxHeartbeats 8000000
set_option Elab.async false
set_option linter.all false
set_option maxRecDepth 100000
set_option maxHeartbeats 4000000
/-! Gatewhole, the base: defs as one fact (Fn, Def), heaps, lists of truths, comprehensions. -/
namespace GW
open PySem PySem.Spec PyProof.Rows L2

/-! ### defs -/
/-- a def under its global name that keeps a promise -/
structure Fn (P : Program) (w : World) (K : PySem.W.Frag) (mg : Str → Option Value) (base : Heap) (CX : CXT) (k : Nat) (x : Str) (ps : List Str) (sp : Sp) : Prop where
  ex : ∃ f fd, FnOk P w K mg base CX k f fd ps sp ∧ mg x = some (.ref f) ∧ PySem.W.keepIn K (.ref f) = true ∧ Binds K fd ps []
/-- a def of the text as it stands behind the top -/
structure Def (K : PySem.W.Frag) (mg : Str → Option Value) (x : Str) (st : Stmt) (ps : List Str) : Prop where
  ex : ∃ f fd, Fun K x x st f fd ∧ mg x = some (.ref f) ∧ Binds K fd ps []
section
variable {P : Program} {w : World} {K : PySem.W.Frag} {mg : Str → Option Value} {base : Heap} {CX : CXT} {k : Nat} {x : Str} {st : Stmt} {ps N : List Str} {sp sp' : Sp}
theorem Def.fn (D : Def K mg x st ps) (h : ∀ f fd, Fun K x x st f fd → FnOk P w K mg base CX k f fd ps sp) : Fn P w K mg base CX k x ps sp := by
  obtain ⟨f, fd, F, hm, hb⟩ := D.ex
  exact ⟨f, fd, h f fd F, hm, F.kp, hb⟩
theorem Fn.mono {j : Nat} (G : Fn P w K mg base CX j x ps sp) (h : j ≤ k) : Fn P w K mg base CX k x ps sp := by
  obtain ⟨f, fd, F, r⟩ := G.ex
  exact ⟨f, fd, F.mono h, r⟩
theorem Fn.imp (G : Fn P w K mg base CX k x ps sp) (h : ∀ vs H Q E, sp' vs H Q E → sp vs H Q E) : Fn P w K mg base CX k x ps sp' := by
  obtain ⟨f, fd, F, r⟩ := G.ex
  exact ⟨f, fd, F.imp h, r⟩
/-- nothing can be asked -/
theorem Def.none (D : Def K mg x st ps) (no : ∀ vs H Q E, ¬ sp vs H Q E) : Fn P w K mg base CX 0 x ps sp :=
  D.fn fun _ _ _ => ⟨fun vs H Q E h => absurd h (no vs H Q E), fun A outer s H args us vs Q E _ _ _ _ h => absurd h (no vs H Q E)⟩
end
/-- f(..) -/
def tFn (sp : Sp) (E : XK) (t : TA) : TE := fun σ H Q => t σ H fun vs H1 => sp vs H1 Q E
section
variable {X : Cx} {CX : CXT} {k : Nat} {ps : List Str} {sp : Sp} {E : XK} {x : Str} {p pos : Pos} {e : Expr} {es : List Expr} {t : TA}
theorem tFn_eq : tCall sp [] E t = tFn sp E t := by
  funext σ H Q
  unfold tCall tFn
  have : (fun (vs : List V) H1 => sp (vs ++ []) H1 Q E) = fun vs H1 => sp vs H1 Q E := by
    funext vs H1
    rw [List.append_nil]
  rw [this]
theorem pe_fn (G : Fn X.prog X.w X.K X.mg X.base CX k x ps sp) (hr : Room k X.A) (hg : Gl X x) (hx : Passes CX X E) (ha : PA X (e :: es) t) (hdb : (x == ("__debug__" : Str)) = false := by decide)
    (he : starEach (e :: es) X.env = (false, eval e X.env) :: starEach es X.env := by rfl) (hpl : (backTo pos (starEach es X.env)).any (·.1) = false := by rfl) :
    PE X (.Call (.Name x p) (e :: es) [] pos) (tFn sp E t) := by
  obtain ⟨f, fd, F, hm, hk, hb⟩ := G.ex
  rw [← tFn_eq]
  exact pe_call F hr hg hm hk hb .nil hx ha hdb he hpl
/-- in a try's body: W tells what the slots are then -/
theorem pe_fnS {E : L2.St → XK} (G : Fn X.prog X.w X.K X.mg X.base CX k x ps sp) (hr : Room k X.A) (hg : Gl X x) (hx : ∀ σ, PassesAt CX X σ (E σ)) (ha : PA X (e :: es) t) (hdb : (x == ("__debug__" : Str)) = false := by decide)
    (he : starEach (e :: es) X.env = (false, eval e X.env) :: starEach es X.env := by rfl) (hpl : (backTo pos (starEach es X.env)).any (·.1) = false := by rfl) :
    PE X (.Call (.Name x p) (e :: es) [] pos) (tCallS sp E t) := by
  obtain ⟨f, fd, F, hm, hk, hb⟩ := G.ex
  exact pe_callS F hr hg hm hk hb hx ha hdb he hpl
end
/-- an own class of error over ValueError, without __init__, as the written part has it -/
structure ErrC (K : PySem.W.Frag) (mg : Str → Option Value) (x : Str) (C : Addr) : Prop where
  g : mg x = some (.ref C)
  x : PySem.W.excIn K C [.type "ValueError", .type "Exception", .type "BaseException", .type "object"] "ValueError.__new__" = true
  k : PySem.W.keepIn K (.ref C) = true
  b : PySem.W.subIn K (.ref C) (.type "BaseException") = some true
  t : PySem.W.typeIn K (.ref C) = some (.type "type")

end GW
namespace L2
open PySem PySem.Spec PyProof.Rows
/-! ### heaps -/
theorem Same.new {H : Hp} {p : Addr} {o : HO} (h : H p = none) : Same H (upd H p o) := fun b u q => by rw [upd_ne (ne_of_none q h)]; exact q
theorem Same.mut {H H' : Hp} {p : Addr} {o : HO} (e : Same H H') (h : H p = none) : Same H (upd H' p o) := fun a u ha => by
  rw [upd_ne (ne_of_none ha h)]
  exact e a u ha
theorem Same.rd {H H' : Hp} {a : Addr} {u : HO} (e : Same H H') (h : Rd H a u) : Rd H' a u := by
  rcases h with h | ⟨o, h⟩
  · exact .inl (e _ _ h)
  · exact .inr ⟨o, e _ _ h⟩
theorem Same.tup {K : PySem.W.Frag} {H H' : Hp} {a : Addr} {xs : List V} (e : Same H H') (h : SqT K H a xs) : SqT K H' a xs := by
  rcases h with h | h
  · exact .inl (e.rd h)
  · exact .inr h
end L2
namespace GW
open PySem PySem.Spec PyProof.Rows L2
theorem sz {n : Nat} (h : n ≤ 100000) : n ≤ sizeLine := Nat.le_trans h (by decide)
theorem szl {n : Nat} (h : n < 100000) : n < sizeLine := Nat.lt_of_lt_of_le h (by decide)

/-! ### Paired over lists -/
theorem Paired.len {α β : Type} {R : α → β → Prop} : ∀ {xs : List α} {ys : List β}, Paired R xs ys → xs.length = ys.length := fun r => Paired.length r
theorem Paired.at {α β : Type} {R : α → β → Prop} : ∀ {xs : List α} {ys : List β} {i : Nat} {x : α}, Paired R xs ys → xs[i]? = some x → ∃ y, ys[i]? = some y ∧ R x y
  | _, _, _, _, .nil, e => by simp at e
  | _, _, 0, _, .cons r _, e => by simp at e; subst e; exact ⟨_, rfl, r⟩
  | _, _, i + 1, x, .cons _ t, e => by
    obtain ⟨u, h1, h2⟩ := Paired.at (i := i) (x := x) t (by simpa using e)
    exact ⟨u, by simpa using h1, h2⟩
theorem Paired.at' {α β : Type} {R : α → β → Prop} : ∀ {xs : List α} {ys : List β} {i : Nat} {y : β}, Paired R xs ys → ys[i]? = some y → ∃ x, xs[i]? = some x ∧ R x y
  | _, _, _, _, .nil, e => by simp at e
  | _, _, 0, _, .cons r _, e => by simp at e; subst e; exact ⟨_, rfl, r⟩
  | _, _, i + 1, y, .cons _ t, e => by
    obtain ⟨u, h1, h2⟩ := Paired.at' (i := i) (y := y) t (by simpa using e)
    exact ⟨u, by simpa using h1, h2⟩
theorem Paired.imp {α β : Type} {R S : α → β → Prop} (h : ∀ x y, R x y → S x y) : ∀ {xs : List α} {ys : List β}, Paired R xs ys → Paired S xs ys
  | _, _, .nil => .nil
  | _, _, .cons r t => .cons (h _ _ r) (Paired.imp h t)
theorem Paired.snoc {α β : Type} {R : α → β → Prop} {x : α} {y : β} (q : R x y) : ∀ {xs : List α} {ys : List β}, Paired R xs ys → Paired R (xs ++ [x]) (ys ++ [y])
  | _, _, .nil => .cons q .nil
  | _, _, .cons r t => .cons r (Paired.snoc q t)
theorem Paired.app {α β : Type} {R : α → β → Prop} : ∀ {xs : List α} {ys : List β} {xs' : List α} {ys' : List β}, Paired R xs ys → Paired R xs' ys' → Paired R (xs ++ xs') (ys ++ ys')
  | _, _, _, _, .nil, q => q
  | _, _, _, _, .cons r t, q => .cons r (Paired.app t q)

/-! ### lists of truths -/
abbrev LB (bs : List Bool) : List V := bs.map V.bl
/-- v is a list of the truths bs -/
def IsB (K : PySem.W.Frag) (H : Hp) (v : V) (bs : List Bool) : Prop := ∃ a, v = .ref a ∧ SqL K H a (LB bs)
theorem IsB.mono {K : PySem.W.Frag} {H H' : Hp} {v : V} {bs : List Bool} (e : Same H H') (h : IsB K H v bs) : IsB K H' v bs := by
  obtain ⟨a, rfl, h⟩ := h
  exact ⟨a, rfl, e.seq h⟩
/-- v is a list of lists of truths -/
def IsBs (K : PySem.W.Frag) (H : Hp) (v : V) (gs : List (List Bool)) : Prop := ∃ a vs, v = .ref a ∧ SqL K H a vs ∧ Paired (IsB K H) vs gs
theorem IsBs.mono {K : PySem.W.Frag} {H H' : Hp} {v : V} {gs : List (List Bool)} (e : Same H H') (h : IsBs K H v gs) : IsBs K H' v gs := by
  obtain ⟨a, vs, rfl, h, p⟩ := h
  exact ⟨a, vs, rfl, e.seq h, Paired.imp (fun _ _ q => q.mono e) p⟩
theorem lb_at {bs : List Bool} {i : Nat} {b : Bool} (h : bs[i]? = some b) : (LB bs)[i]? = some (.bl b) := by
  rw [List.getElem?_map, h]; rfl
theorem lb_get {bs : List Bool} {i : Nat} (h : i < bs.length) : (LB bs)[i]? = some (.bl (bs.getD i false)) := by
  rw [List.getElem?_map, List.getElem?_eq_getElem h, List.getD_eq_getElem?_getD, List.getElem?_eq_getElem h]; rfl
theorem lb_of {bs : List Bool} {i : Nat} {x : V} (h : (LB bs)[i]? = some x) : i < bs.length ∧ x = .bl (bs.getD i false) := by
  rw [List.getElem?_map] at h
  cases e : bs[i]? with
  | none => rw [e] at h; cases h
  | some b =>
    rw [e] at h
    have hi := (List.getElem?_eq_some_iff.mp e).1
    refine ⟨hi, ?_⟩
    rw [List.getD_eq_getElem?_getD, e]
    exact (Option.some.inj h).symm
theorem lb_len {bs : List Bool} : (LB bs).length = bs.length := List.length_map _

theorem lb_app {bs : List Bool} {b : Bool} : LB (bs ++ [b]) = LB bs ++ [V.bl b] := List.map_append
theorem map_bl {n : Nat} {f : Nat → Bool} : (List.range n).map (fun i => V.bl (f i)) = LB ((List.range n).map f) := by
  unfold LB
  rw [List.map_map]
  rfl

/-! ### data -/
def dB (bs : List Bool) : PyData := .list (bs.map .bool)
def dBs (gs : List (List Bool)) : PyData := .list (gs.map dB)
theorem dpAll_lb {K : PySem.W.Frag} {H : Hp} : ∀ bs : List Bool, DpAll K H (LB bs) (bs.map .bool)
  | [] => .nil
  | b :: r => .cons (.bl b) (dpAll_lb r)
theorem IsB.dp {K : PySem.W.Frag} {H : Hp} {v : V} {bs : List Bool} (h : IsB K H v bs) : Dp K H v (dB bs) := by
  obtain ⟨a, rfl, h⟩ := h
  exact .lst h (dpAll_lb bs)
theorem dpAll_of {K : PySem.W.Frag} {H : Hp} {α : Type} {R : V → α → Prop} {f : α → PyData} (h : ∀ v a, R v a → Dp K H v (f a)) : ∀ {vs : List V} {as : List α}, Paired R vs as → DpAll K H vs (as.map f)
  | _, _, .nil => .nil
  | _, _, .cons r t => .cons (h _ _ r) (dpAll_of h t)
theorem IsBs.dp {K : PySem.W.Frag} {H : Hp} {v : V} {gs : List (List Bool)} (h : IsBs K H v gs) : Dp K H v (dBs gs) := by
  obtain ⟨a, vs, rfl, h, p⟩ := h
  exact .lst h (dpAll_of (fun _ _ q => q.dp) p)
/-- of a right shape: no text beyond what can be laid, at most n deep -/
def Shp (n : Nat) (d : PyData) : Prop := d.canLay0 = true ∧ d.depth ≤ n
theorem shp_all {n : Nat} : ∀ {ds : List PyData}, (∀ d ∈ ds, Shp n d) → PyData.canLayAll0 ds = true ∧ PyData.depthAll ds ≤ n
  | [], _ => ⟨by simp only [PyData.canLayAll0], by simp only [PyData.depthAll]; omega⟩
  | d :: r, h => by
    have h1 := h d List.mem_cons_self
    have h2 := shp_all fun x hx => h x (List.mem_cons_of_mem _ hx)
    refine ⟨?_, ?_⟩
    · simp only [PyData.canLayAll0, h1.1, h2.1, Bool.and_self]
    · simp only [PyData.depthAll]
      exact Nat.max_le.mpr ⟨h1.2, h2.2⟩
theorem shp_list {n : Nat} {ds : List PyData} (h : ∀ d ∈ ds, Shp n d) : Shp (n + 1) (.list ds) := by
  have q := shp_all h
  refine ⟨?_, ?_⟩
  · simp only [PyData.canLay0, q.1]
  · simp only [PyData.depth]
    exact Nat.succ_le_succ q.2
theorem shp_tuple {n : Nat} {ds : List PyData} (h : ∀ d ∈ ds, Shp n d) : Shp (n + 1) (.tuple ds) := by
  have q := shp_all h
  refine ⟨?_, ?_⟩
  · simp only [PyData.canLay0, q.1]
  · simp only [PyData.depth]
    exact Nat.succ_le_succ q.2
theorem Shp.mono {n m : Nat} {d : PyData} (h : Shp n d) (l : n ≤ m) : Shp m d := ⟨h.1, Nat.le_trans h.2 l⟩
theorem Shp.ok {n : Nat} {d : PyData} (h : Shp n d) (l : n ≤ 64) : SeqAt.shaped d = true := by
  unfold SeqAt.shaped
  rw [h.1, decide_eq_true (Nat.le_trans h.2 l)]
  rfl
theorem shp_bool {n : Nat} {b : Bool} : Shp n (.bool b) := ⟨by simp only [PyData.canLay0], by simp only [PyData.depth]; omega⟩
theorem shp_int {n : Nat} {b : Int} : Shp n (.int b) := ⟨by simp only [PyData.canLay0], by simp only [PyData.depth]; omega⟩
theorem shp_dB {bs : List Bool} : Shp 1 (dB bs) := shp_list (n := 0) fun d h => by
  obtain ⟨b, _, rfl⟩ := List.mem_map.mp h
  exact shp_bool
theorem shp_dBs {gs : List (List Bool)} : Shp 2 (dBs gs) := shp_list (n := 1) fun d h => by
  obtain ⟨b, _, rfl⟩ := List.mem_map.mp h
  exact shp_dB
/-! == of data -/
theorem eqv_list (as bs : List PyData) : PyData.eqv (.list as) (.list bs) = PyData.eqvAll as bs := by simp only [PyData.eqv]
theorem eqvAll_map {α : Type} [DecidableEq α] {f : α → PyData} (h : ∀ a b, PyData.eqv (f a) (f b) = decide (a = b)) : ∀ as bs : List α, PyData.eqvAll (as.map f) (bs.map f) = decide (as = bs)
  | [], [] => by simp [PyData.eqvAll]
  | [], _ :: _ => by simp [PyData.eqvAll]
  | _ :: _, [] => by simp [PyData.eqvAll]
  | a :: as, b :: bs => by
    rw [List.map_cons, List.map_cons]
    simp only [PyData.eqvAll]
    rw [h a b, eqvAll_map h as bs]
    by_cases e1 : a = b
    · by_cases e2 : as = bs
      · simp [e1, e2]
      · simp [e1, e2]
    · simp [e1]
theorem eqv_dB (a b : List Bool) : PyData.eqv (dB a) (dB b) = decide (a = b) := by
  unfold dB
  rw [eqv_list]
  exact eqvAll_map (fun x y => by simp only [PyData.eqv]; cases x <;> cases y <;> rfl) a b
theorem eqv_dBs (a b : List (List Bool)) : PyData.eqv (dBs a) (dBs b) = decide (a = b) := by
  unfold dBs
  rw [eqv_list]
  exact eqvAll_map eqv_dB a b
end GW
/-! ### the rules with the written part K named (within a comprehension the context is another, K is the same) -/
namespace GW
open PySem PySem.Spec PyProof.Rows L2
section
variable {K : PySem.W.Frag} {X : Cx}
theorem ixL (h : X.K = K := by rfl) : IxR X (rIxL K) := h ▸ ix_list
theorem ixT (h : X.K = K := by rfl) : IxR X (rIxT K) := h ▸ ix_tup
theorem lenS (h : X.K = K := by rfl) : CallR X (.builtin "len") (Evl.rLenS K) := h ▸ call_len_seq
theorem listOf (h : X.K = K := by rfl) : CallR X (.type "list") (Evl.rListS K) := h ▸ call_list_of
def rTupS (K : PySem.W.Frag) : List V → Hp → VK → Prop := fun xs H Q => ∃ p ys, xs = [.ref p] ∧ ((SqL K H p ys ∧ ∀ l, H l = none → Q (.ref l) (upd H l (.tup ys))) ∨ (SqT K H p ys ∧ Q (.ref p) H))
theorem tupOf (h : X.K = K := by rfl) : CallR X (.type "tuple") (rTupS K) := h ▸ call_tuple_of
theorem inS (h : X.K = K := by rfl) : OpR X (compareOp .In) (rIn K false) := h ▸ op_in_seq
theorem notInS (h : X.K = K := by rfl) : OpR X (compareOp .NotIn) (rIn K true) := h ▸ op_notIn_seq
theorem eqD (hu : X.A.units + 64 < cLine) (h : X.K = K := by rfl) : OpR X (compareOp .Eq) (rEqD K) := h ▸ op_eqD hu
theorem neD (hu : X.A.units + 64 < cLine) (h : X.K = K := by rfl) : OpR X (compareOp .NotEq) (rNeD K) := h ▸ op_neD hu
theorem sumS (hc : X.calm = true) (h : X.K = K := by rfl) : CallR X (.builtin "sum") (rSum K) := h ▸ cr_sum hc
theorem allS (hc : X.calm = true) (h : X.K = K := by rfl) : CallR X (.builtin "all") (rAll K) := h ▸ cr_all hc
theorem anyS (hc : X.calm = true) (h : X.K = K := by rfl) : CallR X (.builtin "any") (rAny K) := h ▸ cr_any hc
theorem isiS (h : X.K = K := by rfl) : CallR X (.builtin "isinstance") (rIsi K) := h ▸ call_isi
theorem piL {tg l : Expr} {tl : TE} (hl : PE X l tl) (h : X.K = K := by rfl) : PI X tg l (iList K tl) := h ▸ pi_list hl
theorem piT {tg l : Expr} {tl : TE} (hl : PE X l tl) (h : X.K = K := by rfl) : PI X tg l (iTup K tl) := h ▸ pi_tup hl
end
end GW
/-! ### comprehensions whose elements are plain values -/
namespace GW
open PySem PySem.Spec PyProof.Rows L2
section
variable {K : PySem.W.Frag} {σ : L2.St} {H : Hp} {te : TE} {t : TT} {Q : VK}
/-- over range(n) -/
theorem lcR1 {ta : TA} {j : Nat} {vs : List Nat} (n : Int) (f : Nat → Bool) (v : Nat → V) (hn : 0 ≤ n ∧ n ≤ 40000) (h : Evl.EvA ta σ H [.int n]) (hw : ∀ x, wipe ((wipe σ vs).set j (some x)) vs = wipe σ vs)
    (ht : ∀ (i : Nat) H1, Same H H1 → (i : Int) < n → Evl.EvT t ((wipe σ vs).set j (some (.int (i : Int)))) H1 (f i)) (he : ∀ (i : Nat) H1, Same H H1 → (i : Int) < n → f i = true → Evl.Ev te ((wipe σ vs).set j (some (.int (i : Int)))) H1 (v i))
    (q : ∀ p H', H p = none → Same H H' → H' p = some (.lst (Evl.given n.toNat f v)) → Q (.ref p) H') : tLc (iRng1 ta) (gName j) t te vs σ H Q :=
  Evl.el_lcR1 f v h hn hw ht he H (Same.refl H) Q q
/-- over a list -/
theorem lcL {a : Addr} {xs : List V} {tl : TE} {j : Nat} {vs : List Nat} (f : Nat → Bool) (v : Nat → V) (hx : SqL K H a xs) (hz : xs.length ≤ 40000) (h : Evl.Ev tl σ H (.ref a)) (hw : ∀ x, wipe ((wipe σ vs).set j (some x)) vs = wipe σ vs)
    (ht : ∀ (i : Nat) (x : V) H1, Same H H1 → xs[i]? = some x → Evl.EvT t ((wipe σ vs).set j (some x)) H1 (f i)) (he : ∀ (i : Nat) (x : V) H1, Same H H1 → xs[i]? = some x → f i = true → Evl.Ev te ((wipe σ vs).set j (some x)) H1 (v i))
    (q : ∀ p H', H p = none → Same H H' → H' p = some (.lst (Evl.given xs.length f v)) → Q (.ref p) H') : tLc (iList K tl) (gName j) t te vs σ H Q :=
  Evl.el_lcL f v h hx hz hw ht he H (Same.refl H) Q q
theorem et_yes : Evl.EvT tYes σ H true := fun H1 _ _ q => q H1 (Evl.Ex.refl H1)
theorem given_all {n : Nat} {f : Nat → Bool} {v : Nat → V} (h : ∀ i, i < n → f i = true) : Evl.given n f v = (List.range n).map v := by
  unfold Evl.given
  rw [List.filter_eq_self.mpr fun i hi => h i (List.mem_range.mp hi)]
end
end GW
/-! ### readings opened one word at a time -/
namespace GW
open PySem PySem.Spec PyProof.Rows L2
section
variable {K : PySem.W.Frag} {σ : L2.St} {H : Hp} {te ta tb : TE} {tr t : TA} {c : TT} {ts tu : TS} {Q : VK} {D : Ends} {i : Nat}
theorem rd_ret (h : te σ H D.rt) : tRet te D σ H := h
theorem rd_cb {r : List V → Hp → VK → Prop} (h : t σ H fun vs H1 => r vs H1 Q) : tCB r t σ H Q := h
theorem rd_cons {Q : List V → Hp → Prop} (h : te σ H fun x H1 => tr σ H1 fun xs H2 => Q (x :: xs) H2) : tCons te tr σ H Q := h
theorem rd_nil {Q : List V → Hp → Prop} (h : Q [] H) : tNil σ H Q := h
theorem rd_set (h : te σ H fun x H1 => D.nx (σ.set i (some x)) H1) : tAsg te (gName i) D σ H := h
theorem rd_drop (h : te σ H fun _ H1 => D.nx σ H1) : tDrop te D σ H := h
theorem rd_op {r : R2} (h : ta σ H fun x H1 => tb σ H1 fun y H2 => r x y H2 Q) : tOp r ta tb σ H Q := h
theorem rd_fn {sp : Sp} {E : XK} (h : t σ H fun vs H1 => sp vs H1 Q E) : tFn sp E t σ H Q := h
theorem rd_seq (h : ts { D with nx := tu D } σ H) : tSeq ts tu D σ H := h
theorem rd_if (h : c σ H fun b H1 => if b = true then ts D σ H1 else tu D σ H1) : tIfS c ts tu D σ H := h
theorem rd_test {Q : Bool → Hp → Prop} (h : te σ H fun x H' => ∃ k, x = .bl k ∧ Q k H') : tTest te σ H Q := h
theorem rd_B {Q : Bool → Hp → Prop} (h : te σ H fun x H' => ∃ k, x = .bl k ∧ Q k H') : tB te σ H Q := h
theorem rd_lst (h : t σ H fun xs H1 => xs.length ≤ sizeLine ∧ ∀ p, H1 p = none → Q (.ref p) (upd H1 p (.lst xs))) : tLst t σ H Q := h
theorem rd_tup (h : t σ H fun xs H1 => xs.length ≤ sizeLine ∧ ∀ p, H1 p = none → Q (.ref p) (upd H1 p (.tup xs))) : tTup t σ H Q := h
theorem rd_not {Q : Bool → Hp → Prop} (h : c σ H fun b H1 => Q (!b) H1) : tNot c σ H Q := h
theorem rd_bm {T : String} {r : V → List V → Hp → VK → Prop} (h : ta σ H fun x H1 => tyV K T x H1 ∧ t σ H1 fun xs H2 => r x xs H2 Q) : tBM K T r ta t σ H Q := h
theorem rd_forR1 {g : TG} (h : t σ H fun vs H1 => ∃ j : Int, vs = [.int j] ∧ -(2 ^ 62) ≤ j ∧ j < 2 ^ 62 ∧ ∃ W : Nat → Nat → L2.St → Hp → Prop, (∃ m, W 0 m σ H1) ∧ ∀ i m σ H, W i m σ H →
  ((Itr 0 j.toNat).stop i H ∧ D.nx σ H) ∨ ((Itr 0 j.toNat).go i H ∧ ∃ N : L2.St → Hp → Prop, (∀ σ' H', N σ' H' → ∃ m', m' < m ∧ W (i + 1) m' σ' H') ∧ ∀ x H', (Itr 0 j.toNat).yld i H x H' → g x σ H' fun σ2 H2 => ts { D with nx := N, ct := N, bk := D.nx } σ2 H2)) : tFor (iRng1 t) g ts D σ H := h
end
end GW
/-! ### lists of lists that a def grows at r -/
namespace GW
open PySem PySem.Spec PyProof.Rows L2
theorem rd_upd {H : Hp} {a r : Addr} {u o : HO} (n : a ≠ r) (h : Rd H a u) : Rd (upd H r o) a u := by
  rcases h with h | ⟨z, h⟩
  · exact .inl (by rw [upd_ne n]; exact h)
  · exact .inr ⟨z, by rw [upd_ne n]; exact h⟩
theorem sql_upd {K : PySem.W.Frag} {H : Hp} {a r : Addr} {xs : List V} {o : HO} (n : a ≠ r) (h : SqL K H a xs) : SqL K (upd H r o) a xs := by
  rcases h with h | h
  · exact .inl (rd_upd n h)
  · exact .inr h
theorem sqt_upd {K : PySem.W.Frag} {H : Hp} {a r : Addr} {xs : List V} {o : HO} (n : a ≠ r) (h : SqT K H a xs) : SqT K (upd H r o) a xs := by
  rcases h with h | h
  · exact .inl (rd_upd n h)
  · exact .inr h
/-- a list of truths elsewhere than at r -/
def IsBN (K : PySem.W.Frag) (r : Addr) (H : Hp) (v : V) (bs : List Bool) : Prop := ∃ a, v = .ref a ∧ a ≠ r ∧ SqL K H a (LB bs)
theorem IsBN.isB {K : PySem.W.Frag} {r : Addr} {H : Hp} {v : V} {bs : List Bool} (h : IsBN K r H v bs) : IsB K H v bs := by
  obtain ⟨a, e, _, h⟩ := h
  exact ⟨a, e, h⟩
theorem IsBN.mono {K : PySem.W.Frag} {r : Addr} {H H' : Hp} {v : V} {bs : List Bool} (s : Same H H') (h : IsBN K r H v bs) : IsBN K r H' v bs := by
  obtain ⟨a, e, n, h⟩ := h
  exact ⟨a, e, n, s.seq h⟩
theorem IsBN.upd {K : PySem.W.Frag} {r : Addr} {H : Hp} {v : V} {bs : List Bool} {o : HO} (h : IsBN K r H v bs) : IsBN K r (upd H r o) v bs := by
  obtain ⟨a, e, n, h⟩ := h
  exact ⟨a, e, n, sql_upd n h⟩
/-- behind a step that leaves all as it was but the new list at r -/
theorem Same.step {H0 H H' : Hp} {r : Addr} {o : HO} (s : Same H0 H) (s2 : Same H H') (nr : H0 r = none) : Same H0 (L2.upd H' r o) := fun b u e => by
  rw [upd_ne (ne_of_none e nr)]
  exact s2 _ _ (s _ _ e)
end GW
/-! ### isinstance -/
namespace GW
open PySem PySem.Spec PyProof.Rows L2
section
variable {K : PySem.W.Frag} {H : Hp} {Q : VK}
theorem isi_bool {b : Bool} (h : Q (.bl true) H) : rIsi K [.bl b, .ty "bool"] H Q := ⟨_, _, _, _, true, rfl, .ty _, .base (.bl b), kit_ty (a := "bool") (b := "bool") (by decide +kernel), h⟩
theorem isi_int_bool {i : Int} (h : Q (.bl false) H) : rIsi K [.int i, .ty "bool"] H Q := ⟨_, _, _, _, false, rfl, .ty _, .base (.int i), kit_ty (a := "int") (b := "bool") (by decide +kernel), h⟩
theorem isi_int {i : Int} (h : Q (.bl true) H) : rIsi K [.int i, .ty "int"] H Q := ⟨_, _, _, _, true, rfl, .ty _, .base (.int i), kit_ty (a := "int") (b := "int") (by decide +kernel), h⟩
theorem isi_str {x : Str} (h : Q (.bl true) H) : rIsi K [.str x, .ty "str"] H Q := ⟨_, _, _, _, true, rfl, .ty _, .base (.str x), kit_ty (a := "str") (b := "str") (by decide +kernel), h⟩
theorem isi_list {a : Addr} {xs : List V} (e : H a = some (.lst xs)) (h : Q (.bl true) H) : rIsi K [.ref a, .ty "list"] H Q := ⟨_, _, _, _, true, rfl, .ty _, .base (.lst e), kit_ty (a := "list") (b := "list") (by decide +kernel), h⟩
theorem isi_tuple {a : Addr} {xs : List V} (e : H a = some (.tup xs)) (h : Q (.bl true) H) : rIsi K [.ref a, .ty "tuple"] H Q := ⟨_, _, _, _, true, rfl, .ty _, .base (.tup e), kit_ty (a := "tuple") (b := "tuple") (by decide +kernel), h⟩
theorem isi_none {t : String} (hk : kitB "NoneType" t = some false) (h : Q (.bl false) H) : rIsi K [.non, .ty t] H Q := ⟨_, _, _, _, false, rfl, .ty _, .base .non, kit_ty hk, h⟩
end
/-- [a, b] of two data -/
theorem dp_two {K : PySem.W.Frag} {H : Hp} {p : Addr} {x y : V} {d e : PyData} (h : SqL K H p [x, y]) (hx : Dp K H x d) (hy : Dp K H y e) : Dp K H (.ref p) (.list [d, e]) := .lst h (.cons hx (.cons hy .nil))
theorem shp_two {n : Nat} {d e : PyData} (hd : Shp n d) (he : Shp n e) : Shp (n + 1) (.list [d, e]) := shp_list fun x h => by
  rcases List.mem_cons.mp h with h | h
  · rw [h]; exact hd
  · rw [List.mem_singleton.mp h]; exact he
theorem eqv_two (a b c d : PyData) : PyData.eqv (.list [a, b]) (.list [c, d]) = (PyData.eqv a c && (PyData.eqv b d && true)) := by
  rw [eqv_list]
  simp only [PyData.eqvAll]
theorem eqv_same {n : Nat} {d : PyData} (h : Shp n d) : PyData.eqv d d = true := SeqAt.eqv_refl d h.1
end GW
namespace GW
open PySem PySem.Spec PyProof.Rows L2
section
variable {K : PySem.W.Frag}
theorem kBB : PySem.W.kitOne K (.type "bool") (.type "bool") = some true := kit_ty (by decide +kernel)
theorem kIB : PySem.W.kitOne K (.type "int") (.type "bool") = some false := kit_ty (by decide +kernel)
theorem kII : PySem.W.kitOne K (.type "int") (.type "int") = some true := kit_ty (by decide +kernel)
theorem kSS : PySem.W.kitOne K (.type "str") (.type "str") = some true := kit_ty (by decide +kernel)
theorem kLL : PySem.W.kitOne K (.type "list") (.type "list") = some true := kit_ty (by decide +kernel)
theorem kTT : PySem.W.kitOne K (.type "tuple") (.type "tuple") = some true := kit_ty (by decide +kernel)
end
end GW
set_option Elab.async false
set_option linter.all false
set_option maxRecDepth 100000
set_option maxHeartbeats 4000000
/-! Promises and plain functions of the gates' defs; no row. -/
namespace GW
open PySem PySem.Spec PyProof.Rows L2
def okLen (n : Nat) : Bool := n == 2 || n == 4 || n == 8
/-- the names of built-ins that the text leaves alone -/
structure Bl (mg : Str → Option Value) : Prop where
  len : mg "len" = none
  sum : mg "sum" = none
  range : mg "range" = none
  list : mg "list" = none
  tuple : mg "tuple" = none
  isinstance : mg "isinstance" = none
  bool : mg "bool" = none
  int : mg "int" = none
  str : mg "str" = none
  all : mg "all" = none
  any : mg "any" = none
  reversed : mg "reversed" = none
  sorted : mg "sorted" = none
  min : mg "min" = none
  max : mg "max" = none
  dict : mg "dict" = none
/-- the row of some inputs -/
def rowOf : List Bool → Nat
  | [] => 0
  | b :: r => (if b then 1 else 0) + 2 * rowOf r
def wideN (n : Nat) : Nat := if n = 2 then 1 else if n = 4 then 2 else 3
/-- a new list -/
def NewL (H H' : Hp) (v : V) (xs : List V) : Prop := ∃ p, v = .ref p ∧ H p = none ∧ Same H H' ∧ H' p = some (.lst xs)
theorem NewL.isB {K : PySem.W.Frag} {H H' : Hp} {v : V} {bs : List Bool} (h : NewL H H' v (LB bs)) : IsB K H' v bs := by
  obtain ⟨p, rfl, _, _, e⟩ := h
  exact ⟨p, rfl, .inl (.inl e)⟩
def sp_ask_gate (K : PySem.W.Frag) (C : Addr) : Sp := fun vs H Q E => ∃ v g, vs = [v] ∧ IsB K H v g ∧
  (okLen g.length = true → ∀ H', Same H H' → Q .non H') ∧ (okLen g.length = false → ∀ H', Same H H' → E (.ref C) none H')
def sp_row_of (K : PySem.W.Frag) : Sp := fun vs H Q _ => ∃ v g, vs = [v] ∧ IsB K H v g ∧ g.length ≤ 3 ∧ ∀ H', Same H H' → Q (.int (rowOf g)) H'
def sp_answer (K : PySem.W.Frag) (C : Addr) : Sp := fun vs H Q E => ∃ x y g ins, vs = [x, y] ∧ IsB K H x g ∧ IsB K H y ins ∧
  (okLen g.length = true → ins.length = wideN g.length ∧ ∀ H', Same H H' → Q (.bl (g.getD (rowOf ins) false)) H') ∧ (okLen g.length = false → ∀ H', Same H H' → E (.ref C) none H')
def sp_cell_at (K : PySem.W.Frag) : Sp := fun vs H Q _ => ∃ (a : Addr) (ns : List Int) (k : Nat), vs = [.ref a, .int k] ∧ SqL K H a (ns.map V.int) ∧ ∀ z : Int, Q (.int z) H
def sp_next : Sp := fun vs H Q _ => ∃ z : Int, vs = [.int z] ∧ ∀ n : Int, 0 ≤ n → n < 2147483629 → Q (.int n) H
def sp_law_gate (m : Nat) : Sp := fun vs H Q _ => ∃ z : Int, vs = [.int z, .int m] ∧ 0 ≤ z ∧ 1 ≤ m ∧ m ≤ 3 ∧ ∀ v H' g, okLen g.length = true → wideN g.length ≤ m → NewL H H' v (LB g) → Q v H'
def sp_wide (K : PySem.W.Frag) : Sp := fun vs H Q _ => ∃ v g, vs = [v] ∧ IsB K H v g ∧ okLen g.length = true ∧ ∀ H', Same H H' → Q (.int (wideN g.length)) H'
/-- all rows of m inputs, as a law goes through them -/
def rowAt (m r : Nat) : List Bool := (List.range m).map fun k => r / 2 ^ k % 2 == 1
def rowsN (m : Nat) : List (List Bool) := (List.range (2 ^ m)).map (rowAt m)
def sp_law_rows (K : PySem.W.Frag) : Sp := fun vs H Q _ => ∃ m : Nat, vs = [.int m] ∧ 1 ≤ m ∧ m ≤ 3 ∧ ∀ v H', Same H H' → (∃ p us, v = .ref p ∧ H p = none ∧ H' p = some (.lst us) ∧ Paired (IsB K H') us (rowsN m)) → Q v H'
/-- what law(script) promises -/
def spLaw (K : PySem.W.Frag) : Sp := fun vs H Q _ => ∃ (a : Addr) (ns : List Int), vs = [.ref a] ∧ SqL K H a (ns.map V.int) ∧ ns.length ≤ 63 ∧ ∀ H', Q (.bl true) H'
theorem three (P : Int → Prop) (h1 : P 1) (h2 : P 2) (h3 : P 4) : ∀ k : Nat, k < 3 → ∃ v : Int, ([V.int 1, V.int 2, V.int 4] : List V)[k]? = some (.int v) ∧ v = 2 ^ k ∧ P v
  | 0, _ => ⟨1, rfl, rfl, h1⟩
  | 1, _ => ⟨2, rfl, rfl, h2⟩
  | 2, _ => ⟨4, rfl, rfl, h3⟩
  | k + 3, h => by omega
end GW
namespace GW
open PySem PySem.Spec PyProof.Rows L2
theorem inV_len (n : Nat) : inV (V.int (n : Int)) [V.int 2, V.int 4, V.int 8] = okLen n := by
  have h : ∀ m : Nat, eqV (V.int (m : Int)) (V.int (n : Int)) = (n == m) := fun m => by
    show decide ((m : Int) = (n : Int)) = decide (n = m)
    by_cases e : n = m
    · rw [decide_eq_true e, decide_eq_true (by omega)]
    · rw [decide_eq_false e, decide_eq_false (by omega)]
  show ([V.int 2, V.int 4, V.int 8].any fun y => eqV y (V.int (n : Int))) = okLen n
  rw [List.any_cons, List.any_cons, List.any_cons, List.any_nil]
  have h2 := h 2; have h4 := h 4; have h8 := h 8
  rw [show (V.int 2) = V.int ((2 : Nat) : Int) from rfl, show (V.int 4) = V.int ((4 : Nat) : Int) from rfl, show (V.int 8) = V.int ((8 : Nat) : Int) from rfl, h2, h4, h8]
  unfold okLen
  cases (n == 2) <;> cases (n == 4) <;> cases (n == 8) <;> rfl
end GW
namespace GW
open PySem PySem.Spec PyProof.Rows L2
theorem wide_le (n : Nat) : wideN n ≤ 3 := by
  unfold wideN
  split
  · omega
  · split <;> omega
theorem wide_pos (n : Nat) : 1 ≤ wideN n := by
  unfold wideN
  split
  · omega
  · split <;> omega
theorem okLen_cases {n : Nat} (h : okLen n = true) : n = 2 ∨ n = 4 ∨ n = 8 := by
  unfold okLen at h
  simp only [Bool.or_eq_true, beq_iff_eq] at h
  omega
theorem wide_pow {n : Nat} (h : okLen n = true) : 2 ^ wideN n = n := by
  rcases okLen_cases h with e | e | e <;> subst e <;> rfl
theorem rowOf_lt : ∀ ins : List Bool, rowOf ins < 2 ^ ins.length
  | [] => by decide
  | b :: r => by
    have h := rowOf_lt r
    show (if b then 1 else 0) + 2 * rowOf r < 2 ^ (r.length + 1)
    rw [Nat.pow_succ]
    cases b with
    | true =>
      show 1 + 2 * rowOf r < _
      omega
    | false =>
      show 0 + 2 * rowOf r < _
      omega
theorem row_lt {g ins : List Bool} (h : okLen g.length = true) (hl : ins.length = wideN g.length) : rowOf ins < g.length := by
  have q := rowOf_lt ins
  rw [hl, wide_pow h] at q
  exact q
/-- 1, 2, 4 -/
def bitN : Nat → Int
  | 0 => 1
  | 1 => 2
  | 2 => 4
  | _ => 0
theorem bit_at : ∀ {i : Nat}, i < 3 → ([.int 1, .int 2, .int 4] : List V)[i]? = some (.int (bitN i))
  | 0, _ => rfl
  | 1, _ => rfl
  | 2, _ => rfl
  | i + 3, h => by omega
theorem row_sum : ∀ {g : List Bool}, g.length ≤ 3 → (rowOf g : Int) = (((List.range g.length).filter fun i => g.getD i false).map bitN).sum
  | [], _ => rfl
  | [a], _ => by cases a <;> rfl
  | [a, b], _ => by cases a <;> cases b <;> rfl
  | [a, b, c], _ => by cases a <;> cases b <;> cases c <;> rfl
  | _ :: _ :: _ :: _ :: _, h => by simp at h
theorem okLen_le {n : Nat} (h : okLen n = true) : n ≤ 8 := by
  rcases okLen_cases h with e | e | e <;> omega
theorem size_at (z : Int) {m : Nat} (h1 : 1 ≤ m) (h3 : m ≤ 3) : ∃ n : Nat, okLen n = true ∧ wideN n ≤ m ∧ atI [V.int 2, V.int 4, V.int 8] (z % (m : Int)) = some (V.int (n : Int)) := by
  have a := Int.emod_nonneg z (show (m : Int) ≠ 0 by omega)
  have b := Int.emod_lt_of_pos z (show (0 : Int) < (m : Int) by omega)
  have c : z % (m : Int) = 0 ∨ (z % (m : Int) = 1 ∧ 2 ≤ m) ∨ (z % (m : Int) = 2 ∧ 3 ≤ m) := by omega
  rcases c with c | ⟨c, d⟩ | ⟨c, d⟩
  · exact ⟨2, rfl, h1, by rw [c]; exact atI_nat (j := 0) rfl⟩
  · exact ⟨4, rfl, d, by rw [c]; exact atI_nat (j := 1) rfl⟩
  · exact ⟨8, rfl, d, by rw [c]; exact atI_nat (j := 2) rfl⟩
end GW
namespace GW
open PySem PySem.Spec PyProof.Rows L2
theorem row_bit : ∀ {k r : Nat}, k < 3 → decide (V.int ((r : Int) / bitN k % 2) = V.int 1) = (r / 2 ^ k % 2 == 1)
  | 0, r, _ => by
    show decide (V.int ((r : Int) / 1 % 2) = V.int 1) = decide (r / 1 % 2 = 1)
    exact decide_eq_decide.mpr ⟨fun h => by have := V.int.inj h; omega, fun h => congrArg V.int (by omega)⟩
  | 1, r, _ => by
    show decide (V.int ((r : Int) / 2 % 2) = V.int 1) = decide (r / 2 % 2 = 1)
    exact decide_eq_decide.mpr ⟨fun h => by have := V.int.inj h; omega, fun h => congrArg V.int (by omega)⟩
  | 2, r, _ => by
    show decide (V.int ((r : Int) / 4 % 2) = V.int 1) = decide (r / 4 % 2 = 1)
    exact decide_eq_decide.mpr ⟨fun h => by have := V.int.inj h; omega, fun h => congrArg V.int (by omega)⟩
  | k + 3, _, h => by omega
theorem bit_div : ∀ {k : Nat} (r : Int), k < 3 → CDiv r (bitN k)
  | 0, _, _ => ⟨by decide, by decide⟩
  | 1, _, _ => ⟨by decide, by decide⟩
  | 2, _, _ => ⟨by decide, by decide⟩
  | k + 3, _, h => by omega
theorem rows_len {m : Nat} : (rowsN m).length = 2 ^ m := by
  unfold rowsN
  rw [List.length_map, List.length_range]
theorem rowAt_len {m r : Nat} : (rowAt m r).length = m := by
  unfold rowAt
  rw [List.length_map, List.length_range]
theorem rows_at {m i : Nat} (h : i < 2 ^ m) : (rowsN m)[i]? = some (rowAt m i) := by
  unfold rowsN
  rw [List.getElem?_map, List.getElem?_range h]
  rfl
theorem rows_take {m i : Nat} (h : i < 2 ^ m) : (rowsN m).take (i + 1) = (rowsN m).take i ++ [rowAt m i] := by
  rw [List.take_add_one, rows_at h]
  rfl
/-- the row that the inputs of a row count to is the row -/
theorem rowOf_at {m i : Nat} (hm : m ≤ 3) (h : i < 2 ^ m) : rowOf (rowAt m i) = i := by
  match m, hm with
  | 0, _ => match i, h with | 0, _ => rfl
  | 1, _ => match i, h with | 0, _ => rfl | 1, _ => rfl
  | 2, _ => match i, h with | 0, _ => rfl | 1, _ => rfl | 2, _ => rfl | 3, _ => rfl
  | 3, _ => match i, h with | 0, _ => rfl | 1, _ => rfl | 2, _ => rfl | 3, _ => rfl | 4, _ => rfl | 5, _ => rfl | 6, _ => rfl | 7, _ => rfl
theorem pow_at {m : Nat} (h1 : 1 ≤ m) (h3 : m ≤ 3) : atI [V.int 2, V.int 4, V.int 8] ((m : Int) - 1) = some (V.int ((2 ^ m : Nat) : Int)) := by
  have : m = 1 ∨ m = 2 ∨ m = 3 := by omega
  rcases this with e | e | e <;> subst e
  · exact atI_nat (j := 0) rfl
  · exact atI_nat (j := 1) rfl
  · exact atI_nat (j := 2) rfl
theorem pow_le {m : Nat} (h3 : m ≤ 3) : 2 ^ m ≤ 8 := by
  have : m = 0 ∨ m = 1 ∨ m = 2 ∨ m = 3 := by omega
  rcases this with e | e | e | e <;> subst e <;> decide
end GW
namespace GW
open PySem PySem.Spec PyProof.Rows L2
def topS (i : Nat) : Stmt := PySem.Challenge.pw_gatewhole_k01_answer.main.body.getD i (.Pass ⟨0, 0, 0, 0⟩)
abbrev s_ask_gate : Stmt := topS 5
theorem sc_ask_gate : FnScope ["gate"] ["gate"] (defScope s_ask_gate) := ⟨rfl, rfl, rfl, by decide +kernel, rfl, by decide +kernel, by decide +kernel⟩
abbrev s_row_of : Stmt := topS 6
theorem sc_row_of : FnScope ["inputs", "k"] ["inputs"] (defScope s_row_of) := ⟨rfl, rfl, rfl, by decide +kernel, rfl, by decide +kernel, by decide +kernel⟩
abbrev s_answer : Stmt := topS 7
theorem sc_answer : FnScope ["gate", "inputs"] ["gate", "inputs"] (defScope s_answer) := ⟨rfl, rfl, rfl, by decide +kernel, rfl, by decide +kernel, by decide +kernel⟩
abbrev s__law_cell_at : Stmt := topS 9
theorem sc__law_cell_at : FnScope ["script", "k"] ["script", "k"] (defScope s__law_cell_at) := ⟨rfl, rfl, rfl, by decide +kernel, rfl, by decide +kernel, by decide +kernel⟩
abbrev s__law_next : Stmt := topS 10
theorem sc__law_next : FnScope ["seed"] ["seed"] (defScope s__law_next) := ⟨rfl, rfl, rfl, by decide +kernel, rfl, by decide +kernel, by decide +kernel⟩
abbrev s__law_gate : Stmt := topS 11
theorem sc__law_gate : FnScope ["seed", "most", "size", "way", "found", "left", "row"] ["seed", "most"] (defScope s__law_gate) := ⟨rfl, rfl, rfl, by decide +kernel, rfl, by decide +kernel, by decide +kernel⟩
abbrev s__law_wide : Stmt := topS 12
theorem sc__law_wide : FnScope ["gate"] ["gate"] (defScope s__law_wide) := ⟨rfl, rfl, rfl, by decide +kernel, rfl, by decide +kernel, by decide +kernel⟩
abbrev s__law_rows : Stmt := topS 13
theorem sc__law_rows : FnScope ["many", "found", "row", "k"] ["many"] (defScope s__law_rows) := ⟨rfl, rfl, rfl, by decide +kernel, rfl, by decide +kernel, by decide +kernel⟩
abbrev s_law : Stmt := topS 14
theorem sc_law : FnScope ["script", "gate", "rows", "row", "handed", "found"] ["script"] (defScope s_law) := ⟨rfl, rfl, rfl, by decide +kernel, rfl, by decide +kernel, by decide +kernel⟩
end GW
namespace GW
open PySem PySem.Spec PyProof.Rows L2
section
variable {P : Program} {w : World} {K : PySem.W.Frag} {mg : Str → Option Value} {base : Heap}
theorem ok_ask_gate {C : Addr} (D : Def K mg "ask_gate" s_ask_gate ["gate"]) (B : Bl mg) (e_NoGate : ErrC K mg "NoGate" C) : Fn P w K mg base (L2.CX P w) 1 "ask_gate" ["gate"] (sp_ask_gate K C) := by
  have m_len := B.len
  refine D.fn fun f fd F => F.okX sc_ask_gate (fun vs H Q E h => ?_) (fun cdv A outer s H vs Q E hr h => ?_)
  · obtain ⟨a, ns, rfl, _⟩ := h
    rfl
  obtain ⟨v, g, rfl, ⟨a, rfl, hS⟩, q1, q2⟩ := h
  refine ⟨_, (pss_one (ps_if (pt_cmpR (notInS (K := K)) (pe_callB (lenS (K := K)) (by rfl) m_len PySem.boot_len (pa_cons (pv 0) pa_nil)) (pe_tup (pa_cons pe_int (pa_cons pe_int (pa_cons pe_int pa_nil)))) (by rfl)) (pss_one (ps_raise rfl (takes_of rfl rfl rfl rfl) (pmk_own PySem.F.excBase_ValueError e_NoGate.x e_NoGate.g e_NoGate.k (raises_own e_NoGate.b e_NoGate.t) rfl))) pss_nil)), ?_⟩
  refine ⟨_, rfl, a, _, rfl, .inl hS, by show 3 ≤ sizeLine; decide, fun p np => ⟨p, _, rfl, .inr (SqT.of upd_same), rfl, rfl, _, rfl, ?_⟩⟩
  show if (if true = true then !inV (V.int ((LB g).length : Int)) [V.int 2, V.int 4, V.int 8] else inV (V.int ((LB g).length : Int)) [V.int 2, V.int 4, V.int 8]) = true then _ else _
  rw [if_pos rfl, inV_len, lb_len]
  cases e : okLen g.length with
  | true => exact iteF (q1 e _ (Same.new np))
  | false => exact iteT (q2 e _ (Same.new np))
theorem ok_row_of {aB : Addr} (D : Def K mg "row_of" s_row_of ["inputs"]) (B : Bl mg) (m_BITS : mg "BITS" = some (.ref aB)) (hB : ∀ H, SqT K H aB [.int 1, .int 2, .int 4]) : Fn P w K mg base CX0 1 "row_of" ["inputs"] (sp_row_of K) := by
  have m_len := B.len; have m_sum := B.sum; have m_range := B.range
  refine D.fn fun f fd F => F.ok sc_row_of (fun vs H Q E h => ?_) (fun cdv A outer s H vs Q E hr h => ?_)
  · obtain ⟨a, ns, rfl, _⟩ := h
    rfl
  obtain ⟨v, g, rfl, ⟨a, rfl, hS⟩, hl, q⟩ := h
  refine ⟨_, (pss_one (ps_ret (pe_callB (sumS (K := K) rfl) (by rfl) m_sum (by decide +kernel) (pa_cons (pe_lc (own := [("k", 1)]) (g := gName 1) rfl sc_row_of.nd (pi_range1 (by rfl) m_range (pa_cons (pe_callB (lenS (K := K)) (by rfl) m_len PySem.boot_len (pa_cons (pv 0) pa_nil)) pa_nil)) (blkOk_by (N := ["inputs", "k"]) (sc := defScope s_row_of) (by decide +kernel)) (fun _ _ _ _ _ => pg_name (i := 1) sc_row_of.nd rfl (Or.inl rfl)) (fun _ _ _ _ _ => (pts_one (pt_val (pe_ix (ixL (K := K)) (pv 0) (pv 1) (fun _ _ => rfl))))) (fun _ _ _ _ _ => (pe_ix (ixT (K := K)) (pe_glob (v := .ref aB) rfl m_BITS rfl) (pv 1) (fun _ _ => rfl)))) pa_nil)))), ?_⟩
  refine rd_ret (rd_cb (rd_cons ?_))
  refine lcR1 ((LB g).length : Int) (fun i => g.getD i false) (fun i => .int (bitN i)) ⟨by omega, by rw [lb_len]; omega⟩ (Evl.ea_cons (Evl.ev_len (Evl.ev_var rfl) hS) Evl.ea_nil) (fun _ => rfl) (fun i H1 e hi => ?_) (fun i H1 e hi _ => ?_) (fun p H2 hp e2 h2 => ?_)
  · exact Evl.et_B (Evl.ev_op (Evl.ev_var rfl) (Evl.ev_var rfl) (Evl.rv_ixL (Same.seq e hS) (atI_nat (lb_get (by rw [lb_len] at hi; omega)))))
  · rw [lb_len] at hi
    have hi3 : i < 3 := by omega
    refine Evl.ev_op Evl.ev_c (Evl.ev_var rfl) (Evl.rv_ixT (hB H1) (atI_nat ?_))
    exact bit_at hi3
  · refine ⟨p, (((List.range ((LB g).length : Int).toNat).filter fun i => g.getD i false).map bitN), rfl, .inl (.inl ?_), ?_⟩
    · rw [h2]
      unfold Evl.given
      rw [List.map_map]
      rfl
    · have z := q H2 e2
      rw [row_sum hl] at z
      rw [show ((LB g).length : Int).toNat = g.length by rw [lb_len]; omega]
      exact z
theorem ok_answer {C : Addr} (D : Def K mg "answer" s_answer ["gate", "inputs"]) (G_ask_gate : Fn P w K mg base (L2.CX P w) 1 "ask_gate" ["gate"] (sp_ask_gate K C)) (G_row_of : Fn P w K mg base CX0 1 "row_of" ["inputs"] (sp_row_of K)) :
    Fn P w K mg base (L2.CX P w) 2 "answer" ["gate", "inputs"] (sp_answer K C) := by
  refine D.fn fun f fd F => F.okX sc_answer (fun vs H Q E h => ?_) (fun cdv A outer s H vs Q E hr h => ?_)
  · obtain ⟨a, b, g, ns, rfl, _⟩ := h
    rfl
  obtain ⟨x, y, g, ins, rfl, hx, hy, q1, q2⟩ := h
  refine ⟨_, (pss_cons (ps_expr (pe_fn G_ask_gate (hr.mono (by decide)) (by rfl) (passes_call (takes_of rfl rfl rfl rfl) fun _ _ _ _ h => h) (pa_cons (pv 0) pa_nil)))
  (pss_one (ps_ret (pe_ix (ixL (K := K)) (pv 0) (pe_fn G_row_of (hr.mono (by decide)) (by rfl) pass0 (pa_cons (pv 1) pa_nil)) (fun _ _ => rfl))))), ?_⟩
  refine ⟨_, rfl, x, g, rfl, hx, fun e H' s1 => ?_, fun e H' s1 => q2 e H' s1⟩
  obtain ⟨hl, q⟩ := q1 e
  have hlt : rowOf ins < g.length := row_lt e hl
  refine ⟨_, rfl, _, rfl, y, ins, rfl, hy.mono s1, ?_, fun H2 s2 => ?_⟩
  · rw [hl]; exact wide_le _
  · obtain ⟨a, rfl, hS⟩ := hx.mono (s1.trans s2)
    exact ⟨a, _, _, _, rfl, rfl, hS, atI_nat (lb_get hlt), q H2 (s1.trans s2)⟩
theorem ok_cell_at (D : Def K mg "_law_cell_at" s__law_cell_at ["script", "k"]) (B : Bl mg) : Fn P w K mg base CX0 1 "_law_cell_at" ["script", "k"] (sp_cell_at K) := by
  have m_len := B.len
  refine D.fn fun f fd F => F.ok sc__law_cell_at (fun vs H Q E h => ?_) (fun cdv A outer s H vs Q E hr h => ?_)
  · obtain ⟨a, ns, k, rfl, _⟩ := h
    rfl
  obtain ⟨a, ns, k, rfl, hS, q⟩ := h
  refine ⟨_, (pss_cons (ps_if (pt_cmpR op_lt (pv 1) (pe_callB (lenS (K := K)) (by rfl) m_len PySem.boot_len (pa_cons (pv 0) pa_nil)) (nomark _)) (pss_one (ps_ret (pe_ix (ixL (K := K)) (pv 0) (pv 1) (fun _ _ => rfl)))) pss_nil)
  (pss_one (ps_ret pe_int))), ?_⟩
  refine ⟨_, rfl, _, rfl, a, _, rfl, .inl hS, _, _, rfl, rfl, _, rfl, ite2 (fun c => ?_) (fun c => q 0)⟩
  have c' : (k : Int) < (((ns.map V.int).length : Nat) : Int) := of_decide_eq_true c
  rw [List.length_map] at c'
  have hk : k < ns.length := by omega
  exact ⟨_, rfl, _, rfl, a, _, k, _, rfl, rfl, hS, atI_nat (by rw [List.getElem?_map, List.getElem?_eq_getElem hk]; rfl), q _⟩
theorem ok_next (D : Def K mg "_law_next" s__law_next ["seed"]) : Fn P w K mg base CX0 1 "_law_next" ["seed"] sp_next := by
  refine D.fn fun f fd F => F.ok sc__law_next (fun vs H Q E h => ?_) (fun cdv A outer s H vs Q E hr h => ?_)
  · obtain ⟨z, rfl, _⟩ := h
    rfl
  obtain ⟨z, rfl, q⟩ := h
  refine ⟨_, (pss_cons (ps_set (i := 0) sc__law_next.nd rfl (Or.inl rfl) (pe_op op_mod (pe_op op_add (pv 0) pe_int) pe_int))
  (pss_one (ps_ret (pe_op op_mod (pe_op op_add (pe_op op_add (pe_op op_mul (pv 0) (pv 0)) (pe_op op_mul pe_int (pv 0))) pe_int) pe_int)))), ?_⟩
  have h1 := Int.emod_nonneg (z + 7919) (show (2147483647 : Int) ≠ 0 by decide)
  have h2 := Int.emod_lt_of_pos (z + 7919) (show (0 : Int) < 2147483647 by decide)
  refine ⟨_, rfl, _, _, rfl, rfl, _, _, rfl, rfl, (by show (0 : Int) < 2147483647; decide), ?_⟩
  refine ⟨_, rfl, _, rfl, _, _, rfl, rfl, .inl ⟨by omega, by omega⟩, _, rfl, _, _, rfl, rfl, .inl ⟨by decide, by decide⟩, _, _, rfl, rfl, _, _, rfl, rfl, _, _, rfl, rfl, (by show (0 : Int) < 2147483629; decide), ?_⟩
  exact q _ (Int.emod_nonneg _ (by decide)) (Int.emod_lt_of_pos _ (by decide))
theorem ok_law_gate (D : Def K mg "_law_gate" s__law_gate ["seed", "most"]) (B : Bl mg) (m : Nat) : Fn P w K mg base CX0 1 "_law_gate" ["seed", "most"] (sp_law_gate m) := by
  have m_range := B.range
  refine D.fn fun f fd F => F.ok sc__law_gate (fun vs H Q E h => ?_) (fun cdv A outer s H vs Q E hr h => ?_)
  · obtain ⟨z, rfl, _⟩ := h
    rfl
  obtain ⟨z, rfl, hz, h1, h3, q⟩ := h
  refine ⟨_, (pss_cons (ps_set (i := 2) sc__law_gate.nd rfl (Or.inr rfl) (pe_ix (ixL (K := K)) (pe_lst (pa_cons pe_int (pa_cons pe_int (pa_cons pe_int pa_nil)))) (pe_op op_mod (pe_op op_fdiv (pv 0) pe_int) (pv 1)) (fun _ _ => rfl)))
  (pss_cons (ps_set (i := 3) sc__law_gate.nd rfl (Or.inl rfl) (pe_op op_mod (pe_op op_fdiv (pv 0) pe_int) pe_int))
  (pss_cons (ps_if (pt_cmpR op_eq (pv 3) pe_int (nomark _)) (pss_one (ps_ret (pe_lc (own := [("row", 6)]) (g := gName 6) (tt := tYes) rfl sc__law_gate.nd (pi_range1 (by rfl) m_range (pa_cons (pv 2) pa_nil)) (blkOk_by (N := ["seed", "most", "size", "way", "found", "left", "row"]) (sc := defScope s__law_gate) (by decide +kernel)) (fun _ _ _ _ _ => pg_name (i := 6) sc__law_gate.nd rfl (Or.inl rfl)) (fun _ _ _ _ _ => pts_nil) (fun _ _ _ _ _ => (pe_cmpR op_eq (pe_op op_mod (pv 6) pe_int) (pe_op op_mod (pe_op op_fdiv (pv 0) pe_int) pe_int) (nomark _)))))) pss_nil)
  (pss_cons (ps_if (pt_cmpR op_eq (pv 3) pe_int (nomark _)) (pss_one (ps_ret (pe_lc (own := [("row", 6)]) (g := gName 6) (tt := tYes) rfl sc__law_gate.nd (pi_range1 (by rfl) m_range (pa_cons (pv 2) pa_nil)) (blkOk_by (N := ["seed", "most", "size", "way", "found", "left", "row"]) (sc := defScope s__law_gate) (by decide +kernel)) (fun _ _ _ _ _ => pg_name (i := 6) sc__law_gate.nd rfl (Or.inl rfl)) (fun _ _ _ _ _ => pts_nil) (fun _ _ _ _ _ => (pe_cmpR op_eq (pv 6) (pe_op op_sub (pv 2) pe_int) (nomark _)))))) pss_nil)
  (pss_cons (ps_if (pt_cmpR op_eq (pv 3) pe_int (nomark _)) (pss_one (ps_ret (pe_lc (own := [("row", 6)]) (g := gName 6) (tt := tYes) rfl sc__law_gate.nd (pi_range1 (by rfl) m_range (pa_cons (pv 2) pa_nil)) (blkOk_by (N := ["seed", "most", "size", "way", "found", "left", "row"]) (sc := defScope s__law_gate) (by decide +kernel)) (fun _ _ _ _ _ => pg_name (i := 6) sc__law_gate.nd rfl (Or.inl rfl)) (fun _ _ _ _ _ => pts_nil) (fun _ _ _ _ _ => (pe_cmpR op_gt (pv 6) pe_int (nomark _)))))) pss_nil)
  (pss_cons (ps_if (pt_cmpR op_eq (pv 3) pe_int (nomark _)) (pss_one (ps_ret (pe_lc (own := [("row", 6)]) (g := gName 6) (tt := tYes) rfl sc__law_gate.nd (pi_range1 (by rfl) m_range (pa_cons (pv 2) pa_nil)) (blkOk_by (N := ["seed", "most", "size", "way", "found", "left", "row"]) (sc := defScope s__law_gate) (by decide +kernel)) (fun _ _ _ _ _ => pg_name (i := 6) sc__law_gate.nd rfl (Or.inl rfl)) (fun _ _ _ _ _ => pts_nil) (fun _ _ _ _ _ => (pe_cmpR op_eq (pe_op op_mod (pe_op op_add (pe_op op_add (pv 6) (pe_op op_fdiv (pv 6) pe_int)) (pe_op op_fdiv (pv 6) pe_int)) pe_int) (pe_op op_mod (pe_op op_fdiv (pv 0) pe_int) pe_int) (nomark _)))))) pss_nil)
  (pss_cons (ps_if (PW.pt (pw_and (pt_cmpR op_eq (pv 3) pe_int (nomark _)) (pw_and1 (pt_cmpR op_eq (pv 2) pe_int (nomark _))))) (pss_one (ps_ret (pe_lc (own := [("row", 6)]) (g := gName 6) (tt := tYes) rfl sc__law_gate.nd (pi_range1 (by rfl) m_range (pa_cons (pv 2) pa_nil)) (blkOk_by (N := ["seed", "most", "size", "way", "found", "left", "row"]) (sc := defScope s__law_gate) (by decide +kernel)) (fun _ _ _ _ _ => pg_name (i := 6) sc__law_gate.nd rfl (Or.inl rfl)) (fun _ _ _ _ _ => pts_nil) (fun _ _ _ _ _ => (pe_cmpR (inS (K := K)) (pv 6) (pe_tup (pa_cons pe_int (pa_cons pe_int (pa_cons pe_int (pa_cons pe_int pa_nil))))) (by rfl)))))) pss_nil)
  (pss_cons (ps_set (i := 4) sc__law_gate.nd rfl (Or.inl rfl) (pe_lst pa_nil))
  (pss_cons (ps_set (i := 5) sc__law_gate.nd rfl (Or.inl rfl) (pe_op op_fdiv (pv 0) pe_int))
  (pss_cons (ps_for PassesOwn.never rfl (pi_range1 (by rfl) m_range (pa_cons (pv 2) pa_nil)) (pg_name (i := 6) sc__law_gate.nd rfl (Or.inl rfl))
  (pss_cons (ps_expr (pe_bm PySem.F.plainAttrs_list PySem.F.slot_list_append PySem.F.type_list_append mt_append (pv 4) (pa_cons (pe_cmpR op_eq (pe_op op_mod (pv 5) pe_int) pe_int (nomark _)) pa_nil)))
  (pss_one (ps_set (i := 5) sc__law_gate.nd rfl (Or.inl rfl) (pe_op op_fdiv (pv 5) pe_int)))))
  (pss_one (ps_ret (pv 4))))))))))))), ?_⟩
  -- size
  refine ⟨by show 3 ≤ sizeLine; decide, fun p np => ?_⟩
  have s0 : Same H (upd H p (.lst [.int 2, .int 4, .int 8])) := Same.new np
  obtain ⟨n, hn, hw, ha⟩ := size_at (z / 7) (m := m) h1 h3
  refine ⟨_, rfl, _, _, rfl, rfl, ⟨by decide, by decide⟩, _, rfl, _, _, rfl, rfl, (by show (0 : Int) < (m : Int); omega), p, _, _, _, rfl, rfl, SqL.of upd_same, ha, ?_⟩
  have hn8 : n ≤ 8 := okLen_le hn
  revert s0
  generalize upd H p (.lst [.int 2, .int 4, .int 8]) = H1
  intro s0
  have fin : ∀ (f : Nat → Bool) (r : Addr) (H' : Hp), H1 r = none → Same H1 H' → H' r = some (.lst (Evl.given ((n : Int)).toNat (fun _ => true) (fun i => .bl (f i)))) → Q (.ref r) H' := fun f r H' nr s1 e => by
    rw [given_all fun _ _ => rfl, show ((n : Int)).toNat = n by omega] at e
    rw [map_bl] at e
    refine q _ H' ((List.range n).map f) ?_ ?_ ⟨r, rfl, s0.free nr, s0.trans s1, e⟩
    · rw [List.length_map, List.length_range]; exact hn
    · rw [List.length_map, List.length_range]; exact hw
  -- way
  refine ⟨_, rfl, _, _, rfl, rfl, ⟨by decide, by decide⟩, _, _, rfl, rfl, (by show (0 : Int) < 6; decide), ?_⟩
  have bnd : (0 : Int) ≤ (n : Int) ∧ (n : Int) ≤ 40000 := by omega
  refine ⟨_, rfl, rfl, _, rfl, ite2 (fun _ => ?_) (fun _ => ?_)⟩
  · refine rd_ret ?_
    refine lcR1 (n : Int) (fun _ => true) (fun i => .bl (decide (V.int ((i : Int) % 2) = V.int (z / 126 % 2)))) bnd (Evl.ea_cons (Evl.ev_var rfl) Evl.ea_nil) (fun _ => rfl) (fun i H1 e hi => et_yes) (fun i H1 e hi _ => ?_) (fun r H' nr s1 e => fin _ r H' nr s1 e)
    exact Evl.ev_op (Evl.ev_op (Evl.ev_var rfl) Evl.ev_c (Evl.rv_I (by show (0 : Int) < 2; decide))) (Evl.ev_op (Evl.ev_op (Evl.ev_var rfl) Evl.ev_c (Evl.rv_I ⟨by decide, by decide⟩)) Evl.ev_c (Evl.rv_I (by show (0 : Int) < 2; decide))) (Evl.rv_eq rfl)
  refine ⟨_, rfl, rfl, _, rfl, ite2 (fun _ => ?_) (fun _ => ?_)⟩
  · refine rd_ret ?_
    refine lcR1 (n : Int) (fun _ => true) (fun i => .bl (decide (V.int (i : Int) = V.int ((n : Int) - 1)))) bnd (Evl.ea_cons (Evl.ev_var rfl) Evl.ea_nil) (fun _ => rfl) (fun i H1 e hi => et_yes) (fun i H1 e hi _ => ?_) (fun r H' nr s1 e => fin _ r H' nr s1 e)
    exact Evl.ev_op (Evl.ev_var rfl) (Evl.ev_op (Evl.ev_var rfl) Evl.ev_c Evl.rv_I0) (Evl.rv_eq rfl)
  refine ⟨_, rfl, rfl, _, rfl, ite2 (fun _ => ?_) (fun _ => ?_)⟩
  · refine rd_ret ?_
    refine lcR1 (n : Int) (fun _ => true) (fun i => .bl (decide ((0 : Int) < (i : Int)))) bnd (Evl.ea_cons (Evl.ev_var rfl) Evl.ea_nil) (fun _ => rfl) (fun i H1 e hi => et_yes) (fun i H1 e hi _ => ?_) (fun r H' nr s1 e => fin _ r H' nr s1 e)
    exact Evl.ev_op (Evl.ev_var rfl) Evl.ev_c (Evl.rv_I0 (g := fun i j => .bl (decide (j < i))))
  refine ⟨_, rfl, rfl, _, rfl, ite2 (fun _ => ?_) (fun _ => ?_)⟩
  · refine rd_ret ?_
    refine lcR1 (n : Int) (fun _ => true) (fun i => .bl (decide (V.int (((i : Int) + (i : Int) / 2 + (i : Int) / 4) % 2) = V.int (z / 126 % 2)))) bnd (Evl.ea_cons (Evl.ev_var rfl) Evl.ea_nil) (fun _ => rfl) (fun i H1 e hi => et_yes) (fun i H1 e hi _ => ?_) (fun r H' nr s1 e => fin _ r H' nr s1 e)
    exact Evl.ev_op (Evl.ev_op (Evl.ev_op (Evl.ev_op (Evl.ev_var rfl) (Evl.ev_op (Evl.ev_var rfl) Evl.ev_c (Evl.rv_I ⟨by decide, by decide⟩)) Evl.rv_I0) (Evl.ev_op (Evl.ev_var rfl) Evl.ev_c (Evl.rv_I ⟨by decide, by decide⟩)) Evl.rv_I0) Evl.ev_c (Evl.rv_I (by show (0 : Int) < 2; decide))) (Evl.ev_op (Evl.ev_op (Evl.ev_var rfl) Evl.ev_c (Evl.rv_I ⟨by decide, by decide⟩)) Evl.ev_c (Evl.rv_I (by show (0 : Int) < 2; decide))) (Evl.rv_eq rfl)
  have loop : tSeq (tAsg (tLst tNil) (gName 4)) (tSeq (tAsg (tOp (rI CDiv fun i j => .int (i / j)) (tVar 0) (tC (.int 126))) (gName 5)) (tSeq (tFor (iRng1 (tCons (tVar 2) tNil)) (gName 6) (tSeq (tDrop (tBM K "list" rAppend (tVar 4) (tCons (tOp rEq (tOp (rI (fun _ j => 0 < j) fun i j => .int (i % j)) (tVar 5) (tC (.int 2))) (tC (.int 1))) tNil)))
      (tAsg (tOp (rI CDiv fun i j => .int (i / j)) (tVar 5) (tC (.int 2))) (gName 5)))) (tRet (tVar 4)))) { nx := fun _ H' => Q .non H', rt := Q } [some (.int z), some (.int m), some (.int n), some (.int (z / 21 % 6)), none, none, none] H1 := by
    refine ⟨by show 0 ≤ sizeLine; decide, fun r nr => ?_⟩
    refine ⟨_, rfl, _, _, rfl, rfl, ⟨by decide, by decide⟩, ?_⟩
    refine ⟨_, rfl, (n : Int), rfl, by omega, by omega, for_range (lo := 0) (n := ((n : Int)).toNat) (fun i σ H' => ∃ (bs : List Bool) (l : Int) (x : Option V), σ = [some (.int z), some (.int m), some (.int n), some (.int (z / 21 % 6)), some (.ref r), some (.int l), x] ∧ bs.length = i ∧ Same H1 H' ∧ H' r = some (.lst (LB bs))) ⟨[], _, none, rfl, rfl, Same.new nr, upd_same⟩ ?_ ?_⟩
    · rintro i σ H' hi ⟨bs, l, x, rfl, hl, s2, e⟩
      refine ⟨_, rfl, .inl ⟨rfl, _, SqL.of e⟩, _, rfl, _, _, rfl, rfl, (by show (0 : Int) < 2; decide), rfl, r, _, _, rfl, rfl, e, by rw [lb_len]; exact szl (by omega), ?_⟩
      refine ⟨_, rfl, _, _, rfl, rfl, ⟨by decide, by decide⟩, ?_⟩
      exact ⟨bs ++ [decide (V.int (l % 2) = V.int 1)], _, _, rfl, by rw [List.length_append, hl]; rfl, s2.mut nr, by rw [upd_same, lb_app]⟩
    · rintro σ H' ⟨bs, l, x, rfl, hl, s2, e⟩
      have hl' : bs.length = n := by omega
      exact ⟨_, rfl, q _ H' bs (by rw [hl']; exact hn) (by rw [hl']; exact hw) ⟨r, rfl, s0.free nr, s0.trans s2, e⟩⟩
  refine ⟨_, rfl, rfl, _, rfl, ite2 (fun _ => ?_) (fun _ => iteF loop)⟩
  refine ⟨_, rfl, rfl, _, rfl, ite2 (fun _ => ?_) (fun _ => loop)⟩
  refine rd_ret ?_
  refine lcR1 (n : Int) (fun _ => true) (fun i => .bl (inV (.int (i : Int)) [.int 3, .int 5, .int 6, .int 7])) bnd (Evl.ea_cons (Evl.ev_var rfl) Evl.ea_nil) (fun _ => rfl) (fun i H1 e hi => et_yes) (fun i H1 e hi _ => ?_) (fun r H' nr s1 e => fin _ r H' nr s1 e)
  exact Evl.ev_inU (Evl.ev_var rfl) (Evl.eu_tup (Evl.ea_cons Evl.ev_c (Evl.ea_cons Evl.ev_c (Evl.ea_cons Evl.ev_c (Evl.ea_cons Evl.ev_c Evl.ea_nil)))) (by show 4 ≤ 100000; decide)) rfl rfl
theorem ok__law_wide (D : Def K mg "_law_wide" s__law_wide ["gate"]) (B : Bl mg) : Fn P w K mg base CX0 1 "_law_wide" ["gate"] (sp_wide K) := by
  have m_len := B.len
  refine D.fn fun f fd F => F.ok sc__law_wide (fun vs H Q E h => ?_) (fun cdv A outer s H vs Q E hr h => ?_)
  · obtain ⟨v, g, rfl, _⟩ := h
    rfl
  obtain ⟨v, g, rfl, ⟨a, rfl, hS⟩, hl, q⟩ := h
  refine ⟨_, (pss_one (ps_ret (pe_dget (hu_of hr) (pe_disp (pps_cons pe_int pe_int (pps_cons pe_int pe_int (pps_cons pe_int pe_int pps_nil))) (by rfl) (by rfl) (fun z => by cases z) (by decide)) (pe_callB (lenS (K := K)) (by rfl) m_len PySem.boot_len (pa_cons (pv 0) pa_nil)) (fun _ _ => rfl)))), ?_⟩
  intro p np
  refine ⟨upd_same, [(.inl 2, .int 1), (.inl 4, .int 2), (.inl 8, .int 3)], rfl, by decide, ?_⟩
  have s1 : Same H (upd (upd H p (.dK [])) p (.dK (mergeK [] [(.inl 2, .int 1), (.inl 4, .int 2), (.inl 8, .int 3)]))) := (Same.new np).mut np
  refine ⟨_, rfl, a, _, rfl, .inl (s1.seq hS), p, .int (wideN g.length), rfl, ?_, q _ s1⟩
  have e : valV (mergeK [] [(.inl 2, .int 1), (.inl 4, .int 2), (.inl 8, .int 3)]) (Sum.inl ((LB g).length : Int)) = some (.int (wideN g.length)) := by
    rw [lb_len]
    rcases okLen_cases hl with e | e | e <;> rw [e] <;> rfl
  rw [← e]
  exact DGet.k (k := Sum.inl ((LB g).length : Int)) upd_same
theorem ok_law_rows (D : Def K mg "_law_rows" s__law_rows ["many"]) (B : Bl mg) : Fn P w K mg base CX0 1 "_law_rows" ["many"] (sp_law_rows K) := by
  have m_range := B.range
  refine D.fn fun f fd F => F.ok sc__law_rows (fun vs H Q E h => ?_) (fun cdv A outer s H vs Q E hr h => ?_)
  · obtain ⟨z, rfl, _⟩ := h
    rfl
  obtain ⟨m, rfl, h1, h3, q⟩ := h
  refine ⟨_, (pss_cons (ps_set (i := 1) sc__law_rows.nd rfl (Or.inl rfl) (pe_lst pa_nil))
  (pss_cons (ps_for PassesOwn.never rfl (pi_range1 (by rfl) m_range (pa_cons (pe_ix (ixL (K := K)) (pe_lst (pa_cons pe_int (pa_cons pe_int (pa_cons pe_int pa_nil)))) (pe_op op_sub (pv 0) pe_int) (fun _ _ => rfl)) pa_nil)) (pg_name (i := 2) sc__law_rows.nd rfl (Or.inr rfl))
  (pss_one (ps_expr (pe_bm PySem.F.plainAttrs_list PySem.F.slot_list_append PySem.F.type_list_append mt_append (pv 1) (pa_cons (pe_lc (own := [("k", 3)]) (g := gName 3) (tt := tYes) rfl sc__law_rows.nd (pi_range1 (by rfl) m_range (pa_cons (pv 0) pa_nil)) (blkOk_by (N := ["many", "found", "row", "k"]) (sc := defScope s__law_rows) (by decide +kernel)) (fun _ _ _ _ _ => pg_name (i := 3) sc__law_rows.nd rfl (Or.inl rfl)) (fun _ _ _ _ _ => pts_nil) (fun _ _ _ _ _ => (pe_cmpR op_eq (pe_op op_mod (pe_op op_fdiv (pv 2) (pe_ix (ixL (K := K)) (pe_lst (pa_cons pe_int (pa_cons pe_int (pa_cons pe_int pa_nil)))) (pv 3) (fun _ _ => rfl))) pe_int) pe_int (nomark _)))) pa_nil)))))
  (pss_one (ps_ret (pv 1))))), ?_⟩
  have hp8 := pow_le h3
  refine ⟨by show 0 ≤ sizeLine; decide, fun r nr => ?_⟩
  have s0 : Same H (upd H r (.lst [])) := Same.new nr
  refine ⟨by show 3 ≤ sizeLine; decide, fun p np => ⟨_, rfl, _, _, rfl, rfl, p, _, _, _, rfl, rfl, SqL.of upd_same, pow_at h1 h3, ((2 ^ m : Nat) : Int), rfl, Int.le_trans (by decide) (Int.natCast_nonneg _), Int.lt_of_le_of_lt (Int.ofNat_le.mpr hp8) (by decide), ?_⟩⟩
  refine for_range (lo := 0) (fun i σ H' => ∃ us x, σ = [some (.int m), some (.ref r), x, none] ∧ Same H H' ∧ H' r = some (.lst us) ∧ Paired (IsBN K r H') us ((rowsN m).take i)) ⟨[], none, rfl, s0.trans (Same.new np), ?_, .nil⟩ ?_ ?_
  · rw [upd_ne (ne_of_none upd_same np)]
    exact upd_same
  · rintro i σ H' hi ⟨us, x, rfl, s1, e, pr⟩
    have hi' : i < 2 ^ m := by rw [Int.toNat_natCast] at hi; exact hi
    have hlen : us.length = i := by rw [Paired.len pr, List.length_take, rows_len]; exact Nat.min_eq_left (Nat.le_of_lt hi')
    refine rd_drop (rd_bm ⟨_, rfl, .inl ⟨rfl, _, SqL.of e⟩, rd_cons ?_⟩)
    refine lcR1 (m : Int) (fun _ => true) (fun k => .bl (decide (V.int ((i : Int) / bitN k % 2) = V.int 1))) (by omega) (Evl.ea_cons (Evl.ev_var rfl) Evl.ea_nil) (fun _ => rfl) (fun k H1 e hk => et_yes) (fun k H1 e hk _ => ?_) (fun t H2 nt s2 e2 => ?_)
    · have hk3 : k < 3 := by omega
      refine Evl.ev_op (y := .int 1) (Evl.ev_op (x := .int ((i : Int) / bitN k)) (y := .int 2) (Evl.ev_op (x := .int (i : Int)) (y := .int (bitN k)) (Evl.ev_var ?_) ?_ (Evl.rv_I (bit_div _ hk3))) Evl.ev_c (Evl.rv_I (by show (0 : Int) < 2; decide))) Evl.ev_c (Evl.rv_eq rfl)
      · show some (some (V.int (0 + (i : Int)))) = _
        rw [Int.zero_add]
      · exact Evl.ev_opL1 (xs := [.int 1, .int 2, .int 4]) (Evl.el_lst (Evl.ea_cons Evl.ev_c (Evl.ea_cons Evl.ev_c (Evl.ea_cons Evl.ev_c Evl.ea_nil))) (by show 3 ≤ 100000; decide)) (fun _ _ => Evl.ev_var rfl) (fun p H1 hp _ => Evl.rv_ixL (SqL.of hp) (atI_nat (bit_at hk3)))
    · refine ⟨r, us, _, rfl, rfl, s2 _ _ e, szl (by omega), ?_⟩
      refine ⟨us ++ [.ref t], _, rfl, GW.Same.step s1 s2 nr, upd_same, ?_⟩
      rw [rows_take hi']
      have ntr : t ≠ r := fun z => by rw [z, e] at nt; cases nt
      refine Paired.snoc ⟨t, rfl, ntr, SqL.of ?_⟩ (Paired.imp (fun _ _ z => (IsBN.mono s2 z).upd) pr)
      rw [upd_ne ntr, e2, given_all fun _ _ => rfl, show ((m : Int)).toNat = m by omega, map_bl]
      unfold rowAt
      exact congrArg (fun z => some (HO.lst (LB z))) (List.map_congr_left fun k hk => row_bit (by have := List.mem_range.mp hk; omega))
  · rintro σ H' ⟨us, x, rfl, s1, e, pr⟩
    refine ⟨_, rfl, q _ H' s1 ⟨r, us, rfl, nr, e, ?_⟩⟩
    have : (rowsN m).take ((2 ^ m : Nat) : Int).toNat = rowsN m := List.take_of_length_le (by rw [rows_len, Int.toNat_natCast]; exact Nat.le_refl _)
    rw [this] at pr
    exact Paired.imp (fun _ _ z => z.isB) pr
theorem ok_law {C : Addr} {f : Addr} {fd : FuncData} (F : Fun K "law" "law" s_law f fd) (B : Bl mg) (G_cell : Fn P w K mg base CX0 1 "_law_cell_at" ["script", "k"] (sp_cell_at K)) (G_next : Fn P w K mg base CX0 1 "_law_next" ["seed"] sp_next)
    (G_law_gate : Fn P w K mg base CX0 1 "_law_gate" ["seed", "most"] (sp_law_gate 3)) (G_law_wide : Fn P w K mg base CX0 1 "_law_wide" ["gate"] (sp_wide K)) (G_law_rows : Fn P w K mg base CX0 1 "_law_rows" ["many"] (sp_law_rows K))
    (G_answer : Fn P w K mg base (L2.CX P w) 2 "answer" ["gate", "inputs"] (sp_answer K C)) : FnOk P w K mg base CX0 3 f fd ["script"] (spLaw K) := by
  have m_range := B.range; have m_len := B.len; have m_list := B.list; have m_isinstance := B.isinstance; have m_bool := B.bool
  refine F.ok sc_law (fun vs H Q E h => ?_) (fun cdv A outer s H vs Q E hr h => ?_)
  · obtain ⟨a, ns, rfl, _⟩ := h
    rfl
  obtain ⟨a, ns, rfl, hS, h63, q⟩ := h
  refine ⟨_, (pss_cons (ps_set (i := 1) sc_law.nd rfl (Or.inl rfl) (pe_fn G_law_gate (hr.mono (by decide)) (by rfl) pass0 (pa_cons (pe_fn G_next (hr.mono (by decide)) (by rfl) pass0 (pa_cons (pe_fn G_cell (hr.mono (by decide)) (by rfl) pass0 (pa_cons (pv 0) (pa_cons pe_int pa_nil))) pa_nil)) (pa_cons pe_int pa_nil))))
  (pss_cons (ps_set (i := 2) sc_law.nd rfl (Or.inl rfl) (pe_fn G_law_rows (hr.mono (by decide)) (by rfl) pass0 (pa_cons (pe_fn G_law_wide (hr.mono (by decide)) (by rfl) pass0 (pa_cons (pv 1) pa_nil)) pa_nil)))
  (pss_cons (ps_for PassesOwn.never rfl (pi_range1 (by rfl) m_range (pa_cons (pe_callB (lenS (K := K)) (by rfl) m_len PySem.boot_len (pa_cons (pv 2) pa_nil)) pa_nil)) (pg_name (i := 3) sc_law.nd rfl (Or.inl rfl))
  (pss_cons (ps_set (i := 4) sc_law.nd rfl (Or.inl rfl) (pe_lst (pa_cons (pe_callTy (listOf (K := K)) (by rfl) m_list (by decide +kernel) (pa_cons (pv 1) pa_nil)) (pa_cons (pe_callTy (listOf (K := K)) (by rfl) m_list (by decide +kernel) (pa_cons (pe_ix (ixL (K := K)) (pv 2) (pv 3) (fun _ _ => rfl)) pa_nil)) pa_nil))))
  (pss_cons (ps_set (i := 5) sc_law.nd rfl (Or.inl rfl) (pe_fn G_answer (hr.mono (by decide)) (by rfl) passL (pa_cons (pe_ix (ixL (K := K)) (pv 4) pe_int (fun _ _ => rfl)) (pa_cons (pe_ix (ixL (K := K)) (pv 4) pe_int (fun _ _ => rfl)) pa_nil))))
  (pss_one (ps_if (PW.pt (pw_or (pt_not (pt_val (pe_callB (isiS (K := K)) (by rfl) m_isinstance (by decide +kernel) (pa_cons (pv 5) (pa_cons (pe_bltn (v := .ty "bool") (by rfl) m_bool (by decide +kernel) rfl) pa_nil))))) (pw_or (pt_cmpR op_ne (pv 5) (pe_ix (ixL (K := K)) (pv 1) (pv 3) (fun _ _ => rfl)) (nomark _)) (pw_or1 (pt_cmpR (neD (K := K) hr.units) (pv 4) (pe_lst (pa_cons (pv 1) (pa_cons (pe_ix (ixL (K := K)) (pv 2) (pv 3) (fun _ _ => rfl)) pa_nil))) (nomark _)))))) (pss_one (ps_ret pe_bl)) pss_nil)))))
  (pss_one (ps_ret pe_bl))))), ?_⟩
  refine ⟨_, rfl, a, ns, 0, rfl, hS, fun z => ⟨z, rfl, fun n h0 _ => ⟨n, rfl, h0, by decide, by decide, fun v H1 g hg hw hN => ?_⟩⟩⟩
  obtain ⟨p, rfl, np, s1, e1⟩ := hN
  refine ⟨_, rfl, .ref p, g, rfl, ⟨p, rfl, SqL.of e1⟩, hg, fun H2 s2 => ⟨wideN g.length, rfl, wide_pos _, wide_le _, fun v H3 s3 hR => ?_⟩⟩
  obtain ⟨r, us, rfl, nr, er, pr⟩ := hR
  have e3 := s3 _ _ (s2 _ _ e1)
  have hul : us.length = g.length := by rw [Paired.len pr, rows_len, wide_pow hg]
  refine ⟨_, rfl, r, _, rfl, .inl (SqL.of er), ((us.length : Nat) : Int), rfl, Int.le_trans (by decide) (Int.natCast_nonneg _), Int.lt_of_le_of_lt (Int.ofNat_le.mpr (show us.length ≤ 8 by rw [hul]; exact okLen_le hg)) (by decide), ?_⟩
  refine for_range (lo := 0) (fun i σ H' => ∃ x y z, σ = [some (.ref a), some (.ref p), some (.ref r), x, y, z] ∧ Same H3 H') ⟨none, none, none, rfl, Same.refl _⟩ ?_ (fun σ H' _ => q H')
  rintro i σ H' hi ⟨x, y, z, rfl, sm⟩
  rw [Int.toNat_natCast] at hi
  have hi2 : i < 2 ^ wideN g.length := by rw [wide_pow hg, ← hul]; exact hi
  obtain ⟨u, hu, u', rfl, hU⟩ := Paired.at' pr (rows_at hi2)
  show tSeq _ _ _ [some (.ref a), some (.ref p), some (.ref r), some (.int (0 + (i : Int))), y, z] H'
  rw [Int.zero_add]
  have ep := sm _ _ e3
  have er' := sm _ _ er
  refine ⟨_, rfl, p, _, rfl, .inl (SqL.of ep), fun l1 n1 => ⟨_, rfl, _, rfl, r, us, (i : Int), .ref u', rfl, rfl, (Same.new n1).seq (SqL.of er'), atI_nat hu, u', _, rfl, .inl ((Same.new n1).seq (sm.seq hU)), fun l2 n2 => ⟨by show 2 ≤ sizeLine; decide, fun h nh => ?_⟩⟩⟩
  have sA : Same H' (upd H' l1 (.lst (LB g))) := Same.new n1
  have sB := Same.new (o := .lst (LB (rowAt (wideN g.length) i))) n2
  have sC := Same.new (o := .lst [.ref l1, .ref l2]) nh
  revert sC
  have eh : (upd (upd (upd H' l1 (.lst (LB g))) l2 (.lst (LB (rowAt (wideN g.length) i)))) h (.lst [.ref l1, .ref l2])) h = some (.lst [.ref l1, .ref l2]) := upd_same
  revert eh
  generalize (upd (upd (upd H' l1 (.lst (LB g))) l2 (.lst (LB (rowAt (wideN g.length) i)))) h (.lst [.ref l1, .ref l2])) = H4
  intro eh sC
  have g1 : H4 l1 = some (.lst (LB g)) := sC _ _ (sB _ _ upd_same)
  have g2 : H4 l2 = some (.lst (LB (rowAt (wideN g.length) i))) := sC _ _ upd_same
  have s4 : Same H' H4 := (sA.trans sB).trans sC
  refine ⟨_, rfl, h, _, 0, _, rfl, rfl, SqL.of eh, atI_nat (j := 0) rfl, _, rfl, h, _, 1, _, rfl, rfl, SqL.of eh, atI_nat (j := 1) rfl, _, _, g, rowAt (wideN g.length) i, rfl, ⟨l1, rfl, SqL.of g1⟩, ⟨l2, rfl, SqL.of g2⟩, fun _ => ⟨rowAt_len, fun H5 s5 => ?_⟩, fun e => absurd (hg.symm.trans e) (by decide)⟩
  rw [rowOf_at (wide_le _) hi2]
  have sH := s4.trans s5
  -- the test
  refine ⟨_, rfl, _, _, _, _, true, rfl, .ty _, .base (.bl _), kBB, _, rfl, ?_⟩
  refine iteF ⟨_, rfl, _, rfl, _, rfl, p, _, (i : Int), _, rfl, rfl, sH.seq (SqL.of ep), atI_nat (lb_get (by omega)), rfl, _, rfl, ?_⟩
  rw [decide_eq_true (show V.bl (g.getD i false) = V.bl (g.getD i false) from rfl)]
  refine iteF ⟨_, rfl, _, rfl, _, rfl, _, rfl, r, us, (i : Int), .ref u', rfl, rfl, sH.seq (SqL.of er'), atI_nat hu, by show 2 ≤ sizeLine; decide, fun t nt => ?_⟩
  have sT := sH.trans (Same.new (o := .lst [.ref p, .ref u']) nt)
  have s45 := s5.trans (Same.new (o := .lst [.ref p, .ref u']) nt)
  refine ⟨.list [dB g, dB (rowAt (wideN g.length) i)], .list [dB g, dB (rowAt (wideN g.length) i)], ?_, ?_, (shp_two shp_dB shp_dB).ok (by decide), (shp_two shp_dB shp_dB).ok (by decide), _, rfl, ?_⟩
  · exact dp_two (s45.seq (SqL.of eh)) (IsB.dp ⟨l1, rfl, s45.seq (SqL.of g1)⟩) (IsB.dp ⟨l2, rfl, s45.seq (SqL.of g2)⟩)
  · exact dp_two (SqL.of upd_same) (IsB.dp ⟨p, rfl, sT.seq (SqL.of ep)⟩) (IsB.dp ⟨u', rfl, sT.seq (sm.seq hU)⟩)
  · rw [eqv_same (shp_two shp_dB shp_dB)]
    exact iteF ⟨_, _, _, rfl, sm.trans sT⟩
end
end GW
namespace GW
open PySem PySem.Spec PyProof.Rows L2
theorem all_mk {l : PySem.W.OpenLaw} {w : World} {K : PySem.W.Frag} {h : Heap} {mg : Str → Option Value} {fa : Addr} (X : K.In h) (G : h.Ns mainGlobals mg) (hfa : mg "law" = some (.ref fa))
    {C0 : Addr}
    {C1 : Addr}
    {a_BITS : Addr} {o_BITS : Option Addr} {n_BITS : Nat} {l_BITS : Array (Option Value)} {t_BITS0 t_BITS1 t_BITS2 : Tok}
    {f0 : Addr} {od0 an0 : Option Addr} {sl0 : Array (Option Value)} {oc0 kV0 dc0 pm0 cd0 ct0 : Value}
    {f1 : Addr} {od1 an1 : Option Addr} {sl1 : Array (Option Value)} {oc1 kV1 dc1 pm1 cd1 ct1 : Value}
    {f2 : Addr} {od2 an2 : Option Addr} {sl2 : Array (Option Value)} {oc2 kV2 dc2 pm2 cd2 ct2 : Value}
    {f3 : Addr} {od3 an3 : Option Addr} {sl3 : Array (Option Value)} {oc3 kV3 dc3 pm3 cd3 ct3 : Value}
    {f4 : Addr} {od4 an4 : Option Addr} {sl4 : Array (Option Value)} {oc4 kV4 dc4 pm4 cd4 ct4 : Value}
    {f5 : Addr} {od5 an5 : Option Addr} {sl5 : Array (Option Value)} {oc5 kV5 dc5 pm5 cd5 ct5 : Value}
    {f6 : Addr} {od6 an6 : Option Addr} {sl6 : Array (Option Value)} {oc6 kV6 dc6 pm6 cd6 ct6 : Value}
    {f7 : Addr} {od7 an7 : Option Addr} {sl7 : Array (Option Value)} {oc7 kV7 dc7 pm7 cd7 ct7 : Value}
    {f8 : Addr} {od8 an8 : Option Addr} {sl8 : Array (Option Value)} {oc8 kV8 dc8 pm8 cd8 ct8 : Value}
    (Cg0 : PySem.W.nsIn K mainGlobals "GateError" = some (some (.ref C0)))
    (Ck0 : PySem.W.keepIn K (.ref C0) = true)
    (Cb0 : PySem.W.subIn K (.ref C0) (.type "BaseException") = some true)
    (Ct0 : PySem.W.typeIn K (.ref C0) = some (.type "type"))
    (Cg1 : PySem.W.nsIn K mainGlobals "NoGate" = some (some (.ref C1)))
    (Cx1 : PySem.W.excIn K C1 [.type "ValueError", .type "Exception", .type "BaseException", .type "object"] "ValueError.__new__" = true)
    (Ck1 : PySem.W.keepIn K (.ref C1) = true)
    (Cb1 : PySem.W.subIn K (.ref C1) (.type "BaseException") = some true)
    (Ct1 : PySem.W.typeIn K (.ref C1) = some (.type "type"))
    (vg_BITS : PySem.W.nsIn K mainGlobals "BITS" = some (some (.ref a_BITS)))
    (vl_BITS : K.lookup a_BITS = some ⟨.type "tuple", o_BITS, .seq #[.int 1 t_BITS0, .int 2 t_BITS1, .int 4 t_BITS2] n_BITS, l_BITS⟩)
    (z_len : PySem.W.nsIn K mainGlobals "len" = some none)
    (z_sum : PySem.W.nsIn K mainGlobals "sum" = some none)
    (z_range : PySem.W.nsIn K mainGlobals "range" = some none)
    (z_list : PySem.W.nsIn K mainGlobals "list" = some none)
    (z_tuple : PySem.W.nsIn K mainGlobals "tuple" = some none)
    (z_isinstance : PySem.W.nsIn K mainGlobals "isinstance" = some none)
    (z_bool : PySem.W.nsIn K mainGlobals "bool" = some none)
    (z_int : PySem.W.nsIn K mainGlobals "int" = some none)
    (z_str : PySem.W.nsIn K mainGlobals "str" = some none)
    (z_all : PySem.W.nsIn K mainGlobals "all" = some none)
    (z_any : PySem.W.nsIn K mainGlobals "any" = some none)
    (z_reversed : PySem.W.nsIn K mainGlobals "reversed" = some none)
    (z_sorted : PySem.W.nsIn K mainGlobals "sorted" = some none)
    (z_min : PySem.W.nsIn K mainGlobals "min" = some none)
    (z_max : PySem.W.nsIn K mainGlobals "max" = some none)
    (z_dict : PySem.W.nsIn K mainGlobals "dict" = some none)
    (a0 : PySem.W.nsIn K mainGlobals "ask_gate" = some (some (.ref f0)))
    (l0 : K.lookup f0 = some ⟨oc0, od0, .func (PySem.W.fnOf "ask_gate" "ask_gate" (defArgs s_ask_gate) (defBody s_ask_gate) (defScope s_ask_gate) .none kV0 dc0 pm0 an0 cd0 ct0), sl0⟩)
    (c0 : PySem.W.codeIn K cd0 "ask_gate" = true)
    (k0 : PySem.W.keepIn K (.ref f0) = true)
    (a1 : PySem.W.nsIn K mainGlobals "row_of" = some (some (.ref f1)))
    (l1 : K.lookup f1 = some ⟨oc1, od1, .func (PySem.W.fnOf "row_of" "row_of" (defArgs s_row_of) (defBody s_row_of) (defScope s_row_of) .none kV1 dc1 pm1 an1 cd1 ct1), sl1⟩)
    (c1 : PySem.W.codeIn K cd1 "row_of" = true)
    (k1 : PySem.W.keepIn K (.ref f1) = true)
    (a2 : PySem.W.nsIn K mainGlobals "answer" = some (some (.ref f2)))
    (l2 : K.lookup f2 = some ⟨oc2, od2, .func (PySem.W.fnOf "answer" "answer" (defArgs s_answer) (defBody s_answer) (defScope s_answer) .none kV2 dc2 pm2 an2 cd2 ct2), sl2⟩)
    (c2 : PySem.W.codeIn K cd2 "answer" = true)
    (k2 : PySem.W.keepIn K (.ref f2) = true)
    (a3 : PySem.W.nsIn K mainGlobals "_law_cell_at" = some (some (.ref f3)))
    (l3 : K.lookup f3 = some ⟨oc3, od3, .func (PySem.W.fnOf "_law_cell_at" "_law_cell_at" (defArgs s__law_cell_at) (defBody s__law_cell_at) (defScope s__law_cell_at) .none kV3 dc3 pm3 an3 cd3 ct3), sl3⟩)
    (c3 : PySem.W.codeIn K cd3 "_law_cell_at" = true)
    (k3 : PySem.W.keepIn K (.ref f3) = true)
    (a4 : PySem.W.nsIn K mainGlobals "_law_next" = some (some (.ref f4)))
    (l4 : K.lookup f4 = some ⟨oc4, od4, .func (PySem.W.fnOf "_law_next" "_law_next" (defArgs s__law_next) (defBody s__law_next) (defScope s__law_next) .none kV4 dc4 pm4 an4 cd4 ct4), sl4⟩)
    (c4 : PySem.W.codeIn K cd4 "_law_next" = true)
    (k4 : PySem.W.keepIn K (.ref f4) = true)
    (a5 : PySem.W.nsIn K mainGlobals "_law_gate" = some (some (.ref f5)))
    (l5 : K.lookup f5 = some ⟨oc5, od5, .func (PySem.W.fnOf "_law_gate" "_law_gate" (defArgs s__law_gate) (defBody s__law_gate) (defScope s__law_gate) .none kV5 dc5 pm5 an5 cd5 ct5), sl5⟩)
    (c5 : PySem.W.codeIn K cd5 "_law_gate" = true)
    (k5 : PySem.W.keepIn K (.ref f5) = true)
    (a6 : PySem.W.nsIn K mainGlobals "_law_wide" = some (some (.ref f6)))
    (l6 : K.lookup f6 = some ⟨oc6, od6, .func (PySem.W.fnOf "_law_wide" "_law_wide" (defArgs s__law_wide) (defBody s__law_wide) (defScope s__law_wide) .none kV6 dc6 pm6 an6 cd6 ct6), sl6⟩)
    (c6 : PySem.W.codeIn K cd6 "_law_wide" = true)
    (k6 : PySem.W.keepIn K (.ref f6) = true)
    (a7 : PySem.W.nsIn K mainGlobals "_law_rows" = some (some (.ref f7)))
    (l7 : K.lookup f7 = some ⟨oc7, od7, .func (PySem.W.fnOf "_law_rows" "_law_rows" (defArgs s__law_rows) (defBody s__law_rows) (defScope s__law_rows) .none kV7 dc7 pm7 an7 cd7 ct7), sl7⟩)
    (c7 : PySem.W.codeIn K cd7 "_law_rows" = true)
    (k7 : PySem.W.keepIn K (.ref f7) = true)
    (a8 : PySem.W.nsIn K mainGlobals "law" = some (some (.ref f8)))
    (l8 : K.lookup f8 = some ⟨oc8, od8, .func (PySem.W.fnOf "law" "law" (defArgs s_law) (defBody s_law) (defScope s_law) .none kV8 dc8 pm8 an8 cd8 ct8), sl8⟩)
    (c8 : PySem.W.codeIn K cd8 "law" = true)
    (k8 : PySem.W.keepIn K (.ref f8) = true) :
    ∃ fd : FuncData, (∀ (s : Shared) (v : Value), BindsTo s fd ⟨[v], []⟩ [("script", v)]) ∧ ∀ base : Heap, K.In base → base.Ns mainGlobals mg → FnOk l.prog w K mg base CX0 3 fa fd ["script"] (spLaw K) := by
  have e := hfa.symm.trans (PySem.W.mg_of X G a8)
  cases e
  have E_NoGate : ErrC K mg "NoGate" C1 := ⟨PySem.W.mg_of X G Cg1, Cx1, Ck1, Cb1, Ct1⟩
  have S_BITS : ∀ H, SqT K H a_BITS [.int 1, .int 2, .int 4] := fun H => .inr ⟨_, _, _, vl_BITS, rfl, rfl, sz (by show 3 ≤ 100000; decide), .cons ⟨_, rfl⟩ (.cons ⟨_, rfl⟩ (.cons ⟨_, rfl⟩ (.nil)))⟩
  have m_BITS := PySem.W.mg_of X G vg_BITS
  have B : Bl mg := ⟨PySem.W.mg_none_of X G z_len, PySem.W.mg_none_of X G z_sum, PySem.W.mg_none_of X G z_range, PySem.W.mg_none_of X G z_list, PySem.W.mg_none_of X G z_tuple, PySem.W.mg_none_of X G z_isinstance, PySem.W.mg_none_of X G z_bool, PySem.W.mg_none_of X G z_int, PySem.W.mg_none_of X G z_str, PySem.W.mg_none_of X G z_all, PySem.W.mg_none_of X G z_any, PySem.W.mg_none_of X G z_reversed, PySem.W.mg_none_of X G z_sorted, PySem.W.mg_none_of X G z_min, PySem.W.mg_none_of X G z_max, PySem.W.mg_none_of X G z_dict⟩
  have F_ask_gate := fun_mk (st := s_ask_gate) l0 c0 k0
  have D_ask_gate : Def K mg "ask_gate" s_ask_gate ["gate"] := ⟨_, _, F_ask_gate, PySem.W.mg_of X G a0, F_ask_gate.binds (ps := ["gate"]) fun _ _ _ _ _ _ us hl => match us, hl with | [_], _ => rfl⟩
  have F_row_of := fun_mk (st := s_row_of) l1 c1 k1
  have D_row_of : Def K mg "row_of" s_row_of ["inputs"] := ⟨_, _, F_row_of, PySem.W.mg_of X G a1, F_row_of.binds (ps := ["inputs"]) fun _ _ _ _ _ _ us hl => match us, hl with | [_], _ => rfl⟩
  have F_answer := fun_mk (st := s_answer) l2 c2 k2
  have D_answer : Def K mg "answer" s_answer ["gate", "inputs"] := ⟨_, _, F_answer, PySem.W.mg_of X G a2, F_answer.binds (ps := ["gate", "inputs"]) fun _ _ _ _ _ _ us hl => match us, hl with | [_, _], _ => rfl⟩
  have F__law_cell_at := fun_mk (st := s__law_cell_at) l3 c3 k3
  have D__law_cell_at : Def K mg "_law_cell_at" s__law_cell_at ["script", "k"] := ⟨_, _, F__law_cell_at, PySem.W.mg_of X G a3, F__law_cell_at.binds (ps := ["script", "k"]) fun _ _ _ _ _ _ us hl => match us, hl with | [_, _], _ => rfl⟩
  have F__law_next := fun_mk (st := s__law_next) l4 c4 k4
  have D__law_next : Def K mg "_law_next" s__law_next ["seed"] := ⟨_, _, F__law_next, PySem.W.mg_of X G a4, F__law_next.binds (ps := ["seed"]) fun _ _ _ _ _ _ us hl => match us, hl with | [_], _ => rfl⟩
  have F__law_gate := fun_mk (st := s__law_gate) l5 c5 k5
  have D__law_gate : Def K mg "_law_gate" s__law_gate ["seed", "most"] := ⟨_, _, F__law_gate, PySem.W.mg_of X G a5, F__law_gate.binds (ps := ["seed", "most"]) fun _ _ _ _ _ _ us hl => match us, hl with | [_, _], _ => rfl⟩
  have F__law_wide := fun_mk (st := s__law_wide) l6 c6 k6
  have D__law_wide : Def K mg "_law_wide" s__law_wide ["gate"] := ⟨_, _, F__law_wide, PySem.W.mg_of X G a6, F__law_wide.binds (ps := ["gate"]) fun _ _ _ _ _ _ us hl => match us, hl with | [_], _ => rfl⟩
  have F__law_rows := fun_mk (st := s__law_rows) l7 c7 k7
  have D__law_rows : Def K mg "_law_rows" s__law_rows ["many"] := ⟨_, _, F__law_rows, PySem.W.mg_of X G a7, F__law_rows.binds (ps := ["many"]) fun _ _ _ _ _ _ us hl => match us, hl with | [_], _ => rfl⟩
  have F_law := fun_mk (st := s_law) l8 c8 k8
  refine ⟨PySem.W.fnOf "law" "law" (defArgs s_law) (defBody s_law) (defScope s_law) .none kV8 dc8 pm8 an8 cd8 ct8, fun s v => .of_eq rfl, fun base _ _ => ?_⟩
  have G_ask_gate := ok_ask_gate (P := l.prog) (w := w) (base := base) D_ask_gate B E_NoGate
  have G_row_of := ok_row_of (P := l.prog) (w := w) (base := base) D_row_of B m_BITS S_BITS
  have G_answer := ok_answer (P := l.prog) (w := w) (base := base) D_answer G_ask_gate G_row_of
  have G_cell := ok_cell_at (P := l.prog) (w := w) (base := base) D__law_cell_at B
  have G_next := ok_next (P := l.prog) (w := w) (base := base) D__law_next
  have G_law_gate := ok_law_gate (P := l.prog) (w := w) (base := base) D__law_gate B 3
  have G_law_wide := ok__law_wide (P := l.prog) (w := w) (base := base) D__law_wide B
  have G_law_rows := ok_law_rows (P := l.prog) (w := w) (base := base) D__law_rows B
  exact ok_law F_law B G_cell G_next G_law_gate G_law_wide G_law_rows G_answer
end GW
open PySem PySem.W PyProof.Rows
set_option maxHeartbeats 0 in
theorem PySem.Challenge.cw_gatewhole_k01_answer_holds : PySem.Challenge.rw_gatewhole_k01_answer.Holds := by
  w_on; o_law; k_head; (case hw => w_witness2)
  k_fill
  refine L2.walk_of (l := PySem.Challenge.rw_gatewhole_k01_answer) (n := 63) (k := 3) (x := "script") (CX := fun _ => L2.CX0) (sp := fun w => GW.spLaw _) rfl (by decide) rfl ⟨rfl, by decide, by decide⟩ (fun w h Y => PySem.W.kIn_of Y) ?F (fun _ _ a ns hl _ hS => ⟨a, ns, rfl, hS, hl, fun _ => rfl⟩) (fun _ _ _ _ _ h => h)
  case F =>
    intro w mg fa h KX G hmg
    refine' GW.all_mk KX G hmg ?Cg0 ?Ck0 ?Cb0 ?Ct0 ?Cg1 ?Cx1 ?Ck1 ?Cb1 ?Ct1 ?vg_BITS ?vl_BITS ?z_len ?z_sum ?z_range ?z_list ?z_tuple ?z_isinstance ?z_bool ?z_int ?z_str ?z_all ?z_any ?z_reversed ?z_sorted ?z_min ?z_max ?z_dict ?a0 ?l0 ?c0 ?k0 ?a1 ?l1 ?c1 ?k1 ?a2 ?l2 ?c2 ?k2 ?a3 ?l3 ?c3 ?k3 ?a4 ?l4 ?c4 ?k4 ?a5 ?l5 ?c5 ?k5 ?a6 ?l6 ?c6 ?k6 ?a7 ?l7 ?c7 ?k7 ?a8 ?l8 ?c8 ?k8
    (case Cg0 => k_is)
    (case Ck0 => k_is)
    (case Cb0 => k_is)
    (case Ct0 => k_is)
    (case Cg1 => k_is)
    (case Cx1 => k_exc)
    (case Ck1 => k_is)
    (case Cb1 => k_is)
    (case Ct1 => k_is)
    (case vg_BITS => k_is)
    (case vl_BITS => k_is)
    (case z_len => k_is)
    (case z_sum => k_is)
    (case z_range => k_is)
    (case z_list => k_is)
    (case z_tuple => k_is)
    (case z_isinstance => k_is)
    (case z_bool => k_is)
    (case z_int => k_is)
    (case z_str => k_is)
    (case z_all => k_is)
    (case z_any => k_is)
    (case z_reversed => k_is)
    (case z_sorted => k_is)
    (case z_min => k_is)
    (case z_max => k_is)
    (case z_dict => k_is)
    (case a0 => k_is)
    (case l0 => k_is)
    (case c0 => k_is)
    (case k0 => k_is)
    (case a1 => k_is)
    (case l1 => k_is)
    (case c1 => k_is)
    (case k1 => k_is)
    (case a2 => k_is)
    (case l2 => k_is)
    (case c2 => k_is)
    (case k2 => k_is)
    (case a3 => k_is)
    (case l3 => k_is)
    (case c3 => k_is)
    (case k3 => k_is)
    (case a4 => k_is)
    (case l4 => k_is)
    (case c4 => k_is)
    (case k4 => k_is)
    (case a5 => k_is)
    (case l5 => k_is)
    (case c5 => k_is)
    (case k5 => k_is)
    (case a6 => k_is)
    (case l6 => k_is)
    (case c6 => k_is)
    (case k6 => k_is)
    (case a7 => k_is)
    (case l7 => k_is)
    (case c7 => k_is)
    (case k7 => k_is)
    (case a8 => k_is)
    (case l8 => k_is)
    (case c8 => k_is)
    (case k8 => k_is)
