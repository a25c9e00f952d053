import PyProof.Rows.All
import Wide.All
import OpenK.AllK
import Wide.FinOn
import KE.KStateDown
import HandS.ForMost
import HandS.Codes
import HandS.Defaults
import HandS.Wide
import HandS.IsInst
import HandS.Star
import HandS.Flow
import HandS.TupAny
import HandS.FStr
import HandS.Zip
import HandS.SortInts
import HandS.Strs
import HandS.SetFor
import HandS.More
import HandS.RaiseMore
import HandS.SlotsOwn
import HandS.Style
import HandS.Walk
import HandS.TryOnly
import HandS.TryMany
import HandS.HeadHook2
import KE.KOpsOwn
import KE.KRevSl
import HandS.Head0
import HandS.Head1
import HandS.Head2
import HandS.HeadEnd
import HandS.HeadHook1
import KE.GoesEnum
import HandS.NoneIn
import PySem.Challenge.RW_roundline_k91_whole_there_and_back
set_option Elab.async false
set_option linter.all false
set_option maxRecDepth 100000
set_option maxHeartbeats 4000000
set_option maxHeartbeats 1000000
/-! roundline: the ground: derived rules, readings, steps -/
namespace RL
open PySem PySem.Spec PyProof.Rows L2
/-! ### weakening of readings -/
theorem PEi {X : Cx} {e : Expr} {t u : TE} (h : PE X e t) (w : ∀ σ H Q, u σ H Q → t σ H Q) : PE X e u :=
  ⟨fun pins s σ H Q I q => h.run pins s σ H Q I (w σ H Q q)⟩
theorem PSi {X : Cx} {e : Stmt} {t u : TS} (h : PS X e t) (w : ∀ D σ H, u D σ H → t D σ H) : PS X e u :=
  ⟨fun pins s σ H D I q => h.run pins s σ H D I (w D σ H q)⟩
def mE (t : TE) : TE := fun σ H Q => ∃ Q0, t σ H Q0 ∧ ∀ x H1, Q0 x H1 → Q x H1
def mA (t : TA) : TA := fun σ H Q => ∃ Q0, t σ H Q0 ∧ ∀ x H1, Q0 x H1 → Q x H1
theorem pe_m {X : Cx} {e : Expr} {t : TE} (h : PE X e t) : PE X e (mE t) :=
  ⟨fun pins s σ H Q I ⟨Q0, q, w⟩ => thn (h.run pins s σ H Q0 I q) fun _ _ ⟨v, H1, I1, r, z⟩ => ⟨v, H1, I1, r, w v H1 z⟩⟩
theorem pa_m {X : Cx} {es : List Expr} {t : TA} (h : PA X es t) : PA X es (mA t) :=
  ⟨fun pos pins s σ H Q I ⟨Q0, q, w⟩ => thn (h.run pos pins s σ H Q0 I q) fun _ _ ⟨v, H1, I1, r, z⟩ => ⟨v, H1, I1, r, w v H1 z⟩⟩
theorem OpI {X : Cx} {f : Value → Value → Sem Value} {r u : R2} (h : OpR X f r) (w : ∀ x y H Q, u x y H Q → r x y H Q) : OpR X f u :=
  fun pins s σ H x y v z Q I rx ry q => h pins s σ H x y v z Q I rx ry (w x y H Q q)
theorem CallI {X : Cx} {f : Value} {r u : List V → Hp → VK → Prop} (h : CallR X f r) (w : ∀ x H Q, u x H Q → r x H Q) : CallR X f u :=
  fun pins s σ H xs us Q I rx q => h pins s σ H xs us Q I rx (w xs H Q q)
theorem MtI {X : Cx} {id : String} {r u : V → List V → Hp → VK → Prop} (h : MtR X id r) (w : ∀ x xs H Q, u x xs H Q → r x xs H Q) : MtR X id u :=
  fun pins s σ H x xs v us Q I rx rs q => h pins s σ H x xs v us Q I rx rs (w x xs H Q q)
theorem SlI {X : Cx} {r u : V → Option Int → Option Int → Hp → VK → Prop} (h : SlR X r) (w : ∀ x l k H Q, u x l k H Q → r x l k H Q) : SlR X u :=
  fun pins s σ H x v vl vu lo hi sl Q I rx a b c q => h pins s σ H x v vl vu lo hi sl Q I rx a b c (w x lo hi H Q q)
/-! ### heaps -/
theorem same_new {H : Hp} {p : Addr} {o : HO} (h : H p = none) : Same H (upd H p o) := fun b u e => by
  rw [upd_ne (ne_of_none e h)]
  exact e
theorem Same.seqT {K : PySem.W.Frag} {H H' : Hp} {a : Addr} {xs : List V} (e : Same H H') (h : SqT K H a xs) : SqT K H' a xs := by
  rcases h with (h | ⟨o, h⟩) | h
  · exact .inl (.inl (e _ _ h))
  · exact .inl (.inr ⟨o, e _ _ h⟩)
  · exact .inr h
mutual
theorem dp_mono {K : PySem.W.Frag} {H H' : Hp} (e : Same H H') {v : V} {d : PyData} : Dp K H v d → Dp K H' v d
  | .non => .non
  | .bl b => .bl b
  | .int i => .int i
  | .str x => .str x
  | .lst h k => .lst (e.seq h) (dpa_mono e k)
  | .tup h k => .tup (Same.seqT e h) (dpa_mono e k)
theorem dpa_mono {K : PySem.W.Frag} {H H' : Hp} (e : Same H H') {v : List V} {d : List PyData} : DpAll K H v d → DpAll K H' v d
  | .nil => .nil
  | .cons h k => .cons (dp_mono e h) (dpa_mono e k)
end
/-- a new object: its address, the heap behind it -/
def NewT (H : Hp) (o : HO) (Q : VK) : Prop := ∀ p H2, H p = none → Same H H2 → H2 p = some o → Q (.ref p) H2
theorem NewT.old {H : Hp} {o : HO} {Q : VK} (h : NewT H o Q) : ∀ p, H p = none → Q (.ref p) (upd H p o) := fun p hp => h p _ hp (same_new hp) upd_same
/-- all but what stands at l -/
def But (l : Addr) (H H' : Hp) : Prop := ∀ b o, b ≠ l → H b = some o → H' b = some o
/-- the object at l becomes o -/
def ChgT (H : Hp) (l : Addr) (o : HO) (Q : Hp → Prop) : Prop := ∀ H2, But l H H2 → H2 l = some o → Q H2
theorem ChgT.old {H : Hp} {l : Addr} {o : HO} {Q : Hp → Prop} (h : ChgT H l o Q) : Q (upd H l o) :=
  h _ (fun b u ne e => by rw [upd_ne ne]; exact e) upd_same
theorem But.same {H0 H H2 : Hp} {l : Addr} (b : But l H H2) (s : Same H0 H) (n : H0 l = none) : Same H0 H2 := fun c o e => b c o (ne_of_none e n) (s c o e)
theorem But.trans {H0 H H2 : Hp} {l : Addr} (a : But l H0 H) (b : But l H H2) : But l H0 H2 := fun c o n e => b c o n (a c o n e)
theorem But.of {H H2 : Hp} {l : Addr} (s : Same H H2) : But l H H2 := fun c o _ e => s c o e
theorem But.refl {H : Hp} {l : Addr} : But l H H := fun _ _ _ e => e
theorem But.tup {K : PySem.W.Frag} {H H2 : Hp} {l a : Addr} {us xs : List V} (b : But l H H2) (hl : H l = some (.lst us)) (h : SqT K H a xs) : SqT K H2 a xs := by
  rcases h with (h | ⟨o, h⟩) | h
  · exact .inl (.inl (b a _ (ne_of h hl (by intro z; cases z)) h))
  · exact .inl (.inr ⟨o, b a _ (ne_of h hl (by intro z; cases z)) h⟩)
  · exact .inr h
theorem But.lst {K : PySem.W.Frag} {H H2 : Hp} {l a : Addr} {xs : List V} (b : But l H H2) (n : a ≠ l) (h : SqL K H a xs) : SqL K H2 a xs := by
  rcases h with (h | ⟨o, h⟩) | h
  · exact .inl (.inl (b a _ n h))
  · exact .inl (.inr ⟨o, b a _ n h⟩)
  · exact .inr h
/-! ### displays and other makers, told by NewT -/
section
variable {X : Cx} {e a b : Expr} {es : List Expr} {pos : Pos} {te ta tb : TE} {t : TA}
def nTup (t : TA) : TE := fun σ H Q => t σ H fun xs H1 => xs.length ≤ sizeLine ∧ NewT H1 (.tup xs) Q
def nLst (t : TA) : TE := fun σ H Q => t σ H fun xs H1 => xs.length ≤ sizeLine ∧ NewT H1 (.lst xs) Q
theorem pe_ntup {k} (h : PA X es t) : PE X (.Tuple es k pos) (nTup t) := PEi (pe_tup (pa_m h)) fun _ _ _ q => ⟨_, q, fun _ _ ⟨l, n⟩ => ⟨l, n.old⟩⟩
theorem pe_nlst (h : PA X es t) : PE X (.List es pos) (nLst t) := PEi (pe_lst (pa_m h)) fun _ _ _ q => ⟨_, q, fun _ _ ⟨l, n⟩ => ⟨l, n.old⟩⟩
/-- an expression that is never asked -/
def nE : TE := fun _ _ _ => False
theorem pe_nev : PE X e nE := ⟨fun _ _ _ _ _ _ q => q.elim⟩
end
/-! ### operators by values -/
section
variable {X : Cx}
def rJoinT (K : PySem.W.Frag) : R2 := fun x y H Q => ∃ a b xs ys, x = .ref a ∧ y = .ref b ∧ SqT K H a xs ∧ SqT K H b ys ∧ xs.length + ys.length ≤ sizeLine ∧ ∀ p H2, Same H H2 → SqT K H2 p (xs ++ ys) → Q (.ref p) H2
theorem op_ncat : OpR X (binaryOp .Add) (rJoinT X.K) := OpI op_catA fun x y H Q ⟨a, b, xs, ys, hx, hy, h1, h2, hl, k⟩ =>
  ⟨a, b, xs, ys, hx, hy, h1, h2, hl, fun e => k b H (Same.refl _) (by rw [e]; exact h2), fun _ e => k a H (Same.refl _) (by rw [e, List.append_nil]; exact h1),
    fun _ _ p hp => k p _ (same_new hp) (SqT.of upd_same)⟩
def rJoinL : R2 := fun x y H Q => ∃ a b xs ys, x = .ref a ∧ y = .ref b ∧ H a = some (.lst xs) ∧ H b = some (.lst ys) ∧ xs.length + ys.length ≤ sizeLine ∧ NewT H (.lst (xs ++ ys)) Q
theorem op_nlcat : OpR X (binaryOp .Add) rJoinL := OpI op_cat fun x y H Q ⟨a, b, xs, ys, hx, hy, h1, h2, hl, k⟩ => ⟨a, b, xs, ys, hx, hy, h1, h2, hl, k.old⟩
def rSlcT (K : PySem.W.Frag) : V → Option Int → Option Int → Hp → VK → Prop := fun x lo hi H Q => ∃ a xs, x = .ref a ∧ SqT K H a xs ∧ ∀ p H2, Same H H2 → SqT K H2 p (cutV xs lo hi) → Q (.ref p) H2
theorem sl_ntup : SlR X (rSlcT X.K) := SlI sl_tupA fun x lo hi H Q ⟨a, xs, hx, h, k⟩ => ⟨a, xs, hx, h, fun ⟨e1, e2⟩ => k a H (Same.refl _) (by
    unfold cutV
    rw [e1, e2, List.drop_zero, Nat.sub_zero, List.take_length]
    exact h), fun _ p hp => k p _ (same_new hp) (SqT.of upd_same)⟩
def rSlcL (K : PySem.W.Frag) : V → Option Int → Option Int → Hp → VK → Prop := fun x lo hi H Q => ∃ a xs, x = .ref a ∧ SqL K H a xs ∧ NewT H (.lst (cutV xs lo hi)) Q
theorem sl_nlst : SlR X (rSlcL X.K) := SlI sl_list fun x lo hi H Q ⟨a, xs, hx, h, k⟩ => ⟨a, xs, hx, h, k.old⟩
def rTupOf (K : PySem.W.Frag) : List V → Hp → VK → Prop := fun vs H Q => ∃ p ys, vs = [.ref p] ∧ (SqL K H p ys ∨ SqT K H p ys) ∧ ∀ q H2, Same H H2 → SqT K H2 q ys → Q (.ref q) H2
theorem call_ntuple : CallR X (.type "tuple") (rTupOf X.K) := CallI call_tuple_of fun vs H Q ⟨p, ys, e, h, k⟩ => ⟨p, ys, e, h.elim (fun h => .inl ⟨h, fun l hl => k l _ (same_new hl) (SqT.of upd_same)⟩) fun h => .inr ⟨h, k p H (Same.refl _) h⟩⟩
def rAppN : V → List V → Hp → VK → Prop := fun x vs H Q => ∃ l xs y, x = .ref l ∧ vs = [y] ∧ H l = some (.lst xs) ∧ xs.length < sizeLine ∧ ChgT H l (.lst (xs ++ [y])) (Q .non)
theorem mt_nappend : MtR X "list.append" rAppN := MtI mt_append fun x vs H Q ⟨l, xs, y, h1, h2, h3, h4, k⟩ => ⟨l, xs, y, h1, h2, h3, h4, k.old⟩
def rInsN : V → List V → Hp → VK → Prop := fun x vs H Q => ∃ l xs i y, x = .ref l ∧ vs = [.int i, y] ∧ H l = some (.lst xs) ∧ xs.length < sizeLine ∧ 0 ≤ i ∧ i < 2 ^ 63 ∧ ChgT H l (.lst (xs.take i.toNat ++ [y] ++ xs.drop i.toNat)) (Q .non)
theorem mt_ninsert : MtR X "list.insert" rInsN := MtI mt_insert fun x vs H Q ⟨l, xs, i, y, h1, h2, h3, h4, h5, h6, k⟩ => ⟨l, xs, i, y, h1, h2, h3, h4, h5, h6, k.old⟩
def rSetN : TSet := fun o i v H Q => ∃ p xs k j, o = .ref p ∧ i = .int k ∧ H p = some (.lst xs) ∧ ixN xs.length k = some j ∧ ChgT H p (.lst (xs.set j v)) Q
theorem set_nlist : PSet X rSetN := fun pins s σ H o i v ov iv u Q I ro ri rv h => set_list pins s σ H o i v ov iv u Q I ro ri rv (by
  obtain ⟨p, xs, k, j, h1, h2, h3, h4, q⟩ := h
  exact ⟨p, xs, k, j, h1, h2, h3, h4, q.old⟩)
def rSS (f : Str → Str → Bool) : R2 := fun x y H Q => ∃ a b, x = .str a ∧ y = .str b ∧ Q (.bl (f a b)) H
theorem op_eqS : OpR X (compareOp .Eq) (rSS fun a b => decide (a = b)) := OpI op_eq fun x y H Q ⟨a, b, h1, h2, k⟩ => by
  subst h1 h2
  refine ⟨rfl, ?_⟩
  rw [show decide (V.str a = V.str b) = decide (a = b) by simp]
  exact k
theorem op_neS : OpR X (compareOp .NotEq) (rSS fun a b => !decide (a = b)) := OpI op_ne fun x y H Q ⟨a, b, h1, h2, k⟩ => by
  subst h1 h2
  refine ⟨rfl, ?_⟩
  rw [show decide (V.str a = V.str b) = decide (a = b) by simp]
  exact k
theorem op_eqI : OpR X (compareOp .Eq) (rI0 fun a b => .bl (decide (a = b))) := OpI op_eq fun x y H Q ⟨a, b, h1, h2, k⟩ => by
  subst h1 h2
  refine ⟨rfl, ?_⟩
  rw [show decide (V.int a = V.int b) = decide (a = b) by simp]
  exact k
theorem op_neI : OpR X (compareOp .NotEq) (rI0 fun a b => .bl (!decide (a = b))) := OpI op_ne fun x y H Q ⟨a, b, h1, h2, k⟩ => by
  subst h1 h2
  refine ⟨rfl, ?_⟩
  rw [show decide (V.int a = V.int b) = decide (a = b) by simp]
  exact k
def rBB (f : Bool → Bool → Bool) : R2 := fun x y H Q => ∃ a b, x = .bl a ∧ y = .bl b ∧ Q (.bl (f a b)) H
theorem op_neB : OpR X (compareOp .NotEq) (rBB fun a b => a != b) := OpI op_ne fun x y H Q ⟨a, b, h1, h2, k⟩ => by
  subst h1 h2
  refine ⟨rfl, ?_⟩
  rw [show (!decide (V.bl a = V.bl b)) = (a != b) by cases a <;> cases b <;> rfl]
  exact k
def CPowB (i j : Int) : Prop := 0 ≤ j ∧ j ≤ 200 ∧ i.natAbs < 2 ^ 200
theorem op_powB : OpR X (binaryOp .Pow) (rI CPowB fun i j => .int (i ^ j.toNat)) := by
  intro pins s σ H x y v u Q I rx ry h
  obtain ⟨i, j, rfl, rfl, ⟨h0, h1, h2⟩, q⟩ := h
  obtain ⟨t, rfl⟩ := rx
  obtain ⟨t', rfl⟩ := ry
  refine pow_int h0 ?_ ⟨.int _, H, I.tok _, ⟨_, rfl⟩, q⟩
  have hb : (Builtin.Int.intBits i : Int) ≤ 201 := by
    have : Builtin.Int.intBits i ≤ i.natAbs.log2 + 1 := by
      unfold Builtin.Int.intBits
      split <;> omega
    have h3 : i.natAbs.log2 < 200 := PySem.Flt.log2_lt_of (by decide) h2
    omega
  have : (Builtin.Int.intBits i : Int) * j ≤ 201 * 200 := Int.mul_le_mul hb h1 h0 (by decide)
  omega
def rIb : List V → Hp → VK → Prop := fun xs H Q => ∃ k, xs = [.bl k] ∧ Q (.int (if k then 1 else 0)) H
theorem call_intB : CallR X (.type "int") rIb := CallI call_int1 fun xs H Q ⟨k, e, q⟩ => .inr ⟨k, e, q⟩
def rIi : List V → Hp → VK → Prop := fun xs H Q => ∃ i, xs = [.int i] ∧ Q (.int i) H
theorem call_intI : CallR X (.type "int") rIi := CallI call_int1 fun xs H Q ⟨k, e, q⟩ => .inl ⟨k, e, q⟩
/-- the text of a text, of an int -/
def strV : V → Str
  | .str z => z
  | .int i => Str.ofString (toString i)
  | _ => Str.empty
def StrOk : V → Prop
  | .str _ => True
  | .int i => i.natAbs.log2 < 1920
  | _ => False
def rStrX : List V → Hp → VK → Prop := fun xs H Q => ∃ v, xs = [v] ∧ StrOk v ∧ Q (.str (strV v)) H
theorem call_strX : CallR X (.type "str") rStrX := by
  intro pins s σ H xs us Q I r h
  obtain ⟨v, e, ok, q⟩ := h
  cases v with
  | str z => exact SkE.call_str_str pins s σ H xs us Q I r ⟨z, e, q⟩
  | int i => exact call_str_int pins s σ H xs us Q I r ⟨i, e, ok, q⟩
  | _ => exact ok.elim
/-- isinstance of a value whose type is known -/
theorem ty_tup {K : PySem.W.Frag} {H : Hp} {a : Addr} {xs : List V} (h : SqT K H a xs) : TyX K H (.ref a) (.type "tuple") := by
  rcases h with (h | ⟨o, h⟩) | ⟨o, its, n, h1, h2, _⟩
  · exact .base (.tup h)
  · exact .fTuple h
  · exact .kTuple h1 h2
def rLenStr : List V → Hp → VK → Prop := fun xs H Q => ∃ z, xs = [.str z] ∧ z.length ≤ sizeLine ∧ Q (.int z.length) H
theorem call_nlenS : CallR X (.builtin "len") rLenStr := call_len_str
def rLenSq (K : PySem.W.Frag) : List V → Hp → VK → Prop := fun xs H Q => ∃ p ys, xs = [.ref p] ∧ (SqL K H p ys ∨ SqT K H p ys) ∧ Q (.int ys.length) H
theorem call_nlen : CallR X (.builtin "len") (rLenSq X.K) := call_len_seq
def rInC : R2 := fun x y H Q => ∃ (c : Nat) (z : Str), x = .str ⟨#[c]⟩ ∧ y = .str z ∧ Q (.bl (decide (c ∈ z.cps.toList))) H
theorem op_inC : OpR X (compareOp .In) rInC := op_in_sign
def rAbs : List V → Hp → VK → Prop := fun xs H Q => ∃ i, xs = [.int i] ∧ Q (.int (i.natAbs : Int)) H
theorem call_nabs : CallR X (.builtin "abs") rAbs := CallI call_abs fun xs H Q ⟨i, e, q⟩ => ⟨i, e, by
  rw [show (if i < 0 then -i else i) = (i.natAbs : Int) by split <;> omega]
  exact q⟩
def rMx : List V → Hp → VK → Prop := fun xs H Q => ∃ i j, xs = [.int i, .int j] ∧ Q (.int (max i j)) H
theorem call_nmax (hc : X.calm = true) : CallR X (.builtin "max") rMx := CallI (call_max2 hc) fun xs H Q ⟨i, j, e, q⟩ => ⟨i, j, e, by
  rw [show (if j > i then j else i) = max i j by split <;> omega]
  exact q⟩
def rMn : List V → Hp → VK → Prop := fun xs H Q => ∃ i j, xs = [.int i, .int j] ∧ Q (.int (min i j)) H
theorem call_nmin (hc : X.calm = true) : CallR X (.builtin "min") rMn := CallI (call_min2 hc) fun xs H Q ⟨i, j, e, q⟩ => ⟨i, j, e, by
  rw [show (if j < i then j else i) = min i j by split <;> omega]
  exact q⟩
def rIntS : List V → Hp → VK → Prop := fun xs H Q => ∃ a n, xs = [.str a] ∧ PySem.intText? a = some n ∧ a.length ≤ 640 ∧ Q (.int n) H
theorem call_nints : CallR X (.type "int") rIntS := call_int_str
def rIsNo : R2 := fun x y H Q => y = .non ∧ Q (.bl (decide (x = .non))) H
theorem op_nisN : OpR X (compareOp .Is) rIsNo := op_isN
theorem pe_ty {x : Str} {n : String} {pos : Pos} (hg : Gl X x) (hm : X.mg x = none) (hv : bootBuiltins x = some (.type n)) (hn : x ≠ "__name__" := by decide) (hd : (x == ("__debug__" : Str)) = false := by decide) : PE X (.Name x pos) (tC (.ty n)) :=
  pe_bltn hg hm hv rfl hn hd
end
end RL
set_option maxHeartbeats 1000000
/-! roundline: the steps of a reading -/
namespace RL
open PySem PySem.Spec PyProof.Rows L2
section
variable {σ : L2.St} {H : Hp} {Q : VK} {n : L2.St → Hp → Prop} {r : VK} {b c : L2.St → Hp → Prop} {te ta tb tc : TE} {tl tr : TA} {tt tu : TT} {ts us : TS} {g : TG} {gs : TGs} {K : PySem.W.Frag} {v x y z : V} {i j : Int} {k m : Nat} {R : R2}
/-! statements -/
theorem g_seq (h : ts ⟨us ⟨n, r, b, c⟩, r, b, c⟩ σ H) : tSeq ts us ⟨n, r, b, c⟩ σ H := h
theorem g_asg (h : te σ H fun x H1 => g x σ H1 n) : tAsg te g ⟨n, r, b, c⟩ σ H := h
theorem g_name (h : n (σ.set k (some v)) H) : gName k v σ H n := h
theorem g_ret (h : te σ H r) : tRet te ⟨n, r, b, c⟩ σ H := h
theorem g_retN (h : r .non H) : tRetN ⟨n, r, b, c⟩ σ H := h
theorem g_ifS (h : tt σ H fun k H1 => if k = true then ts ⟨n, r, b, c⟩ σ H1 else us ⟨n, r, b, c⟩ σ H1) : tIfS tt ts us ⟨n, r, b, c⟩ σ H := h
theorem g_drop (h : te σ H fun _ H1 => n σ H1) : tDrop te ⟨n, r, b, c⟩ σ H := h
theorem g_next (h : n σ H) : tNext ⟨n, r, b, c⟩ σ H := h
theorem g_par {k m : Nat} (h : tl σ H fun vs H1 => ∃ v w, vs = [v, w] ∧ n ((σ.set k (some v)).set m (some w)) H1) : tPar k m tl ⟨n, r, b, c⟩ σ H := h
theorem g_par3 {k m l : Nat} (h : tl σ H fun vs H1 => ∃ u v w, vs = [u, v, w] ∧ n (((σ.set k (some u)).set m (some v)).set l (some w)) H1) : tPar3 k m l tl ⟨n, r, b, c⟩ σ H := h
theorem g_e2 {P : V → V → Prop} (h : P x y) : ∃ v w, [x, y] = [v, w] ∧ P v w := ⟨x, y, rfl, h⟩
theorem g_e3 {P : V → V → V → Prop} (h : P x y z) : ∃ u v w, [x, y, z] = [u, v, w] ∧ P u v w := ⟨x, y, z, rfl, h⟩
theorem g_gtup {p : Addr} {xs : List V} (h : SqT K H p xs) (l : xs.length = k) (q : gs xs σ H n) : gTup K k gs (.ref p) σ H n := ⟨p, xs, rfl, h, l, q⟩
theorem g_gcons {vs : List V} (h : g v σ H fun σ' H' => gs vs σ' H' n) : gCons g gs (v :: vs) σ H n := ⟨v, vs, rfl, h⟩
theorem g_gnil (h : n σ H) : gNil [] σ H n := ⟨rfl, h⟩
/-! expressions -/
theorem g_var (e : σ[k]? = some (some v)) (h : Q v H) : tVar k σ H Q := ⟨v, e, h⟩
theorem g_c (h : Q v H) : tC v σ H Q := h
theorem g_op (h : ta σ H fun x H1 => tb σ H1 fun y H2 => R x y H2 Q) : tOp R ta tb σ H Q := h
theorem g_un {u : V → Hp → VK → Prop} (h : ta σ H fun x H1 => u x H1 Q) : tUn u ta σ H Q := h
theorem g_chain {R' : R2} (h : ta σ H fun x H1 => tb σ H1 fun y H2 => R x y H2 fun z H3 => ∃ k, z = .bl k ∧ (if k = true then tc σ H3 fun w' H4 => R' y w' H4 Q else Q (.bl false) H3)) : tChain R R' ta tb tc σ H Q := h
theorem g_ntup (h : tl σ H fun xs H1 => xs.length ≤ sizeLine ∧ NewT H1 (.tup xs) Q) : nTup tl σ H Q := h
theorem g_nlst (h : tl σ H fun xs H1 => xs.length ≤ sizeLine ∧ NewT H1 (.lst xs) Q) : nLst tl σ H Q := h
theorem g_cons {A : List V → Hp → Prop} (h : ta σ H fun x H1 => tr σ H1 fun xs H2 => A (x :: xs) H2) : tCons ta tr σ H A := h
theorem g_nil {A : List V → Hp → Prop} (h : A [] H) : tNil σ H A := h
theorem g_NewT {o : HO} (h : ∀ p H2, H p = none → Same H H2 → H2 p = some o → Q (.ref p) H2) : NewT H o Q := h
theorem g_new {o : HO} {xs : List V} (l : xs.length ≤ sizeLine) (h : NewT H o Q) : xs.length ≤ sizeLine ∧ NewT H o Q := ⟨l, h⟩
theorem g_call {sp : Sp} {E : XK} (h : tl σ H fun vs H1 => sp vs H1 Q E) : tCall sp [] E tl σ H Q := by
  show tl σ H fun vs H1 => sp (vs ++ []) H1 Q E
  simp only [List.append_nil]
  exact h
theorem g_meth {sp : Sp} {E : XK} {C : Addr} {m : Str} (h : ta σ H fun x H1 => ∃ a dx fs, x = .ref a ∧ H1 a = some (.ins C dx fs) ∧ fs.lookup m = none ∧ tl σ H1 fun vs H2 => sp (x :: vs) H2 Q E) : tMeth C m sp [] E ta tl σ H Q := by
  show ta σ H fun x H1 => ∃ a dx fs, x = .ref a ∧ H1 a = some (.ins C dx fs) ∧ fs.lookup m = none ∧ tl σ H1 fun vs H2 => sp (x :: (vs ++ [])) H2 Q E
  simp only [List.append_nil]
  exact h
theorem g_recv {C p dx : Addr} {fs : List (Str × V)} {m : Str} {A : Prop} (h : H p = some (.ins C dx fs)) (l : fs.lookup m = none) (q : A) : ∃ a dx fs, V.ref p = .ref a ∧ H a = some (.ins C dx fs) ∧ fs.lookup m = none ∧ A := ⟨p, dx, fs, rfl, h, l, q⟩
theorem g_fld {f : Str} (h : ta σ H fun x H1 => ∃ a C dx fs v, x = .ref a ∧ H1 a = some (.ins C dx fs) ∧ Cls K C ∧ NoAttr K C f ∧ fs.lookup f = some v ∧ Q v H1) : tFld K ta f σ H Q := h
theorem g_fldv {f : Str} {p C dx : Addr} {fs : List (Str × V)} {A : V → Prop} (h : H p = some (.ins C dx fs)) (cl : Cls K C) (na : NoAttr K C f) (l : fs.lookup f = some v) (q : A v) :
    ∃ a C dx fs v, V.ref p = .ref a ∧ H a = some (.ins C dx fs) ∧ Cls K C ∧ NoAttr K C f ∧ fs.lookup f = some v ∧ A v := ⟨p, C, dx, fs, v, rfl, h, cl, na, l, q⟩
theorem g_cb {rr : List V → Hp → VK → Prop} (h : tl σ H fun vs H1 => rr vs H1 Q) : tCB rr tl σ H Q := h
theorem g_if (h : tt σ H fun c H1 => if c = true then ta σ H1 Q else tb σ H1 Q) : tIf tt ta tb σ H Q := h
theorem g_andV (h : ta σ H fun x H1 => ∃ c, x = .bl c ∧ if c = true then tb σ H1 Q else Q (.bl false) H1) : tAndV ta tb σ H Q := h
theorem g_orV (h : ta σ H fun x H1 => ∃ c, x = .bl c ∧ if c = true then Q (.bl true) H1 else tb σ H1 Q) : tOrV ta tb σ H Q := h
theorem g_notV (h : ta σ H fun x H1 => ∃ c, x = .bl c ∧ Q (.bl (!c)) H1) : tNotV ta σ H Q := h
theorem g_bl {d : Bool} {P : Bool → Prop} (h : P d) : ∃ c, V.bl d = .bl c ∧ P c := ⟨d, rfl, h⟩
/-! tests -/
variable {B : Bool → Hp → Prop}
theorem g_test (h : ta σ H fun x H' => ∃ k, x = .bl k ∧ B k H') : tTest ta σ H B := h
theorem g_tB (h : ta σ H fun x H' => ∃ k, x = .bl k ∧ B k H') : tB ta σ H B := h
theorem g_and (h : tt σ H fun c H1 => if c = true then tu σ H1 B else B false H1) : tAnd tt tu σ H B := h
theorem g_or (h : tt σ H fun c H1 => if c = true then B true H1 else tu σ H1 B) : tOr tt tu σ H B := h
theorem g_not (h : tt σ H fun c H1 => B (!c) H1) : tNot tt σ H B := h
/-! by values -/
theorem g_rI0 {f : Int → Int → V} (h : Q (f i j) H) : rI0 f (.int i) (.int j) H Q := ⟨i, j, rfl, rfl, h⟩
theorem g_rI {C : Int → Int → Prop} {f : Int → Int → V} (hc : C i j) (h : Q (f i j) H) : rI C f (.int i) (.int j) H Q := ⟨i, j, rfl, rfl, hc, h⟩
theorem g_rU {f : Int → V} (h : Q (f i) H) : rU f (.int i) H Q := ⟨i, rfl, h⟩
theorem g_rSS {f : Str → Str → Bool} {s t : Str} (h : Q (.bl (f s t)) H) : rSS f (.str s) (.str t) H Q := ⟨s, t, rfl, rfl, h⟩
theorem g_rBB {f : Bool → Bool → Bool} {s t : Bool} (h : Q (.bl (f s t)) H) : rBB f (.bl s) (.bl t) H Q := ⟨s, t, rfl, rfl, h⟩
theorem g_ixT {p : Addr} {xs : List V} (h : SqT K H p xs) (e : atI xs i = some v) (q : Q v H) : rIxT K (.ref p) (.int i) H Q := ⟨p, xs, i, v, rfl, rfl, h, e, q⟩
theorem g_ixL {p : Addr} {xs : List V} (h : SqL K H p xs) (e : atI xs i = some v) (q : Q v H) : rIxL K (.ref p) (.int i) H Q := ⟨p, xs, i, v, rfl, rfl, h, e, q⟩
theorem g_lenT {p : Addr} {xs : List V} (h : SqT K H p xs) (q : Q (.int xs.length) H) : rLenSq K [.ref p] H Q := ⟨p, xs, rfl, .inr h, q⟩
theorem g_lenL {p : Addr} {xs : List V} (h : SqL K H p xs) (q : Q (.int xs.length) H) : rLenSq K [.ref p] H Q := ⟨p, xs, rfl, .inl h, q⟩
theorem g_lenS {s : Str} (l : s.length ≤ sizeLine) (q : Q (.int s.length) H) : rLenStr [.str s] H Q := ⟨s, rfl, l, q⟩
theorem g_abs (q : Q (.int (i.natAbs : Int)) H) : rAbs [.int i] H Q := ⟨i, rfl, q⟩
theorem g_mx (q : Q (.int (max i j)) H) : rMx [.int i, .int j] H Q := ⟨i, j, rfl, q⟩
theorem g_mn (q : Q (.int (min i j)) H) : rMn [.int i, .int j] H Q := ⟨i, j, rfl, q⟩
theorem g_isN (q : Q (.bl (decide (v = .non))) H) : rIsNo v .non H Q := ⟨rfl, q⟩
theorem g_inC {a : Nat} {s : Str} (q : Q (.bl (decide (a ∈ s.cps.toList))) H) : rInC (.str ⟨#[a]⟩) (.str s) H Q := ⟨a, s, rfl, rfl, q⟩
theorem g_isi {n : String} {t : Value} {d : Bool} (ty : TyX K H v t) (e : PySem.W.kitOne K t (.type n) = some d) (q : Q (.bl d) H) : rIsi K [v, .ty n] H Q := ⟨v, .ty n, t, .type n, d, rfl, .ty n, ty, e, q⟩
theorem g_isiC {C : Addr} {t : Value} {d : Bool} (ty : TyX K H v t) (e : PySem.W.kitOne K t (.ref C) = some d) (q : Q (.bl d) H) : rIsi K [v, .ref C] H Q := ⟨v, .ref C, t, .ref C, d, rfl, .own C, ty, e, q⟩
theorem g_inT {p : Addr} {xs : List V} {neg : Bool} (h : SqT K H p xs) (f1 : flatV v = true) (f2 : xs.all flatV = true) (q : Q (.bl (if neg then !inV v xs else inV v xs)) H) : rIn K neg v (.ref p) H Q := ⟨p, xs, rfl, .inr h, f1, f2, q⟩
theorem g_inL {p : Addr} {xs : List V} {neg : Bool} (h : SqL K H p xs) (f1 : flatV v = true) (f2 : xs.all flatV = true) (q : Q (.bl (if neg then !inV v xs else inV v xs)) H) : rIn K neg v (.ref p) H Q := ⟨p, xs, rfl, .inl h, f1, f2, q⟩
theorem g_sib {d : Bool} (q : Q (.int (if d then 1 else 0)) H) : rIb [.bl d] H Q := ⟨d, rfl, q⟩
theorem g_sii (q : Q (.int i) H) : rIi [.int i] H Q := ⟨i, rfl, q⟩
/-! the ways of a test -/
theorem ifT {d : Bool} {A C : Prop} (e : d = true) (h : A) : if d = true then A else C := by rw [if_pos e]; exact h
theorem ifF {d : Bool} {A C : Prop} (e : d = false) (h : C) : if d = true then A else C := by rw [if_neg (by rw [e]; decide)]; exact h
theorem if2 {d : Bool} {A C : Prop} (h1 : d = true → A) (h2 : d = false → C) : if d = true then A else C := by
  cases d with
  | true => exact ifT rfl (h1 rfl)
  | false => exact ifF rfl (h2 rfl)
end
theorem nt {d : Bool} (h : d = true) : (!d) = false := by rw [h]; rfl
theorem nf {d : Bool} (h : d = false) : (!d) = true := by rw [h]; rfl
/-! heaps: what stands still stands -/
theorem s_at {H H' : Hp} {a : Addr} {o : HO} (e : Same H H') (h : H a = some o) : H' a = some o := e a o h
theorem f_upd {H : Hp} {a p : Addr} {o u : HO} (h : H a = some u) (n : H p = none) : upd H p o a = some u := s_at (same_new n) h
end RL
set_option maxHeartbeats 1000000
/-! roundline: the text by places, what the top has written -/
namespace RL
open PySem PySem.Spec PyProof.Rows L2
def top (i : Nat) : Stmt := PySem.Challenge.pw_roundline_k91_whole_there_and_back.main.body.getD i (.Pass ⟨0, 0, 0, 0⟩)
abbrev s_is_whole : Stmt := top 18
abbrev s_is_thing : Stmt := top 19
abbrev s_is_window : Stmt := top 20
abbrev s_is_length : Stmt := top 21
abbrev s_is_plain_deed : Stmt := top 22
abbrev s_is_deed : Stmt := top 23
abbrev s_common_divisor : Stmt := top 25
abbrev s_common_multiple : Stmt := top 26
abbrev s_Form_init : Stmt := inClass (top 28) 0
abbrev s_Form_eq : Stmt := inClass (top 28) 2
abbrev s_Form_add : Stmt := inClass (top 28) 3
abbrev s_Form_sub : Stmt := inClass (top 28) 4
abbrev s_Form_neg : Stmt := inClass (top 28) 5
abbrev s_Form_mul : Stmt := inClass (top 28) 6
abbrev s_Form_parts : Stmt := inClass (top 28) 7
abbrev s_form_of : Stmt := top 29
abbrev s_parts_of : Stmt := top 30
abbrev s_Plan_init : Stmt := inClass (top 34) 0
abbrev s_Plan_eq : Stmt := inClass (top 34) 1
abbrev s_Plan_len : Stmt := inClass (top 34) 2
abbrev s_Plan_add : Stmt := inClass (top 34) 5
abbrev s_Plan_has : Stmt := inClass (top 34) 6
abbrev s_Plan_deeds : Stmt := inClass (top 34) 7
abbrev s_Plan_without : Stmt := inClass (top 34) 9
abbrev s_Plan_exchanged : Stmt := inClass (top 34) 10
abbrev s_prime_divisors : Stmt := top 41
abbrev s_is_periodic : Stmt := top 42
abbrev s_least_period : Stmt := top 43
abbrev s_sums_of : Stmt := top 44
abbrev s_Plainest_init : Stmt := inClass (top 45) 0
abbrev s_Plainest_is_in : Stmt := inClass (top 45) 1
abbrev s_checked : Stmt := top 46
abbrev s_joined : Stmt := top 47
abbrev s_Distances_init : Stmt := inClass (top 48) 0
abbrev s_Distances_eq : Stmt := inClass (top 48) 2
abbrev s_Distances_or : Stmt := inClass (top 48) 3
abbrev s_Distances_sub : Stmt := inClass (top 48) 5
abbrev s_Distances_xor : Stmt := inClass (top 48) 6
abbrev s_Distances_modulus : Stmt := inClass (top 48) 8
abbrev s_Distances_classes : Stmt := inClass (top 48) 9
abbrev s_Distances_changed : Stmt := inClass (top 48) 10
abbrev s_read_number : Stmt := top 50
abbrev s_read_numbers : Stmt := top 51
abbrev s_deed_text : Stmt := top 52
abbrev s_plan_text : Stmt := top 53
abbrev s_read_plain : Stmt := top 54
abbrev s_read_deed : Stmt := top 55
abbrev s_read_plan : Stmt := top 56
abbrev s_sum_text : Stmt := top 57
abbrev s_form_text : Stmt := top 58
abbrev s_read_head : Stmt := top 59
abbrev s_read_sum : Stmt := top 60
abbrev s_read_form : Stmt := top 61
abbrev s_numbers_text : Stmt := top 62
abbrev s_set_text : Stmt := top 63
abbrev s_set_of_text : Stmt := top 64
abbrev s_read_set : Stmt := top 65
abbrev s__law_pot : Stmt := top 67
abbrev s__law_dip : Stmt := top 68
abbrev s__law_thing : Stmt := top 69
abbrev s__law_plain : Stmt := top 70
abbrev s__law_deed : Stmt := top 71
abbrev s__law_deeds : Stmt := top 72
abbrev s__law_made : Stmt := top 73
abbrev s__law_divisor : Stmt := top 74
abbrev s__law_lowest : Stmt := top 75
abbrev s__law_number : Stmt := top 76
abbrev s__law_row : Stmt := top 77
abbrev s__law_some : Stmt := top 80
abbrev s__law_plans_right : Stmt := top 83
abbrev s__law_forms_right : Stmt := top 84
abbrev s__law_sets_right : Stmt := top 85
abbrev s_law : Stmt := top 86
/-- what the top has written -/
structure Tx (K : PySem.W.Frag) (mg : Str → Option Value) : Prop where
  b_abs : mg "abs" = none
  b_all : mg "all" = none
  b_bool : mg "bool" = none
  b_divmod : mg "divmod" = none
  b_enumerate : mg "enumerate" = none
  b_int : mg "int" = none
  b_isinstance : mg "isinstance" = none
  b_len : mg "len" = none
  b_max : mg "max" = none
  b_min : mg "min" = none
  b_range : mg "range" = none
  b_set : mg "set" = none
  b_sorted : mg "sorted" = none
  b_str : mg "str" = none
  b_tuple : mg "tuple" = none
  v_LETTERS : ∃ u, mg "LETTERS" = some u ∧ RelV (.str "abcdefghijklmnopqrstuvwxyz") u
  v_LONGEST_THING : ∃ u, mg "LONGEST_THING" = some u ∧ RelV (.int 8) u
  v_GREATEST_PULL : ∃ u, mg "GREATEST_PULL" = some u ∧ RelV (.int 40) u
  v_GREATEST_STEP : ∃ u, mg "GREATEST_STEP" = some u ∧ RelV (.int 6) u
  v_MOST_DEEDS : ∃ u, mg "MOST_DEEDS" = some u ∧ RelV (.int 12) u
  v_MOST_MODULUS : ∃ u, mg "MOST_MODULUS" = some u ∧ RelV (.int 720) u
  v_WINDOWS : ∃ u, mg "WINDOWS" = some u ∧ RelV (.ref (He.ga K "WINDOWS")) u
  t_WINDOWS : ∀ H, SqT K H (He.ga K "WINDOWS") [.str "near", .str "far"]
  v_UNION : ∃ u, mg "UNION" = some u ∧ RelV (.ref (He.ga K "UNION")) u
  t_UNION : ∀ H, SqT K H (He.ga K "UNION") [.bl false, .bl true, .bl true, .bl true]
  v_WITHOUT : ∃ u, mg "WITHOUT" = some u ∧ RelV (.ref (He.ga K "WITHOUT")) u
  t_WITHOUT : ∀ H, SqT K H (He.ga K "WITHOUT") [.bl false, .bl false, .bl true, .bl false]
  v_IN_ONE : ∃ u, mg "IN_ONE" = some u ∧ RelV (.ref (He.ga K "IN_ONE")) u
  t_IN_ONE : ∀ H, SqT K H (He.ga K "IN_ONE") [.bl false, .bl true, .bl true, .bl false]
  g_Form : mg "Form" = some (.ref (He.ga K "Form"))
  l_Form : Cls K (He.ga K "Form")
  mk_Form : Mk K (He.ga K "Form") (He.ma K (He.ga K "Form") "__init__")
  is_Form : C8.InsC K (He.ga K "Form")
  n_Form_row : NoAttr K (He.ga K "Form") "row"
  g_Plan : mg "Plan" = some (.ref (He.ga K "Plan"))
  l_Plan : Cls K (He.ga K "Plan")
  mk_Plan : Mk K (He.ga K "Plan") (He.ma K (He.ga K "Plan") "__init__")
  is_Plan : C8.InsC K (He.ga K "Plan")
  n_Plan_kept : NoAttr K (He.ga K "Plan") "kept"
  g_Plainest : mg "Plainest" = some (.ref (He.ga K "Plainest"))
  l_Plainest : Cls K (He.ga K "Plainest")
  mk_Plainest : Mk K (He.ga K "Plainest") (He.ma K (He.ga K "Plainest") "__init__")
  is_Plainest : C8.InsC K (He.ga K "Plainest")
  n_Plainest_period : NoAttr K (He.ga K "Plainest") "period"
  n_Plainest_flags : NoAttr K (He.ga K "Plainest") "flags"
  n_Plainest_flipped : NoAttr K (He.ga K "Plainest") "flipped"
  n_Plainest_below : NoAttr K (He.ga K "Plainest") "below"
  g_Distances : mg "Distances" = some (.ref (He.ga K "Distances"))
  l_Distances : Cls K (He.ga K "Distances")
  mk_Distances : Mk K (He.ga K "Distances") (He.ma K (He.ga K "Distances") "__init__")
  is_Distances : C8.InsC K (He.ga K "Distances")
  n_Distances_plain : NoAttr K (He.ga K "Distances") "plain"
  sf_Form : PySem.W.selfFirst K (He.ga K "Form") = true
  nf_Form : PySem.W.notFirst K (He.ga K "Form") (.ref (He.ga K "Form")) = true
  sf_Plan : PySem.W.selfFirst K (He.ga K "Plan") = true
  nf_Plan : PySem.W.notFirst K (He.ga K "Plan") (.ref (He.ga K "Plan")) = true
  sf_Distances : PySem.W.selfFirst K (He.ga K "Distances") = true
  nf_Distances : PySem.W.notFirst K (He.ga K "Distances") (.ref (He.ga K "Distances")) = true
  g_is_whole : mg "is_whole" = some (.ref (He.ga K "is_whole"))
  d_is_whole : ∃ fd, FunD K "is_whole" "is_whole" (defArgs s_is_whole) (defBody s_is_whole) (defScope s_is_whole) [] [] (He.ga K "is_whole") fd
  g_is_thing : mg "is_thing" = some (.ref (He.ga K "is_thing"))
  d_is_thing : ∃ fd, FunD K "is_thing" "is_thing" (defArgs s_is_thing) (defBody s_is_thing) (defScope s_is_thing) [] [] (He.ga K "is_thing") fd
  g_is_window : mg "is_window" = some (.ref (He.ga K "is_window"))
  d_is_window : ∃ fd, FunD K "is_window" "is_window" (defArgs s_is_window) (defBody s_is_window) (defScope s_is_window) [] [] (He.ga K "is_window") fd
  g_is_length : mg "is_length" = some (.ref (He.ga K "is_length"))
  d_is_length : ∃ fd, FunD K "is_length" "is_length" (defArgs s_is_length) (defBody s_is_length) (defScope s_is_length) [] [] (He.ga K "is_length") fd
  g_is_plain_deed : mg "is_plain_deed" = some (.ref (He.ga K "is_plain_deed"))
  d_is_plain_deed : ∃ fd, FunD K "is_plain_deed" "is_plain_deed" (defArgs s_is_plain_deed) (defBody s_is_plain_deed) (defScope s_is_plain_deed) [] [] (He.ga K "is_plain_deed") fd
  g_is_deed : mg "is_deed" = some (.ref (He.ga K "is_deed"))
  d_is_deed : ∃ fd, FunD K "is_deed" "is_deed" (defArgs s_is_deed) (defBody s_is_deed) (defScope s_is_deed) [] [] (He.ga K "is_deed") fd
  g_common_divisor : mg "common_divisor" = some (.ref (He.ga K "common_divisor"))
  d_common_divisor : ∃ fd, FunD K "common_divisor" "common_divisor" (defArgs s_common_divisor) (defBody s_common_divisor) (defScope s_common_divisor) [] [] (He.ga K "common_divisor") fd
  g_common_multiple : mg "common_multiple" = some (.ref (He.ga K "common_multiple"))
  d_common_multiple : ∃ fd, FunD K "common_multiple" "common_multiple" (defArgs s_common_multiple) (defBody s_common_multiple) (defScope s_common_multiple) [] [] (He.ga K "common_multiple") fd
  d_Form_init : ∃ fd, FunD K "__init__" "Form.__init__" (defArgs s_Form_init) (defBody s_Form_init) (defScope s_Form_init) [.int 0, .int 1] [] (He.ma K (He.ga K "Form") "__init__") fd
  me_Form_eq : Meth K (He.ga K "Form") "__eq__" (He.ma K (He.ga K "Form") "__eq__")
  d_Form_eq : ∃ fd, FunD K "__eq__" "Form.__eq__" (defArgs s_Form_eq) (defBody s_Form_eq) (defScope s_Form_eq) [] [] (He.ma K (He.ga K "Form") "__eq__") fd
  me_Form_add : Meth K (He.ga K "Form") "__add__" (He.ma K (He.ga K "Form") "__add__")
  d_Form_add : ∃ fd, FunD K "__add__" "Form.__add__" (defArgs s_Form_add) (defBody s_Form_add) (defScope s_Form_add) [] [] (He.ma K (He.ga K "Form") "__add__") fd
  me_Form_sub : Meth K (He.ga K "Form") "__sub__" (He.ma K (He.ga K "Form") "__sub__")
  d_Form_sub : ∃ fd, FunD K "__sub__" "Form.__sub__" (defArgs s_Form_sub) (defBody s_Form_sub) (defScope s_Form_sub) [] [] (He.ma K (He.ga K "Form") "__sub__") fd
  me_Form_neg : Meth K (He.ga K "Form") "__neg__" (He.ma K (He.ga K "Form") "__neg__")
  d_Form_neg : ∃ fd, FunD K "__neg__" "Form.__neg__" (defArgs s_Form_neg) (defBody s_Form_neg) (defScope s_Form_neg) [] [] (He.ma K (He.ga K "Form") "__neg__") fd
  me_Form_mul : Meth K (He.ga K "Form") "__mul__" (He.ma K (He.ga K "Form") "__mul__")
  d_Form_mul : ∃ fd, FunD K "__mul__" "Form.__mul__" (defArgs s_Form_mul) (defBody s_Form_mul) (defScope s_Form_mul) [] [] (He.ma K (He.ga K "Form") "__mul__") fd
  me_Form_parts : Meth K (He.ga K "Form") "parts" (He.ma K (He.ga K "Form") "parts")
  d_Form_parts : ∃ fd, FunD K "parts" "Form.parts" (defArgs s_Form_parts) (defBody s_Form_parts) (defScope s_Form_parts) [] [] (He.ma K (He.ga K "Form") "parts") fd
  g_form_of : mg "form_of" = some (.ref (He.ga K "form_of"))
  d_form_of : ∃ fd, FunD K "form_of" "form_of" (defArgs s_form_of) (defBody s_form_of) (defScope s_form_of) [] [] (He.ga K "form_of") fd
  g_parts_of : mg "parts_of" = some (.ref (He.ga K "parts_of"))
  d_parts_of : ∃ fd, FunD K "parts_of" "parts_of" (defArgs s_parts_of) (defBody s_parts_of) (defScope s_parts_of) [] [] (He.ga K "parts_of") fd
  d_Plan_init : ∃ fd, FunD K "__init__" "Plan.__init__" (defArgs s_Plan_init) (defBody s_Plan_init) (defScope s_Plan_init) [.ref (He.dflAt ("Plan", some "__init__") 0 K)] [] (He.ma K (He.ga K "Plan") "__init__") fd
  me_Plan_eq : Meth K (He.ga K "Plan") "__eq__" (He.ma K (He.ga K "Plan") "__eq__")
  d_Plan_eq : ∃ fd, FunD K "__eq__" "Plan.__eq__" (defArgs s_Plan_eq) (defBody s_Plan_eq) (defScope s_Plan_eq) [] [] (He.ma K (He.ga K "Plan") "__eq__") fd
  me_Plan_len : Meth K (He.ga K "Plan") "__len__" (He.ma K (He.ga K "Plan") "__len__")
  d_Plan_len : ∃ fd, FunD K "__len__" "Plan.__len__" (defArgs s_Plan_len) (defBody s_Plan_len) (defScope s_Plan_len) [] [] (He.ma K (He.ga K "Plan") "__len__") fd
  me_Plan_add : Meth K (He.ga K "Plan") "__add__" (He.ma K (He.ga K "Plan") "__add__")
  d_Plan_add : ∃ fd, FunD K "__add__" "Plan.__add__" (defArgs s_Plan_add) (defBody s_Plan_add) (defScope s_Plan_add) [] [] (He.ma K (He.ga K "Plan") "__add__") fd
  me_Plan_has : Meth K (He.ga K "Plan") "has" (He.ma K (He.ga K "Plan") "has")
  d_Plan_has : ∃ fd, FunD K "has" "Plan.has" (defArgs s_Plan_has) (defBody s_Plan_has) (defScope s_Plan_has) [] [] (He.ma K (He.ga K "Plan") "has") fd
  me_Plan_deeds : Meth K (He.ga K "Plan") "deeds" (He.ma K (He.ga K "Plan") "deeds")
  d_Plan_deeds : ∃ fd, FunD K "deeds" "Plan.deeds" (defArgs s_Plan_deeds) (defBody s_Plan_deeds) (defScope s_Plan_deeds) [] [] (He.ma K (He.ga K "Plan") "deeds") fd
  me_Plan_without : Meth K (He.ga K "Plan") "without" (He.ma K (He.ga K "Plan") "without")
  d_Plan_without : ∃ fd, FunD K "without" "Plan.without" (defArgs s_Plan_without) (defBody s_Plan_without) (defScope s_Plan_without) [] [] (He.ma K (He.ga K "Plan") "without") fd
  me_Plan_exchanged : Meth K (He.ga K "Plan") "exchanged" (He.ma K (He.ga K "Plan") "exchanged")
  d_Plan_exchanged : ∃ fd, FunD K "exchanged" "Plan.exchanged" (defArgs s_Plan_exchanged) (defBody s_Plan_exchanged) (defScope s_Plan_exchanged) [] [] (He.ma K (He.ga K "Plan") "exchanged") fd
  g_prime_divisors : mg "prime_divisors" = some (.ref (He.ga K "prime_divisors"))
  d_prime_divisors : ∃ fd, FunD K "prime_divisors" "prime_divisors" (defArgs s_prime_divisors) (defBody s_prime_divisors) (defScope s_prime_divisors) [] [] (He.ga K "prime_divisors") fd
  g_is_periodic : mg "is_periodic" = some (.ref (He.ga K "is_periodic"))
  d_is_periodic : ∃ fd, FunD K "is_periodic" "is_periodic" (defArgs s_is_periodic) (defBody s_is_periodic) (defScope s_is_periodic) [] [] (He.ga K "is_periodic") fd
  g_least_period : mg "least_period" = some (.ref (He.ga K "least_period"))
  d_least_period : ∃ fd, FunD K "least_period" "least_period" (defArgs s_least_period) (defBody s_least_period) (defScope s_least_period) [] [] (He.ga K "least_period") fd
  g_sums_of : mg "sums_of" = some (.ref (He.ga K "sums_of"))
  d_sums_of : ∃ fd, FunD K "sums_of" "sums_of" (defArgs s_sums_of) (defBody s_sums_of) (defScope s_sums_of) [] [] (He.ga K "sums_of") fd
  d_Plainest_init : ∃ fd, FunD K "__init__" "Plainest.__init__" (defArgs s_Plainest_init) (defBody s_Plainest_init) (defScope s_Plainest_init) [] [] (He.ma K (He.ga K "Plainest") "__init__") fd
  me_Plainest_is_in : Meth K (He.ga K "Plainest") "is_in" (He.ma K (He.ga K "Plainest") "is_in")
  d_Plainest_is_in : ∃ fd, FunD K "is_in" "Plainest.is_in" (defArgs s_Plainest_is_in) (defBody s_Plainest_is_in) (defScope s_Plainest_is_in) [] [] (He.ma K (He.ga K "Plainest") "is_in") fd
  g_checked : mg "checked" = some (.ref (He.ga K "checked"))
  d_checked : ∃ fd, FunD K "checked" "checked" (defArgs s_checked) (defBody s_checked) (defScope s_checked) [] [] (He.ga K "checked") fd
  g_joined : mg "joined" = some (.ref (He.ga K "joined"))
  d_joined : ∃ fd, FunD K "joined" "joined" (defArgs s_joined) (defBody s_joined) (defScope s_joined) [] [] (He.ga K "joined") fd
  d_Distances_init : ∃ fd, FunD K "__init__" "Distances.__init__" (defArgs s_Distances_init) (defBody s_Distances_init) (defScope s_Distances_init) [.int 1, .ref (He.dflAt ("Distances", some "__init__") 1 K), .ref (He.dflAt ("Distances", some "__init__") 2 K)] [] (He.ma K (He.ga K "Distances") "__init__") fd
  me_Distances_eq : Meth K (He.ga K "Distances") "__eq__" (He.ma K (He.ga K "Distances") "__eq__")
  d_Distances_eq : ∃ fd, FunD K "__eq__" "Distances.__eq__" (defArgs s_Distances_eq) (defBody s_Distances_eq) (defScope s_Distances_eq) [] [] (He.ma K (He.ga K "Distances") "__eq__") fd
  me_Distances_or : Meth K (He.ga K "Distances") "__or__" (He.ma K (He.ga K "Distances") "__or__")
  d_Distances_or : ∃ fd, FunD K "__or__" "Distances.__or__" (defArgs s_Distances_or) (defBody s_Distances_or) (defScope s_Distances_or) [] [] (He.ma K (He.ga K "Distances") "__or__") fd
  me_Distances_sub : Meth K (He.ga K "Distances") "__sub__" (He.ma K (He.ga K "Distances") "__sub__")
  d_Distances_sub : ∃ fd, FunD K "__sub__" "Distances.__sub__" (defArgs s_Distances_sub) (defBody s_Distances_sub) (defScope s_Distances_sub) [] [] (He.ma K (He.ga K "Distances") "__sub__") fd
  me_Distances_xor : Meth K (He.ga K "Distances") "__xor__" (He.ma K (He.ga K "Distances") "__xor__")
  d_Distances_xor : ∃ fd, FunD K "__xor__" "Distances.__xor__" (defArgs s_Distances_xor) (defBody s_Distances_xor) (defScope s_Distances_xor) [] [] (He.ma K (He.ga K "Distances") "__xor__") fd
  me_Distances_modulus : Meth K (He.ga K "Distances") "modulus" (He.ma K (He.ga K "Distances") "modulus")
  d_Distances_modulus : ∃ fd, FunD K "modulus" "Distances.modulus" (defArgs s_Distances_modulus) (defBody s_Distances_modulus) (defScope s_Distances_modulus) [] [] (He.ma K (He.ga K "Distances") "modulus") fd
  me_Distances_classes : Meth K (He.ga K "Distances") "classes" (He.ma K (He.ga K "Distances") "classes")
  d_Distances_classes : ∃ fd, FunD K "classes" "Distances.classes" (defArgs s_Distances_classes) (defBody s_Distances_classes) (defScope s_Distances_classes) [] [] (He.ma K (He.ga K "Distances") "classes") fd
  me_Distances_changed : Meth K (He.ga K "Distances") "changed" (He.ma K (He.ga K "Distances") "changed")
  d_Distances_changed : ∃ fd, FunD K "changed" "Distances.changed" (defArgs s_Distances_changed) (defBody s_Distances_changed) (defScope s_Distances_changed) [] [] (He.ma K (He.ga K "Distances") "changed") fd
  g_read_number : mg "read_number" = some (.ref (He.ga K "read_number"))
  d_read_number : ∃ fd, FunD K "read_number" "read_number" (defArgs s_read_number) (defBody s_read_number) (defScope s_read_number) [] [] (He.ga K "read_number") fd
  g_read_numbers : mg "read_numbers" = some (.ref (He.ga K "read_numbers"))
  d_read_numbers : ∃ fd, FunD K "read_numbers" "read_numbers" (defArgs s_read_numbers) (defBody s_read_numbers) (defScope s_read_numbers) [] [] (He.ga K "read_numbers") fd
  g_deed_text : mg "deed_text" = some (.ref (He.ga K "deed_text"))
  d_deed_text : ∃ fd, FunD K "deed_text" "deed_text" (defArgs s_deed_text) (defBody s_deed_text) (defScope s_deed_text) [] [] (He.ga K "deed_text") fd
  g_plan_text : mg "plan_text" = some (.ref (He.ga K "plan_text"))
  d_plan_text : ∃ fd, FunD K "plan_text" "plan_text" (defArgs s_plan_text) (defBody s_plan_text) (defScope s_plan_text) [] [] (He.ga K "plan_text") fd
  g_read_plain : mg "read_plain" = some (.ref (He.ga K "read_plain"))
  d_read_plain : ∃ fd, FunD K "read_plain" "read_plain" (defArgs s_read_plain) (defBody s_read_plain) (defScope s_read_plain) [] [] (He.ga K "read_plain") fd
  g_read_deed : mg "read_deed" = some (.ref (He.ga K "read_deed"))
  d_read_deed : ∃ fd, FunD K "read_deed" "read_deed" (defArgs s_read_deed) (defBody s_read_deed) (defScope s_read_deed) [] [] (He.ga K "read_deed") fd
  g_read_plan : mg "read_plan" = some (.ref (He.ga K "read_plan"))
  d_read_plan : ∃ fd, FunD K "read_plan" "read_plan" (defArgs s_read_plan) (defBody s_read_plan) (defScope s_read_plan) [] [] (He.ga K "read_plan") fd
  g_sum_text : mg "sum_text" = some (.ref (He.ga K "sum_text"))
  d_sum_text : ∃ fd, FunD K "sum_text" "sum_text" (defArgs s_sum_text) (defBody s_sum_text) (defScope s_sum_text) [] [] (He.ga K "sum_text") fd
  g_form_text : mg "form_text" = some (.ref (He.ga K "form_text"))
  d_form_text : ∃ fd, FunD K "form_text" "form_text" (defArgs s_form_text) (defBody s_form_text) (defScope s_form_text) [] [] (He.ga K "form_text") fd
  g_read_head : mg "read_head" = some (.ref (He.ga K "read_head"))
  d_read_head : ∃ fd, FunD K "read_head" "read_head" (defArgs s_read_head) (defBody s_read_head) (defScope s_read_head) [] [] (He.ga K "read_head") fd
  g_read_sum : mg "read_sum" = some (.ref (He.ga K "read_sum"))
  d_read_sum : ∃ fd, FunD K "read_sum" "read_sum" (defArgs s_read_sum) (defBody s_read_sum) (defScope s_read_sum) [] [] (He.ga K "read_sum") fd
  g_read_form : mg "read_form" = some (.ref (He.ga K "read_form"))
  d_read_form : ∃ fd, FunD K "read_form" "read_form" (defArgs s_read_form) (defBody s_read_form) (defScope s_read_form) [] [] (He.ga K "read_form") fd
  g_numbers_text : mg "numbers_text" = some (.ref (He.ga K "numbers_text"))
  d_numbers_text : ∃ fd, FunD K "numbers_text" "numbers_text" (defArgs s_numbers_text) (defBody s_numbers_text) (defScope s_numbers_text) [] [] (He.ga K "numbers_text") fd
  g_set_text : mg "set_text" = some (.ref (He.ga K "set_text"))
  d_set_text : ∃ fd, FunD K "set_text" "set_text" (defArgs s_set_text) (defBody s_set_text) (defScope s_set_text) [] [] (He.ga K "set_text") fd
  g_set_of_text : mg "set_of_text" = some (.ref (He.ga K "set_of_text"))
  d_set_of_text : ∃ fd, FunD K "set_of_text" "set_of_text" (defArgs s_set_of_text) (defBody s_set_of_text) (defScope s_set_of_text) [] [] (He.ga K "set_of_text") fd
  g_read_set : mg "read_set" = some (.ref (He.ga K "read_set"))
  d_read_set : ∃ fd, FunD K "read_set" "read_set" (defArgs s_read_set) (defBody s_read_set) (defScope s_read_set) [] [] (He.ga K "read_set") fd
  g__law_pot : mg "_law_pot" = some (.ref (He.ga K "_law_pot"))
  d__law_pot : ∃ fd, FunD K "_law_pot" "_law_pot" (defArgs s__law_pot) (defBody s__law_pot) (defScope s__law_pot) [] [] (He.ga K "_law_pot") fd
  g__law_dip : mg "_law_dip" = some (.ref (He.ga K "_law_dip"))
  d__law_dip : ∃ fd, FunD K "_law_dip" "_law_dip" (defArgs s__law_dip) (defBody s__law_dip) (defScope s__law_dip) [] [] (He.ga K "_law_dip") fd
  g__law_thing : mg "_law_thing" = some (.ref (He.ga K "_law_thing"))
  d__law_thing : ∃ fd, FunD K "_law_thing" "_law_thing" (defArgs s__law_thing) (defBody s__law_thing) (defScope s__law_thing) [] [] (He.ga K "_law_thing") fd
  g__law_plain : mg "_law_plain" = some (.ref (He.ga K "_law_plain"))
  d__law_plain : ∃ fd, FunD K "_law_plain" "_law_plain" (defArgs s__law_plain) (defBody s__law_plain) (defScope s__law_plain) [] [] (He.ga K "_law_plain") fd
  g__law_deed : mg "_law_deed" = some (.ref (He.ga K "_law_deed"))
  d__law_deed : ∃ fd, FunD K "_law_deed" "_law_deed" (defArgs s__law_deed) (defBody s__law_deed) (defScope s__law_deed) [] [] (He.ga K "_law_deed") fd
  g__law_deeds : mg "_law_deeds" = some (.ref (He.ga K "_law_deeds"))
  d__law_deeds : ∃ fd, FunD K "_law_deeds" "_law_deeds" (defArgs s__law_deeds) (defBody s__law_deeds) (defScope s__law_deeds) [] [] (He.ga K "_law_deeds") fd
  g__law_made : mg "_law_made" = some (.ref (He.ga K "_law_made"))
  d__law_made : ∃ fd, FunD K "_law_made" "_law_made" (defArgs s__law_made) (defBody s__law_made) (defScope s__law_made) [] [] (He.ga K "_law_made") fd
  g__law_divisor : mg "_law_divisor" = some (.ref (He.ga K "_law_divisor"))
  d__law_divisor : ∃ fd, FunD K "_law_divisor" "_law_divisor" (defArgs s__law_divisor) (defBody s__law_divisor) (defScope s__law_divisor) [] [] (He.ga K "_law_divisor") fd
  g__law_lowest : mg "_law_lowest" = some (.ref (He.ga K "_law_lowest"))
  d__law_lowest : ∃ fd, FunD K "_law_lowest" "_law_lowest" (defArgs s__law_lowest) (defBody s__law_lowest) (defScope s__law_lowest) [] [] (He.ga K "_law_lowest") fd
  g__law_number : mg "_law_number" = some (.ref (He.ga K "_law_number"))
  d__law_number : ∃ fd, FunD K "_law_number" "_law_number" (defArgs s__law_number) (defBody s__law_number) (defScope s__law_number) [] [] (He.ga K "_law_number") fd
  g__law_row : mg "_law_row" = some (.ref (He.ga K "_law_row"))
  d__law_row : ∃ fd, FunD K "_law_row" "_law_row" (defArgs s__law_row) (defBody s__law_row) (defScope s__law_row) [] [] (He.ga K "_law_row") fd
  g__law_some : mg "_law_some" = some (.ref (He.ga K "_law_some"))
  d__law_some : ∃ fd, FunD K "_law_some" "_law_some" (defArgs s__law_some) (defBody s__law_some) (defScope s__law_some) [] [] (He.ga K "_law_some") fd
  g__law_plans_right : mg "_law_plans_right" = some (.ref (He.ga K "_law_plans_right"))
  d__law_plans_right : ∃ fd, FunD K "_law_plans_right" "_law_plans_right" (defArgs s__law_plans_right) (defBody s__law_plans_right) (defScope s__law_plans_right) [] [] (He.ga K "_law_plans_right") fd
  g__law_forms_right : mg "_law_forms_right" = some (.ref (He.ga K "_law_forms_right"))
  d__law_forms_right : ∃ fd, FunD K "_law_forms_right" "_law_forms_right" (defArgs s__law_forms_right) (defBody s__law_forms_right) (defScope s__law_forms_right) [] [] (He.ga K "_law_forms_right") fd
  g__law_sets_right : mg "_law_sets_right" = some (.ref (He.ga K "_law_sets_right"))
  d__law_sets_right : ∃ fd, FunD K "_law_sets_right" "_law_sets_right" (defArgs s__law_sets_right) (defBody s__law_sets_right) (defScope s__law_sets_right) [] [] (He.ga K "_law_sets_right") fd
  g_law : mg "law" = some (.ref (He.ga K "law"))
  d_law : ∃ fd, FunD K "law" "law" (defArgs s_law) (defBody s_law) (defScope s_law) [] [] (He.ga K "law") fd
  i_mul : ∃ fo, PySem.W.findIn K (.type "int") "__mul__" = some fo
  i_rmul : ∃ fo, PySem.W.findIn K (.type "int") "__rmul__" = some fo
  f_rmul : PySem.W.findIn K (.ref (He.ga K "Form")) "__rmul__" = some none
  i_sub : PySem.W.subIn K (.type "int") (.ref (He.ga K "Form")) = some false
  i_pln : PySem.W.kitOne K (.type "int") (.ref (He.ga K "Plainest")) = some false
  e_Plan : ∀ H, SqT K H (He.dflAt ("Plan", some "__init__") 0 K) []
  e_Dis1 : ∀ H, SqT K H (He.dflAt ("Distances", some "__init__") 1 K) []
  e_Dis2 : ∀ H, SqT K H (He.dflAt ("Distances", some "__init__") 2 K) []
end RL
set_option maxHeartbeats 4000000
/-! roundline: the head's data; what the top has written -/
namespace RL
open PySem PySem.Spec PyProof.Rows L2
def insB (K : PySem.W.Frag) (C : Addr) : Bool := He.eqO (PySem.W.findIn K (.ref C) "__class__") (some (some (.builtin "object.__class__"))) && (He.eqO (PySem.W.specialIn K (.builtin "object.__class__") "__get__") (some (some (.builtin "getset_descriptor.__get__"))) &&
  (decide (PySem.W.takesIn K (.builtin "object.__class__") = some true) && (decide (PySem.W.mroIn K C (.type "object") = some true) && decide (PySem.W.kitOne K (.ref C) (.ref C) = some true))))
theorem insB_ok {K : PySem.W.Frag} {C : Addr} (cl : Cls K C) (h : insB K C = true) : C8.InsC K C := by
  obtain ⟨h1, h⟩ := He.ba h
  obtain ⟨h2, h⟩ := He.ba h
  obtain ⟨h3, h⟩ := He.ba h
  obtain ⟨h4, h5⟩ := He.ba h
  exact ⟨cl, He.eqO_ok h1, He.eqO_ok h2, of_decide_eq_true h3, of_decide_eq_true h4, of_decide_eq_true h5⟩
/-- the empty tuple -/
def tupE (K : PySem.W.Frag) (a : Addr) : Bool := match K.lookup a with
  | some ⟨.type c, _, .seq its _, _⟩ => decide (c = "tuple") && decide (its.toList = [])
  | _ => false
theorem tupE_ok {K : PySem.W.Frag} {a : Addr} (h : tupE K a = true) (H : Hp) : SqT K H a [] := by
  unfold tupE at h
  split at h
  · rename_i c od its n osl q
    obtain ⟨h1, h2⟩ := He.ba h
    have e := of_decide_eq_true h2
    refine .inr ⟨_, its, n, q, congrArg Value.type (of_decide_eq_true h1), rfl, ?_, ?_⟩
    · have : its.size = 0 := by
        rw [← Array.length_toList, e]
        rfl
      omega
    · rw [e]
      exact .nil
  · cases h
def h_is_whole : He.DefD := ⟨("is_whole", none), "is_whole", "is_whole", defArgs s_is_whole, defBody s_is_whole, defScope s_is_whole, [], []⟩
def h_is_thing : He.DefD := ⟨("is_thing", none), "is_thing", "is_thing", defArgs s_is_thing, defBody s_is_thing, defScope s_is_thing, [], []⟩
def h_is_window : He.DefD := ⟨("is_window", none), "is_window", "is_window", defArgs s_is_window, defBody s_is_window, defScope s_is_window, [], []⟩
def h_is_length : He.DefD := ⟨("is_length", none), "is_length", "is_length", defArgs s_is_length, defBody s_is_length, defScope s_is_length, [], []⟩
def h_is_plain_deed : He.DefD := ⟨("is_plain_deed", none), "is_plain_deed", "is_plain_deed", defArgs s_is_plain_deed, defBody s_is_plain_deed, defScope s_is_plain_deed, [], []⟩
def h_is_deed : He.DefD := ⟨("is_deed", none), "is_deed", "is_deed", defArgs s_is_deed, defBody s_is_deed, defScope s_is_deed, [], []⟩
def h_common_divisor : He.DefD := ⟨("common_divisor", none), "common_divisor", "common_divisor", defArgs s_common_divisor, defBody s_common_divisor, defScope s_common_divisor, [], []⟩
def h_common_multiple : He.DefD := ⟨("common_multiple", none), "common_multiple", "common_multiple", defArgs s_common_multiple, defBody s_common_multiple, defScope s_common_multiple, [], []⟩
def h_Form_init : He.DefD := ⟨("Form", some "__init__"), "__init__", "Form.__init__", defArgs s_Form_init, defBody s_Form_init, defScope s_Form_init, [.int 0, .int 1], []⟩
def h_Form_eq : He.DefD := ⟨("Form", some "__eq__"), "__eq__", "Form.__eq__", defArgs s_Form_eq, defBody s_Form_eq, defScope s_Form_eq, [], []⟩
def h_Form_add : He.DefD := ⟨("Form", some "__add__"), "__add__", "Form.__add__", defArgs s_Form_add, defBody s_Form_add, defScope s_Form_add, [], []⟩
def h_Form_sub : He.DefD := ⟨("Form", some "__sub__"), "__sub__", "Form.__sub__", defArgs s_Form_sub, defBody s_Form_sub, defScope s_Form_sub, [], []⟩
def h_Form_neg : He.DefD := ⟨("Form", some "__neg__"), "__neg__", "Form.__neg__", defArgs s_Form_neg, defBody s_Form_neg, defScope s_Form_neg, [], []⟩
def h_Form_mul : He.DefD := ⟨("Form", some "__mul__"), "__mul__", "Form.__mul__", defArgs s_Form_mul, defBody s_Form_mul, defScope s_Form_mul, [], []⟩
def h_Form_parts : He.DefD := ⟨("Form", some "parts"), "parts", "Form.parts", defArgs s_Form_parts, defBody s_Form_parts, defScope s_Form_parts, [], []⟩
def h_form_of : He.DefD := ⟨("form_of", none), "form_of", "form_of", defArgs s_form_of, defBody s_form_of, defScope s_form_of, [], []⟩
def h_parts_of : He.DefD := ⟨("parts_of", none), "parts_of", "parts_of", defArgs s_parts_of, defBody s_parts_of, defScope s_parts_of, [], []⟩
def h_Plan_init : He.DefD := ⟨("Plan", some "__init__"), "__init__", "Plan.__init__", defArgs s_Plan_init, defBody s_Plan_init, defScope s_Plan_init, [.adr (He.dflAt ("Plan", some "__init__") 0)], []⟩
def h_Plan_eq : He.DefD := ⟨("Plan", some "__eq__"), "__eq__", "Plan.__eq__", defArgs s_Plan_eq, defBody s_Plan_eq, defScope s_Plan_eq, [], []⟩
def h_Plan_len : He.DefD := ⟨("Plan", some "__len__"), "__len__", "Plan.__len__", defArgs s_Plan_len, defBody s_Plan_len, defScope s_Plan_len, [], []⟩
def h_Plan_add : He.DefD := ⟨("Plan", some "__add__"), "__add__", "Plan.__add__", defArgs s_Plan_add, defBody s_Plan_add, defScope s_Plan_add, [], []⟩
def h_Plan_has : He.DefD := ⟨("Plan", some "has"), "has", "Plan.has", defArgs s_Plan_has, defBody s_Plan_has, defScope s_Plan_has, [], []⟩
def h_Plan_deeds : He.DefD := ⟨("Plan", some "deeds"), "deeds", "Plan.deeds", defArgs s_Plan_deeds, defBody s_Plan_deeds, defScope s_Plan_deeds, [], []⟩
def h_Plan_without : He.DefD := ⟨("Plan", some "without"), "without", "Plan.without", defArgs s_Plan_without, defBody s_Plan_without, defScope s_Plan_without, [], []⟩
def h_Plan_exchanged : He.DefD := ⟨("Plan", some "exchanged"), "exchanged", "Plan.exchanged", defArgs s_Plan_exchanged, defBody s_Plan_exchanged, defScope s_Plan_exchanged, [], []⟩
def h_prime_divisors : He.DefD := ⟨("prime_divisors", none), "prime_divisors", "prime_divisors", defArgs s_prime_divisors, defBody s_prime_divisors, defScope s_prime_divisors, [], []⟩
def h_is_periodic : He.DefD := ⟨("is_periodic", none), "is_periodic", "is_periodic", defArgs s_is_periodic, defBody s_is_periodic, defScope s_is_periodic, [], []⟩
def h_least_period : He.DefD := ⟨("least_period", none), "least_period", "least_period", defArgs s_least_period, defBody s_least_period, defScope s_least_period, [], []⟩
def h_sums_of : He.DefD := ⟨("sums_of", none), "sums_of", "sums_of", defArgs s_sums_of, defBody s_sums_of, defScope s_sums_of, [], []⟩
def h_Plainest_init : He.DefD := ⟨("Plainest", some "__init__"), "__init__", "Plainest.__init__", defArgs s_Plainest_init, defBody s_Plainest_init, defScope s_Plainest_init, [], []⟩
def h_Plainest_is_in : He.DefD := ⟨("Plainest", some "is_in"), "is_in", "Plainest.is_in", defArgs s_Plainest_is_in, defBody s_Plainest_is_in, defScope s_Plainest_is_in, [], []⟩
def h_checked : He.DefD := ⟨("checked", none), "checked", "checked", defArgs s_checked, defBody s_checked, defScope s_checked, [], []⟩
def h_joined : He.DefD := ⟨("joined", none), "joined", "joined", defArgs s_joined, defBody s_joined, defScope s_joined, [], []⟩
def h_Distances_init : He.DefD := ⟨("Distances", some "__init__"), "__init__", "Distances.__init__", defArgs s_Distances_init, defBody s_Distances_init, defScope s_Distances_init, [.int 1, .adr (He.dflAt ("Distances", some "__init__") 1), .adr (He.dflAt ("Distances", some "__init__") 2)], []⟩
def h_Distances_eq : He.DefD := ⟨("Distances", some "__eq__"), "__eq__", "Distances.__eq__", defArgs s_Distances_eq, defBody s_Distances_eq, defScope s_Distances_eq, [], []⟩
def h_Distances_or : He.DefD := ⟨("Distances", some "__or__"), "__or__", "Distances.__or__", defArgs s_Distances_or, defBody s_Distances_or, defScope s_Distances_or, [], []⟩
def h_Distances_sub : He.DefD := ⟨("Distances", some "__sub__"), "__sub__", "Distances.__sub__", defArgs s_Distances_sub, defBody s_Distances_sub, defScope s_Distances_sub, [], []⟩
def h_Distances_xor : He.DefD := ⟨("Distances", some "__xor__"), "__xor__", "Distances.__xor__", defArgs s_Distances_xor, defBody s_Distances_xor, defScope s_Distances_xor, [], []⟩
def h_Distances_modulus : He.DefD := ⟨("Distances", some "modulus"), "modulus", "Distances.modulus", defArgs s_Distances_modulus, defBody s_Distances_modulus, defScope s_Distances_modulus, [], []⟩
def h_Distances_classes : He.DefD := ⟨("Distances", some "classes"), "classes", "Distances.classes", defArgs s_Distances_classes, defBody s_Distances_classes, defScope s_Distances_classes, [], []⟩
def h_Distances_changed : He.DefD := ⟨("Distances", some "changed"), "changed", "Distances.changed", defArgs s_Distances_changed, defBody s_Distances_changed, defScope s_Distances_changed, [], []⟩
def h_read_number : He.DefD := ⟨("read_number", none), "read_number", "read_number", defArgs s_read_number, defBody s_read_number, defScope s_read_number, [], []⟩
def h_read_numbers : He.DefD := ⟨("read_numbers", none), "read_numbers", "read_numbers", defArgs s_read_numbers, defBody s_read_numbers, defScope s_read_numbers, [], []⟩
def h_deed_text : He.DefD := ⟨("deed_text", none), "deed_text", "deed_text", defArgs s_deed_text, defBody s_deed_text, defScope s_deed_text, [], []⟩
def h_plan_text : He.DefD := ⟨("plan_text", none), "plan_text", "plan_text", defArgs s_plan_text, defBody s_plan_text, defScope s_plan_text, [], []⟩
def h_read_plain : He.DefD := ⟨("read_plain", none), "read_plain", "read_plain", defArgs s_read_plain, defBody s_read_plain, defScope s_read_plain, [], []⟩
def h_read_deed : He.DefD := ⟨("read_deed", none), "read_deed", "read_deed", defArgs s_read_deed, defBody s_read_deed, defScope s_read_deed, [], []⟩
def h_read_plan : He.DefD := ⟨("read_plan", none), "read_plan", "read_plan", defArgs s_read_plan, defBody s_read_plan, defScope s_read_plan, [], []⟩
def h_sum_text : He.DefD := ⟨("sum_text", none), "sum_text", "sum_text", defArgs s_sum_text, defBody s_sum_text, defScope s_sum_text, [], []⟩
def h_form_text : He.DefD := ⟨("form_text", none), "form_text", "form_text", defArgs s_form_text, defBody s_form_text, defScope s_form_text, [], []⟩
def h_read_head : He.DefD := ⟨("read_head", none), "read_head", "read_head", defArgs s_read_head, defBody s_read_head, defScope s_read_head, [], []⟩
def h_read_sum : He.DefD := ⟨("read_sum", none), "read_sum", "read_sum", defArgs s_read_sum, defBody s_read_sum, defScope s_read_sum, [], []⟩
def h_read_form : He.DefD := ⟨("read_form", none), "read_form", "read_form", defArgs s_read_form, defBody s_read_form, defScope s_read_form, [], []⟩
def h_numbers_text : He.DefD := ⟨("numbers_text", none), "numbers_text", "numbers_text", defArgs s_numbers_text, defBody s_numbers_text, defScope s_numbers_text, [], []⟩
def h_set_text : He.DefD := ⟨("set_text", none), "set_text", "set_text", defArgs s_set_text, defBody s_set_text, defScope s_set_text, [], []⟩
def h_set_of_text : He.DefD := ⟨("set_of_text", none), "set_of_text", "set_of_text", defArgs s_set_of_text, defBody s_set_of_text, defScope s_set_of_text, [], []⟩
def h_read_set : He.DefD := ⟨("read_set", none), "read_set", "read_set", defArgs s_read_set, defBody s_read_set, defScope s_read_set, [], []⟩
def h__law_pot : He.DefD := ⟨("_law_pot", none), "_law_pot", "_law_pot", defArgs s__law_pot, defBody s__law_pot, defScope s__law_pot, [], []⟩
def h__law_dip : He.DefD := ⟨("_law_dip", none), "_law_dip", "_law_dip", defArgs s__law_dip, defBody s__law_dip, defScope s__law_dip, [], []⟩
def h__law_thing : He.DefD := ⟨("_law_thing", none), "_law_thing", "_law_thing", defArgs s__law_thing, defBody s__law_thing, defScope s__law_thing, [], []⟩
def h__law_plain : He.DefD := ⟨("_law_plain", none), "_law_plain", "_law_plain", defArgs s__law_plain, defBody s__law_plain, defScope s__law_plain, [], []⟩
def h__law_deed : He.DefD := ⟨("_law_deed", none), "_law_deed", "_law_deed", defArgs s__law_deed, defBody s__law_deed, defScope s__law_deed, [], []⟩
def h__law_deeds : He.DefD := ⟨("_law_deeds", none), "_law_deeds", "_law_deeds", defArgs s__law_deeds, defBody s__law_deeds, defScope s__law_deeds, [], []⟩
def h__law_made : He.DefD := ⟨("_law_made", none), "_law_made", "_law_made", defArgs s__law_made, defBody s__law_made, defScope s__law_made, [], []⟩
def h__law_divisor : He.DefD := ⟨("_law_divisor", none), "_law_divisor", "_law_divisor", defArgs s__law_divisor, defBody s__law_divisor, defScope s__law_divisor, [], []⟩
def h__law_lowest : He.DefD := ⟨("_law_lowest", none), "_law_lowest", "_law_lowest", defArgs s__law_lowest, defBody s__law_lowest, defScope s__law_lowest, [], []⟩
def h__law_number : He.DefD := ⟨("_law_number", none), "_law_number", "_law_number", defArgs s__law_number, defBody s__law_number, defScope s__law_number, [], []⟩
def h__law_row : He.DefD := ⟨("_law_row", none), "_law_row", "_law_row", defArgs s__law_row, defBody s__law_row, defScope s__law_row, [], []⟩
def h__law_some : He.DefD := ⟨("_law_some", none), "_law_some", "_law_some", defArgs s__law_some, defBody s__law_some, defScope s__law_some, [], []⟩
def h__law_plans_right : He.DefD := ⟨("_law_plans_right", none), "_law_plans_right", "_law_plans_right", defArgs s__law_plans_right, defBody s__law_plans_right, defScope s__law_plans_right, [], []⟩
def h__law_forms_right : He.DefD := ⟨("_law_forms_right", none), "_law_forms_right", "_law_forms_right", defArgs s__law_forms_right, defBody s__law_forms_right, defScope s__law_forms_right, [], []⟩
def h__law_sets_right : He.DefD := ⟨("_law_sets_right", none), "_law_sets_right", "_law_sets_right", defArgs s__law_sets_right, defBody s__law_sets_right, defScope s__law_sets_right, [], []⟩
def h_law : He.DefD := ⟨("law", none), "law", "law", defArgs s_law, defBody s_law, defScope s_law, [], []⟩
def fn : List He.DefD := [h_is_whole, h_is_thing, h_is_window, h_is_length, h_is_plain_deed, h_is_deed, h_common_divisor, h_common_multiple, h_Form_init, h_Form_eq, h_Form_add, h_Form_sub, h_Form_neg, h_Form_mul, h_Form_parts, h_form_of, h_parts_of, h_Plan_init, h_Plan_eq, h_Plan_len, h_Plan_add, h_Plan_has, h_Plan_deeds, h_Plan_without, h_Plan_exchanged, h_prime_divisors, h_is_periodic, h_least_period, h_sums_of, h_Plainest_init, h_Plainest_is_in, h_checked, h_joined, h_Distances_init, h_Distances_eq, h_Distances_or, h_Distances_sub, h_Distances_xor, h_Distances_modulus, h_Distances_classes, h_Distances_changed, h_read_number, h_read_numbers, h_deed_text, h_plan_text, h_read_plain, h_read_deed, h_read_plan, h_sum_text, h_form_text, h_read_head, h_read_sum, h_read_form, h_numbers_text, h_set_text, h_set_of_text, h_read_set, h__law_pot, h__law_dip, h__law_thing, h__law_plain, h__law_deed, h__law_deeds, h__law_made, h__law_divisor, h__law_lowest, h__law_number, h__law_row, h__law_some, h__law_plans_right, h__law_forms_right, h__law_sets_right, h_law]
def fa : List He.Fa := [.free "abs", .free "all", .free "bool", .free "divmod", .free "enumerate", .free "int", .free "isinstance", .free "len", .free "max", .free "min", .free "range", .free "set", .free "sorted", .free "str", .free "tuple", .str "LETTERS" "abcdefghijklmnopqrstuvwxyz", .int "LONGEST_THING" 8, .int "GREATEST_PULL" 40, .int "GREATEST_STEP" 6, .int "MOST_DEEDS" 12, .int "MOST_MODULUS" 720, .glo "WINDOWS", .glo "UNION", .glo "WITHOUT", .glo "IN_ONE", .glo "Form", .cls "Form", .mkr "Form", .noat "Form" "row", .glo "Plan", .cls "Plan", .mkr "Plan", .noat "Plan" "kept", .glo "Plainest", .cls "Plainest", .mkr "Plainest", .noat "Plainest" "period", .noat "Plainest" "flags", .noat "Plainest" "flipped", .noat "Plainest" "below", .glo "Distances", .cls "Distances", .mkr "Distances", .noat "Distances" "plain", .glo "is_whole", .glo "is_thing", .glo "is_window", .glo "is_length", .glo "is_plain_deed", .glo "is_deed", .glo "common_divisor", .glo "common_multiple", .meth "Form" "__eq__", .meth "Form" "__add__", .meth "Form" "__sub__", .meth "Form" "__neg__", .meth "Form" "__mul__", .meth "Form" "parts", .glo "form_of", .glo "parts_of", .meth "Plan" "__eq__", .meth "Plan" "__len__", .meth "Plan" "__add__", .meth "Plan" "has", .meth "Plan" "deeds", .meth "Plan" "without", .meth "Plan" "exchanged", .glo "prime_divisors", .glo "is_periodic", .glo "least_period", .glo "sums_of", .meth "Plainest" "is_in", .glo "checked", .glo "joined", .meth "Distances" "__eq__", .meth "Distances" "__or__", .meth "Distances" "__sub__", .meth "Distances" "__xor__", .meth "Distances" "modulus", .meth "Distances" "classes", .meth "Distances" "changed", .glo "read_number", .glo "read_numbers", .glo "deed_text", .glo "plan_text", .glo "read_plain", .glo "read_deed", .glo "read_plan", .glo "sum_text", .glo "form_text", .glo "read_head", .glo "read_sum", .glo "read_form", .glo "numbers_text", .glo "set_text", .glo "set_of_text", .glo "read_set", .glo "_law_pot", .glo "_law_dip", .glo "_law_thing", .glo "_law_plain", .glo "_law_deed", .glo "_law_deeds", .glo "_law_made", .glo "_law_divisor", .glo "_law_lowest", .glo "_law_number", .glo "_law_row", .glo "_law_some", .glo "_law_plans_right", .glo "_law_forms_right", .glo "_law_sets_right", .glo "law"]
def exL (K : PySem.W.Frag) : List Bool := [He.tupB K "WINDOWS" [.str "near", .str "far"], He.tupB K "UNION" [.bl false, .bl true, .bl true, .bl true], He.tupB K "WITHOUT" [.bl false, .bl false, .bl true, .bl false], He.tupB K "IN_ONE" [.bl false, .bl true, .bl true, .bl false], PySem.W.selfFirst K (He.ga K "Form"), PySem.W.notFirst K (He.ga K "Form") (.ref (He.ga K "Form")), PySem.W.selfFirst K (He.ga K "Plan"), PySem.W.notFirst K (He.ga K "Plan") (.ref (He.ga K "Plan")), PySem.W.selfFirst K (He.ga K "Distances"), PySem.W.notFirst K (He.ga K "Distances") (.ref (He.ga K "Distances")), insB K (He.ga K "Form"), insB K (He.ga K "Plan"), insB K (He.ga K "Plainest"), insB K (He.ga K "Distances"), decide ((PySem.W.findIn K (.type "int") "__mul__").isSome = true), decide ((PySem.W.findIn K (.type "int") "__rmul__").isSome = true), He.eqO (PySem.W.findIn K (.ref (He.ga K "Form")) "__rmul__") (some none), decide (PySem.W.subIn K (.type "int") (.ref (He.ga K "Form")) = some false), decide (PySem.W.kitOne K (.type "int") (.ref (He.ga K "Plainest")) = some false), tupE K (He.dflAt ("Plan", some "__init__") 0 K), tupE K (He.dflAt ("Distances", some "__init__") 1 K), tupE K (He.dflAt ("Distances", some "__init__") 2 K)]
def exB (K : PySem.W.Frag) : Bool := (exL K).all id
theorem tx_of {h : Heap} {K : PySem.W.Frag} {mg : Str → Option Value} (X : K.In h) (G : h.Ns mainGlobals mg) (c1 : He.SaysD fa fn K) (c2 : exB K = true) : Tx K mg := by
  have e1 : ∀ b ∈ exL K, b = true := fun b hb => List.all_eq_true.mp c2 b hb
  have e2 : ∀ (i : Nat) (b : Bool), (exL K)[i]? = some b → b = true := fun i b hb => e1 b (List.mem_of_getElem? hb)
  have l_Form := He.cls_ok (c1.fact 26 (f := .cls "Form") rfl)
  have l_Plan := He.cls_ok (c1.fact 30 (f := .cls "Plan") rfl)
  have l_Plainest := He.cls_ok (c1.fact 34 (f := .cls "Plainest") rfl)
  have l_Distances := He.cls_ok (c1.fact 41 (f := .cls "Distances") rfl)
  exact {
    b_abs := He.free_ok X G (c1.fact 0 (f := .free "abs") rfl)
    b_all := He.free_ok X G (c1.fact 1 (f := .free "all") rfl)
    b_bool := He.free_ok X G (c1.fact 2 (f := .free "bool") rfl)
    b_divmod := He.free_ok X G (c1.fact 3 (f := .free "divmod") rfl)
    b_enumerate := He.free_ok X G (c1.fact 4 (f := .free "enumerate") rfl)
    b_int := He.free_ok X G (c1.fact 5 (f := .free "int") rfl)
    b_isinstance := He.free_ok X G (c1.fact 6 (f := .free "isinstance") rfl)
    b_len := He.free_ok X G (c1.fact 7 (f := .free "len") rfl)
    b_max := He.free_ok X G (c1.fact 8 (f := .free "max") rfl)
    b_min := He.free_ok X G (c1.fact 9 (f := .free "min") rfl)
    b_range := He.free_ok X G (c1.fact 10 (f := .free "range") rfl)
    b_set := He.free_ok X G (c1.fact 11 (f := .free "set") rfl)
    b_sorted := He.free_ok X G (c1.fact 12 (f := .free "sorted") rfl)
    b_str := He.free_ok X G (c1.fact 13 (f := .free "str") rfl)
    b_tuple := He.free_ok X G (c1.fact 14 (f := .free "tuple") rfl)
    v_LETTERS := (let ⟨t, e⟩ := He.str_ok X G (c1.fact 15 (f := .str "LETTERS" "abcdefghijklmnopqrstuvwxyz") rfl); ⟨_, e, ⟨t, rfl⟩⟩)
    v_LONGEST_THING := (let ⟨t, e⟩ := He.int_ok X G (c1.fact 16 (f := .int "LONGEST_THING" 8) rfl); ⟨_, e, ⟨t, rfl⟩⟩)
    v_GREATEST_PULL := (let ⟨t, e⟩ := He.int_ok X G (c1.fact 17 (f := .int "GREATEST_PULL" 40) rfl); ⟨_, e, ⟨t, rfl⟩⟩)
    v_GREATEST_STEP := (let ⟨t, e⟩ := He.int_ok X G (c1.fact 18 (f := .int "GREATEST_STEP" 6) rfl); ⟨_, e, ⟨t, rfl⟩⟩)
    v_MOST_DEEDS := (let ⟨t, e⟩ := He.int_ok X G (c1.fact 19 (f := .int "MOST_DEEDS" 12) rfl); ⟨_, e, ⟨t, rfl⟩⟩)
    v_MOST_MODULUS := (let ⟨t, e⟩ := He.int_ok X G (c1.fact 20 (f := .int "MOST_MODULUS" 720) rfl); ⟨_, e, ⟨t, rfl⟩⟩)
    v_WINDOWS := ⟨_, He.glo_ok X G (c1.fact 21 (f := .glo "WINDOWS") rfl), rfl⟩
    v_UNION := ⟨_, He.glo_ok X G (c1.fact 22 (f := .glo "UNION") rfl), rfl⟩
    v_WITHOUT := ⟨_, He.glo_ok X G (c1.fact 23 (f := .glo "WITHOUT") rfl), rfl⟩
    v_IN_ONE := ⟨_, He.glo_ok X G (c1.fact 24 (f := .glo "IN_ONE") rfl), rfl⟩
    g_Form := He.glo_ok X G (c1.fact 25 (f := .glo "Form") rfl)
    l_Form := l_Form
    mk_Form := He.mkr_ok (c1.fact 27 (f := .mkr "Form") rfl)
    n_Form_row := He.noat_ok (c1.fact 28 (f := .noat "Form" "row") rfl)
    g_Plan := He.glo_ok X G (c1.fact 29 (f := .glo "Plan") rfl)
    l_Plan := l_Plan
    mk_Plan := He.mkr_ok (c1.fact 31 (f := .mkr "Plan") rfl)
    n_Plan_kept := He.noat_ok (c1.fact 32 (f := .noat "Plan" "kept") rfl)
    g_Plainest := He.glo_ok X G (c1.fact 33 (f := .glo "Plainest") rfl)
    l_Plainest := l_Plainest
    mk_Plainest := He.mkr_ok (c1.fact 35 (f := .mkr "Plainest") rfl)
    n_Plainest_period := He.noat_ok (c1.fact 36 (f := .noat "Plainest" "period") rfl)
    n_Plainest_flags := He.noat_ok (c1.fact 37 (f := .noat "Plainest" "flags") rfl)
    n_Plainest_flipped := He.noat_ok (c1.fact 38 (f := .noat "Plainest" "flipped") rfl)
    n_Plainest_below := He.noat_ok (c1.fact 39 (f := .noat "Plainest" "below") rfl)
    g_Distances := He.glo_ok X G (c1.fact 40 (f := .glo "Distances") rfl)
    l_Distances := l_Distances
    mk_Distances := He.mkr_ok (c1.fact 42 (f := .mkr "Distances") rfl)
    n_Distances_plain := He.noat_ok (c1.fact 43 (f := .noat "Distances" "plain") rfl)
    g_is_whole := He.glo_ok X G (c1.fact 44 (f := .glo "is_whole") rfl)
    g_is_thing := He.glo_ok X G (c1.fact 45 (f := .glo "is_thing") rfl)
    g_is_window := He.glo_ok X G (c1.fact 46 (f := .glo "is_window") rfl)
    g_is_length := He.glo_ok X G (c1.fact 47 (f := .glo "is_length") rfl)
    g_is_plain_deed := He.glo_ok X G (c1.fact 48 (f := .glo "is_plain_deed") rfl)
    g_is_deed := He.glo_ok X G (c1.fact 49 (f := .glo "is_deed") rfl)
    g_common_divisor := He.glo_ok X G (c1.fact 50 (f := .glo "common_divisor") rfl)
    g_common_multiple := He.glo_ok X G (c1.fact 51 (f := .glo "common_multiple") rfl)
    me_Form_eq := He.meth_ok (c1.fact 52 (f := .meth "Form" "__eq__") rfl)
    me_Form_add := He.meth_ok (c1.fact 53 (f := .meth "Form" "__add__") rfl)
    me_Form_sub := He.meth_ok (c1.fact 54 (f := .meth "Form" "__sub__") rfl)
    me_Form_neg := He.meth_ok (c1.fact 55 (f := .meth "Form" "__neg__") rfl)
    me_Form_mul := He.meth_ok (c1.fact 56 (f := .meth "Form" "__mul__") rfl)
    me_Form_parts := He.meth_ok (c1.fact 57 (f := .meth "Form" "parts") rfl)
    g_form_of := He.glo_ok X G (c1.fact 58 (f := .glo "form_of") rfl)
    g_parts_of := He.glo_ok X G (c1.fact 59 (f := .glo "parts_of") rfl)
    me_Plan_eq := He.meth_ok (c1.fact 60 (f := .meth "Plan" "__eq__") rfl)
    me_Plan_len := He.meth_ok (c1.fact 61 (f := .meth "Plan" "__len__") rfl)
    me_Plan_add := He.meth_ok (c1.fact 62 (f := .meth "Plan" "__add__") rfl)
    me_Plan_has := He.meth_ok (c1.fact 63 (f := .meth "Plan" "has") rfl)
    me_Plan_deeds := He.meth_ok (c1.fact 64 (f := .meth "Plan" "deeds") rfl)
    me_Plan_without := He.meth_ok (c1.fact 65 (f := .meth "Plan" "without") rfl)
    me_Plan_exchanged := He.meth_ok (c1.fact 66 (f := .meth "Plan" "exchanged") rfl)
    g_prime_divisors := He.glo_ok X G (c1.fact 67 (f := .glo "prime_divisors") rfl)
    g_is_periodic := He.glo_ok X G (c1.fact 68 (f := .glo "is_periodic") rfl)
    g_least_period := He.glo_ok X G (c1.fact 69 (f := .glo "least_period") rfl)
    g_sums_of := He.glo_ok X G (c1.fact 70 (f := .glo "sums_of") rfl)
    me_Plainest_is_in := He.meth_ok (c1.fact 71 (f := .meth "Plainest" "is_in") rfl)
    g_checked := He.glo_ok X G (c1.fact 72 (f := .glo "checked") rfl)
    g_joined := He.glo_ok X G (c1.fact 73 (f := .glo "joined") rfl)
    me_Distances_eq := He.meth_ok (c1.fact 74 (f := .meth "Distances" "__eq__") rfl)
    me_Distances_or := He.meth_ok (c1.fact 75 (f := .meth "Distances" "__or__") rfl)
    me_Distances_sub := He.meth_ok (c1.fact 76 (f := .meth "Distances" "__sub__") rfl)
    me_Distances_xor := He.meth_ok (c1.fact 77 (f := .meth "Distances" "__xor__") rfl)
    me_Distances_modulus := He.meth_ok (c1.fact 78 (f := .meth "Distances" "modulus") rfl)
    me_Distances_classes := He.meth_ok (c1.fact 79 (f := .meth "Distances" "classes") rfl)
    me_Distances_changed := He.meth_ok (c1.fact 80 (f := .meth "Distances" "changed") rfl)
    g_read_number := He.glo_ok X G (c1.fact 81 (f := .glo "read_number") rfl)
    g_read_numbers := He.glo_ok X G (c1.fact 82 (f := .glo "read_numbers") rfl)
    g_deed_text := He.glo_ok X G (c1.fact 83 (f := .glo "deed_text") rfl)
    g_plan_text := He.glo_ok X G (c1.fact 84 (f := .glo "plan_text") rfl)
    g_read_plain := He.glo_ok X G (c1.fact 85 (f := .glo "read_plain") rfl)
    g_read_deed := He.glo_ok X G (c1.fact 86 (f := .glo "read_deed") rfl)
    g_read_plan := He.glo_ok X G (c1.fact 87 (f := .glo "read_plan") rfl)
    g_sum_text := He.glo_ok X G (c1.fact 88 (f := .glo "sum_text") rfl)
    g_form_text := He.glo_ok X G (c1.fact 89 (f := .glo "form_text") rfl)
    g_read_head := He.glo_ok X G (c1.fact 90 (f := .glo "read_head") rfl)
    g_read_sum := He.glo_ok X G (c1.fact 91 (f := .glo "read_sum") rfl)
    g_read_form := He.glo_ok X G (c1.fact 92 (f := .glo "read_form") rfl)
    g_numbers_text := He.glo_ok X G (c1.fact 93 (f := .glo "numbers_text") rfl)
    g_set_text := He.glo_ok X G (c1.fact 94 (f := .glo "set_text") rfl)
    g_set_of_text := He.glo_ok X G (c1.fact 95 (f := .glo "set_of_text") rfl)
    g_read_set := He.glo_ok X G (c1.fact 96 (f := .glo "read_set") rfl)
    g__law_pot := He.glo_ok X G (c1.fact 97 (f := .glo "_law_pot") rfl)
    g__law_dip := He.glo_ok X G (c1.fact 98 (f := .glo "_law_dip") rfl)
    g__law_thing := He.glo_ok X G (c1.fact 99 (f := .glo "_law_thing") rfl)
    g__law_plain := He.glo_ok X G (c1.fact 100 (f := .glo "_law_plain") rfl)
    g__law_deed := He.glo_ok X G (c1.fact 101 (f := .glo "_law_deed") rfl)
    g__law_deeds := He.glo_ok X G (c1.fact 102 (f := .glo "_law_deeds") rfl)
    g__law_made := He.glo_ok X G (c1.fact 103 (f := .glo "_law_made") rfl)
    g__law_divisor := He.glo_ok X G (c1.fact 104 (f := .glo "_law_divisor") rfl)
    g__law_lowest := He.glo_ok X G (c1.fact 105 (f := .glo "_law_lowest") rfl)
    g__law_number := He.glo_ok X G (c1.fact 106 (f := .glo "_law_number") rfl)
    g__law_row := He.glo_ok X G (c1.fact 107 (f := .glo "_law_row") rfl)
    g__law_some := He.glo_ok X G (c1.fact 108 (f := .glo "_law_some") rfl)
    g__law_plans_right := He.glo_ok X G (c1.fact 109 (f := .glo "_law_plans_right") rfl)
    g__law_forms_right := He.glo_ok X G (c1.fact 110 (f := .glo "_law_forms_right") rfl)
    g__law_sets_right := He.glo_ok X G (c1.fact 111 (f := .glo "_law_sets_right") rfl)
    g_law := He.glo_ok X G (c1.fact 112 (f := .glo "law") rfl)
    d_is_whole := c1.def_ 0 (d := h_is_whole) rfl
    d_is_thing := c1.def_ 1 (d := h_is_thing) rfl
    d_is_window := c1.def_ 2 (d := h_is_window) rfl
    d_is_length := c1.def_ 3 (d := h_is_length) rfl
    d_is_plain_deed := c1.def_ 4 (d := h_is_plain_deed) rfl
    d_is_deed := c1.def_ 5 (d := h_is_deed) rfl
    d_common_divisor := c1.def_ 6 (d := h_common_divisor) rfl
    d_common_multiple := c1.def_ 7 (d := h_common_multiple) rfl
    d_Form_init := c1.def_ 8 (d := h_Form_init) rfl
    d_Form_eq := c1.def_ 9 (d := h_Form_eq) rfl
    d_Form_add := c1.def_ 10 (d := h_Form_add) rfl
    d_Form_sub := c1.def_ 11 (d := h_Form_sub) rfl
    d_Form_neg := c1.def_ 12 (d := h_Form_neg) rfl
    d_Form_mul := c1.def_ 13 (d := h_Form_mul) rfl
    d_Form_parts := c1.def_ 14 (d := h_Form_parts) rfl
    d_form_of := c1.def_ 15 (d := h_form_of) rfl
    d_parts_of := c1.def_ 16 (d := h_parts_of) rfl
    d_Plan_init := c1.def_ 17 (d := h_Plan_init) rfl
    d_Plan_eq := c1.def_ 18 (d := h_Plan_eq) rfl
    d_Plan_len := c1.def_ 19 (d := h_Plan_len) rfl
    d_Plan_add := c1.def_ 20 (d := h_Plan_add) rfl
    d_Plan_has := c1.def_ 21 (d := h_Plan_has) rfl
    d_Plan_deeds := c1.def_ 22 (d := h_Plan_deeds) rfl
    d_Plan_without := c1.def_ 23 (d := h_Plan_without) rfl
    d_Plan_exchanged := c1.def_ 24 (d := h_Plan_exchanged) rfl
    d_prime_divisors := c1.def_ 25 (d := h_prime_divisors) rfl
    d_is_periodic := c1.def_ 26 (d := h_is_periodic) rfl
    d_least_period := c1.def_ 27 (d := h_least_period) rfl
    d_sums_of := c1.def_ 28 (d := h_sums_of) rfl
    d_Plainest_init := c1.def_ 29 (d := h_Plainest_init) rfl
    d_Plainest_is_in := c1.def_ 30 (d := h_Plainest_is_in) rfl
    d_checked := c1.def_ 31 (d := h_checked) rfl
    d_joined := c1.def_ 32 (d := h_joined) rfl
    d_Distances_init := c1.def_ 33 (d := h_Distances_init) rfl
    d_Distances_eq := c1.def_ 34 (d := h_Distances_eq) rfl
    d_Distances_or := c1.def_ 35 (d := h_Distances_or) rfl
    d_Distances_sub := c1.def_ 36 (d := h_Distances_sub) rfl
    d_Distances_xor := c1.def_ 37 (d := h_Distances_xor) rfl
    d_Distances_modulus := c1.def_ 38 (d := h_Distances_modulus) rfl
    d_Distances_classes := c1.def_ 39 (d := h_Distances_classes) rfl
    d_Distances_changed := c1.def_ 40 (d := h_Distances_changed) rfl
    d_read_number := c1.def_ 41 (d := h_read_number) rfl
    d_read_numbers := c1.def_ 42 (d := h_read_numbers) rfl
    d_deed_text := c1.def_ 43 (d := h_deed_text) rfl
    d_plan_text := c1.def_ 44 (d := h_plan_text) rfl
    d_read_plain := c1.def_ 45 (d := h_read_plain) rfl
    d_read_deed := c1.def_ 46 (d := h_read_deed) rfl
    d_read_plan := c1.def_ 47 (d := h_read_plan) rfl
    d_sum_text := c1.def_ 48 (d := h_sum_text) rfl
    d_form_text := c1.def_ 49 (d := h_form_text) rfl
    d_read_head := c1.def_ 50 (d := h_read_head) rfl
    d_read_sum := c1.def_ 51 (d := h_read_sum) rfl
    d_read_form := c1.def_ 52 (d := h_read_form) rfl
    d_numbers_text := c1.def_ 53 (d := h_numbers_text) rfl
    d_set_text := c1.def_ 54 (d := h_set_text) rfl
    d_set_of_text := c1.def_ 55 (d := h_set_of_text) rfl
    d_read_set := c1.def_ 56 (d := h_read_set) rfl
    d__law_pot := c1.def_ 57 (d := h__law_pot) rfl
    d__law_dip := c1.def_ 58 (d := h__law_dip) rfl
    d__law_thing := c1.def_ 59 (d := h__law_thing) rfl
    d__law_plain := c1.def_ 60 (d := h__law_plain) rfl
    d__law_deed := c1.def_ 61 (d := h__law_deed) rfl
    d__law_deeds := c1.def_ 62 (d := h__law_deeds) rfl
    d__law_made := c1.def_ 63 (d := h__law_made) rfl
    d__law_divisor := c1.def_ 64 (d := h__law_divisor) rfl
    d__law_lowest := c1.def_ 65 (d := h__law_lowest) rfl
    d__law_number := c1.def_ 66 (d := h__law_number) rfl
    d__law_row := c1.def_ 67 (d := h__law_row) rfl
    d__law_some := c1.def_ 68 (d := h__law_some) rfl
    d__law_plans_right := c1.def_ 69 (d := h__law_plans_right) rfl
    d__law_forms_right := c1.def_ 70 (d := h__law_forms_right) rfl
    d__law_sets_right := c1.def_ 71 (d := h__law_sets_right) rfl
    d_law := c1.def_ 72 (d := h_law) rfl
    t_WINDOWS := fun H => He.tupB_ok (e2 0 _ rfl) H
    t_UNION := fun H => He.tupB_ok (e2 1 _ rfl) H
    t_WITHOUT := fun H => He.tupB_ok (e2 2 _ rfl) H
    t_IN_ONE := fun H => He.tupB_ok (e2 3 _ rfl) H
    sf_Form := (e2 4 _ rfl)
    nf_Form := (e2 5 _ rfl)
    sf_Plan := (e2 6 _ rfl)
    nf_Plan := (e2 7 _ rfl)
    sf_Distances := (e2 8 _ rfl)
    nf_Distances := (e2 9 _ rfl)
    is_Form := insB_ok l_Form (e2 10 _ rfl)
    is_Plan := insB_ok l_Plan (e2 11 _ rfl)
    is_Plainest := insB_ok l_Plainest (e2 12 _ rfl)
    is_Distances := insB_ok l_Distances (e2 13 _ rfl)
    i_mul := Option.isSome_iff_exists.mp (of_decide_eq_true (e2 14 _ rfl))
    i_rmul := Option.isSome_iff_exists.mp (of_decide_eq_true (e2 15 _ rfl))
    f_rmul := He.eqO_ok (e2 16 _ rfl)
    i_sub := of_decide_eq_true (e2 17 _ rfl)
    i_pln := of_decide_eq_true (e2 18 _ rfl)
    e_Plan := fun H => tupE_ok (e2 19 _ rfl) H
    e_Dis1 := fun H => tupE_ok (e2 20 _ rfl) H
    e_Dis2 := fun H => tupE_ok (e2 21 _ rfl) H }
end RL
set_option maxHeartbeats 0
namespace RL
open PySem PySem.W PySem.Calls PyProof.Rows
abbrev R : OpenRow := OpenLaw.row PySem.Challenge.rw_roundline_k91_whole_there_and_back
abbrev qv : Program := view R.prog [86]
/-- the addresses that the facts look at -/
def ads : List Addr := [3, 164, 171, 176, 183, 190, 197, 204, 211, 218, 292, 303, 310, 404, 409, 411, 412, 419, 426, 433, 440, 485, 494, 499, 634, 645, 650, 655, 660, 667, 674, 679, 686, 693, 700, 707, 714, 719, 726, 733, 740, 747, 754, 759, 766, 773, 778, 785, 792, 799, 806, 813, 830, 847, 852, 857, 864, 170, 175, 182, 189, 196, 203, 210, 217, 291, 302, 309, 403, 418, 425, 432, 439, 484, 493, 498, 633, 644, 649, 654, 659, 666, 673, 678, 685, 692, 699, 706, 713, 718, 725, 732, 739, 746, 753, 758, 765, 772, 777, 784, 791, 798, 805, 812, 829, 846, 851, 856, 863, 233, 247, 254, 261, 268, 275, 282, 333, 340, 347, 368, 375, 382, 394, 401, 454, 461, 516, 530, 537, 551, 558, 570, 575, 582, 232, 226, 246, 253, 260, 267, 274, 281, 332, 326, 339, 346, 367, 374, 381, 393, 400, 453, 460, 515, 509, 529, 536, 550, 557, 569, 574, 581, 325, 507, 508]
def hk : PySem.W.Hook where
  α := He.AlD × Bool
  obs := fun s => (He.obsD fa fn (He.frG s.heap.get? ads), exB (He.frG s.heap.get? ads))
  val := fun _ => (He.valD fn, true)
  says := fun _ h => ∃ K : PySem.W.Frag, K.In h ∧ He.SaysD fa fn K ∧ exB K = true
  of := fun _ _ e => ⟨_, He.frG_in, congrArg Prod.fst e, congrArg Prod.snd e⟩
  keeps := fun _ _ _ ⟨K, hK, c, d⟩ k => ⟨K, PySem.W.Frag.In.keeps hK k, c, d⟩
def ob (s : PySem.W.SharedT) : He.AlD × Bool := (He.obsD fa fn (He.frG (HandSHeadRun.getT s) ads), exB (He.frG (HandSHeadRun.getT s) ads))
theorem ob_eq (s : PySem.W.SharedT) : ob s = hk.obs s.abs := by
  have e : HandSHeadRun.getT s = s.abs.heap.get? := funext (HandSHeadRun.getT_eq s)
  unfold ob
  rw [e]
  rfl
def names0 : List PySem.Str := ["_wall", "LineError", "NoForm", "NoDistance", "NoModulus", "NoClasses", "NoChanged", "NoLimit", "NotWhole", "NoDeed", "NoText", "LETTERS", "WINDOWS", "LONGEST_THING", "GREATEST_PULL", "GREATEST_STEP"]
def names1 : List PySem.Str := ["is_whole", "is_thing", "is_window", "is_length", "is_plain_deed", "is_deed", "common_divisor", "common_multiple", "Form", "form_of", "parts_of", "sign_of", "MOST_DEEDS", "Plan", "MOST_MODULUS", "UNION"]
def names2 : List PySem.Str := ["COMMON", "WITHOUT", "IN_ONE", "prime_divisors", "is_periodic", "least_period", "sums_of", "Plainest", "checked", "joined", "Distances", "read_number", "read_numbers", "deed_text", "plan_text", "read_plain"]
def names3 : List PySem.Str := ["read_deed", "read_plan", "sum_text", "form_text", "read_head", "read_sum", "read_form", "numbers_text", "set_text", "set_of_text", "read_set", "_law_pot", "_law_dip", "_law_thing", "_law_plain", "_law_deed"]
def names4 : List PySem.Str := ["_law_deeds", "_law_made", "_law_divisor", "_law_lowest", "_law_number", "_law_row", "_law_form_line", "_law_plainest", "_law_some", "_law_words", "_law_set_line", "_law_plans_right", "_law_forms_right", "_law_sets_right"]
def names : List PySem.Str := names0 ++ names1 ++ names2 ++ names3 ++ names4
theorem run (w : World) : HandSHeadRun.RunEq R qv hk ob 20000 names w := by
  intro os
  kernel_rfl
end RL
set_option maxHeartbeats 0
namespace RL
open PySem PySem.W PySem.Calls PyProof.Rows
/-- the head: what is left is the law's call -/
theorem pre (hc : WalkO qv names (XL qv []) hk.says R.toRowW (HandSHeadRun.topDef R.prog 86) [] fun f vs => PySem.call f vs) : PySem.Challenge.rw_roundline_k91_whole_there_and_back.Holds := by
  w_on; o_law
  exact HandSHeadRun.head_any (r := R) (q := qv) (H := hk) (ob := ob) (M := 20000) (loose := names) (d := HandSHeadRun.topDef R.prog 86) (kwd := []) ob_eq
    (by kernel_rfl) (fun s => by kernel_rfl) run (by kernel_rfl) (by kernel_rfl) (by kernel_rfl) (by rfl) (by first | assumption | decide +kernel) (by decide +kernel) ⟨rfl, rfl, rfl, rfl, rfl, by decide +kernel⟩ (by w_witness2) hc
end RL
set_option maxHeartbeats 1000000
/-! roundline: comprehensions, loops -/
namespace RL
open PySem PySem.Spec PyProof.Rows L2
theorem But_new {H : Hp} {D : Addr} {xs ys : List V} (h : H D = some (.lst xs)) : But D H (upd H D (.lst ys)) := fun b o n e => by rw [upd_ne n]; exact e
section
variable {J : It} {n : Nat} {G : Hp → Prop} {Y : Nat → Hp → V → Hp → Prop} {g : TG} {tt : TT} {te : TE} {vs : List Nat} {σ : L2.St} {H1 : Hp} {Q : VK}
def LcT (J : It) (g : TG) (tt : TT) (te : TE) (vs : List Nat) (σ : L2.St) (H1 : Hp) (Q : VK) : Prop := ∀ D, H1 D = none → ∃ W : Nat → Nat → Hp → Prop, (∃ m, W 0 m (upd H1 D (.lst []))) ∧ ∀ i m H, W i m H →
      (J.stop i H ∧ Q (.ref D) H) ∨ (J.go i H ∧ ∃ Nx : Hp → Prop, (∀ H', Nx H' → ∃ m', m' < m ∧ W (i + 1) m' H') ∧ ∀ x H', J.yld i H x H' → g x (wipe σ vs) H' fun σ2 H2 => wipe σ2 vs = wipe σ vs ∧ tt σ2 H2 fun b H3 =>
        if b = true then te σ2 H3 fun y H4 => ∃ acc, H4 D = some (.lst acc) ∧ acc.length < sizeLine ∧ Nx (upd H4 D (.lst (acc ++ [y]))) else Nx H3)
theorem yes_eq {A : L2.St → Prop} {te : TE} {k : VK} {e : Hp → Prop} : (fun (σ2 : L2.St) (H4 : Hp) => A σ2 ∧ tYes σ2 H4 fun b H3 => if b = true then te σ2 H3 k else e H3) = fun σ2 H4 => A σ2 ∧ te σ2 H4 k := by
  funext σ2 H4
  show (A σ2 ∧ (if true = true then te σ2 H4 k else e H4)) = _
  rw [if_pos rfl]
/-- a comprehension that gives references (or any values) of which R speaks; R minds no list -/
theorem lc_ref (w : Walk J n G Y) (R : Nat → V → Hp → Prop) (mono : ∀ i y H H', Same H H' → R i y H → R i y H') (stab : ∀ i y H H' D xs, H D = some (.lst xs) → But D H H' → R i y H → R i y H') (hn : n ≤ sizeLine)
    (hG : ∀ H', Same H1 H' → G H')
    (turn : ∀ i x H2 H3 (k : VK), i < n → Same H1 H2 → Y i H2 x H3 → (∀ y H5, Same H2 H5 → R i y H5 → k y H5) → g x (wipe σ vs) H3 fun σ2 H4 => wipe σ2 vs = wipe σ vs ∧ te σ2 H4 k)
    (done : ∀ p H2 ys, H1 p = none → Same H1 H2 → H2 p = some (.lst ys) → ys.length = n → (∀ (i : Nat) y, ys[i]? = some y → R i y H2) → Q (.ref p) H2) :
    LcT J g tYes te vs σ H1 Q := by
  intro D hD
  refine lc_it w (fun i H => Same H1 H ∧ ∃ ys, H D = some (.lst ys) ∧ ys.length = i ∧ ∀ (j : Nat) y, ys[j]? = some y → R j y H) ⟨same_new hD, [], upd_same, rfl, fun j y e => by simp at e⟩ (fun i H _ p => hG H p.1) ?_ ?_
  · rintro i x H2 H3 hi ⟨s1, ys, hy, hl, hr⟩ hY
    rw [yes_eq]
    refine turn i x H2 H3 _ hi s1 hY fun y H5 s2 r => ?_
    have h5 : H5 D = some (.lst ys) := s2 D _ hy
    have b5 := But_new (ys := ys ++ [y]) h5
    refine ⟨ys, h5, by omega, b5.same (s1.trans s2) hD, ys ++ [y], upd_same, by simp [hl], fun j z e => ?_⟩
    rcases Nat.lt_or_ge j ys.length with hj | hj
    · rw [List.getElem?_append_left hj] at e
      exact stab _ _ _ _ _ _ h5 b5 (mono _ _ _ _ s2 (hr j z e))
    · rw [List.getElem?_append_right hj] at e
      have e0 : j - ys.length = 0 := by
        rcases Nat.eq_zero_or_pos (j - ys.length) with q | q
        · exact q
        · rw [List.getElem?_eq_none (by simp only [List.length_singleton]; omega)] at e
          cases e
      rw [e0] at e
      have ey : y = z := Option.some.inj e
      have ej : j = i := by omega
      subst ey ej
      exact stab _ _ _ _ _ _ h5 b5 r
  · rintro H2 ⟨s1, ys, hy, hl, hr⟩
    exact done D H2 ys hD s1 hy hl hr
/-- a comprehension that gives values, f i at turn i -/
theorem lc_val (w : Walk J n G Y) (f : Nat → V) (hn : n ≤ sizeLine) (hG : ∀ H', Same H1 H' → G H')
    (turn : ∀ i x H2 H3 (k : VK), i < n → Same H1 H2 → Y i H2 x H3 → (∀ H5, Same H2 H5 → k (f i) H5) → g x (wipe σ vs) H3 fun σ2 H4 => wipe σ2 vs = wipe σ vs ∧ te σ2 H4 k)
    (done : NewT H1 (.lst ((List.range n).map f)) Q) :
    LcT J g tYes te vs σ H1 Q := by
  refine lc_ref w (fun i y _ => y = f i) (fun _ _ _ _ _ h => h) (fun _ _ _ _ _ _ _ _ h => h) hn hG (fun i x H2 H3 k hi s1 hY hk => turn i x H2 H3 k hi s1 hY fun H5 s5 => hk (f i) H5 s5 rfl) fun p H2 ys hp s1 h2 hl hr => ?_
  have e : ys = (List.range n).map f := by
    refine List.ext_getElem? fun j => ?_
    rcases Nat.lt_or_ge j n with hj | hj
    · rw [List.getElem?_map, List.getElem?_range hj, List.getElem?_eq_getElem (by omega)]
      have := hr j ys[j] (List.getElem?_eq_getElem (by omega))
      rw [this]
      rfl
    · rw [List.getElem?_eq_none (by omega), List.getElem?_eq_none (by simpa using hj)]
  subst e
  exact done p H2 hp s1 h2
/-- with a test -/
theorem lc_fil (w : Walk J n G Y) (keep : Nat → Bool) (f : Nat → V) (hn : n ≤ sizeLine) (hG : ∀ H', Same H1 H' → G H')
    (turn : ∀ i x H2 H3 (k : VK) (e : Hp → Prop), i < n → Same H1 H2 → Y i H2 x H3 → (keep i = true → ∀ H5, Same H2 H5 → k (f i) H5) → (keep i = false → ∀ H5, Same H2 H5 → e H5) →
      g x (wipe σ vs) H3 fun σ2 H4 => wipe σ2 vs = wipe σ vs ∧ tt σ2 H4 fun b H5 => if b = true then te σ2 H5 k else e H5)
    (done : NewT H1 (.lst (((List.range n).filter keep).map f)) Q) :
    LcT J g tt te vs σ H1 Q := by
  intro D hD
  have len : ∀ i, i ≤ n → (((List.range i).filter keep).map f).length ≤ i := fun i _ => by
    rw [List.length_map]
    have := List.length_filter_le keep (List.range i)
    rwa [List.length_range] at this
  refine lc_it w (fun i H => Same H1 H ∧ H D = some (.lst (((List.range i).filter keep).map f))) ⟨same_new hD, upd_same⟩ (fun i H _ p => hG H p.1) ?_ ?_
  · rintro i x H2 H3 hi ⟨s1, hy⟩ hY
    refine turn i x H2 H3 _ _ hi s1 hY (fun hk H5 s5 => ?_) fun hk H5 s5 => ?_
    · have h5 := s5 D _ hy
      have l5 := len i (Nat.le_of_lt hi)
      refine ⟨_, h5, by omega, (But_new h5).same (s1.trans s5) hD, ?_⟩
      rw [upd_same, List.range_succ, List.filter_append, List.map_append, List.filter_cons, if_pos hk]
      rfl
    · refine ⟨s1.trans s5, ?_⟩
      rw [List.range_succ, List.filter_append, List.map_append, List.filter_cons, if_neg (by rw [hk]; decide)]
      show H5 D = some (.lst (_ ++ []))
      rw [List.append_nil]
      exact s5 D _ hy
  · rintro H2 ⟨s1, hy⟩
    exact done D H2 hD s1 hy
end
section
variable {σ : L2.St} {H : Hp} {Q : VK} {wi : TI} {g : TG} {tt : TT} {te tl : TE} {ta : TA} {vs : List Nat} {R : It → Hp → Prop} {K : PySem.W.Frag} {p : Addr} {xs : List V} {i j : Int}
theorem g_lc (h : wi σ H fun J H1 => LcT J g tt te vs σ H1 Q) : tLc wi g tt te vs σ H Q := h
def vStr (R : It → Hp → Prop) (v : V) (H : Hp) : Prop := ∃ x, v = .str x ∧ R (Its x) H
def jStr (te : TE) : TI := fun σ H R => te σ H (vStr R)
theorem pj_str {X : Cx} {tg e : Expr} {te : TE} (h : PE X e te) : PI X tg e (jStr te) := pi_str h
theorem g_istr (h : te σ H (vStr R)) : jStr te σ H R := h
theorem g_istrv {z : Str} (h : R (Its z) H) : vStr R (.str z) H := ⟨z, rfl, h⟩
def vLst (K : PySem.W.Frag) (R : It → Hp → Prop) (x : V) (H : Hp) : Prop := ∃ a, x = .ref a ∧ (∃ xs, SqL K H a xs) ∧ R (Itl K a) H
def jLst (K : PySem.W.Frag) (te : TE) : TI := fun σ H R => te σ H (vLst K R)
theorem pj_list {X : Cx} {tg e : Expr} {te : TE} (h : PE X e te) : PI X tg e (jLst X.K te) := pi_list h
theorem g_ilst (h : te σ H (vLst K R)) : jLst K te σ H R := h
theorem g_ilstv (h1 : SqL K H p xs) (h : R (Itl K p) H) : vLst K R (.ref p) H := ⟨p, rfl, ⟨xs, h1⟩, h⟩
def vTup (K : PySem.W.Frag) (R : It → Hp → Prop) (x : V) (H : Hp) : Prop := ∃ a, x = .ref a ∧ (∃ xs, SqT K H a xs) ∧ R (Itt K a) H
def jTup (K : PySem.W.Frag) (te : TE) : TI := fun σ H R => te σ H (vTup K R)
theorem pj_tup {X : Cx} {tg e : Expr} {te : TE} (h : PE X e te) : PI X tg e (jTup X.K te) := pi_tup h
theorem g_itup (h : te σ H (vTup K R)) : jTup K te σ H R := h
theorem g_itupv (h1 : SqT K H p xs) (h : R (Itt K p) H) : vTup K R (.ref p) H := ⟨p, rfl, ⟨xs, h1⟩, h⟩
def vR1 (R : It → Hp → Prop) (vs : List V) (H : Hp) : Prop := ∃ j : Int, vs = [.int j] ∧ -(2 ^ 62) ≤ j ∧ j < 2 ^ 62 ∧ R (Itr 0 j.toNat) H
def jR1 (ta : TA) : TI := fun σ H R => ta σ H (vR1 R)
theorem pj_range1 {X : Cx} {tg a : Expr} {ta : TA} {q pos : Pos} (hg : Gl X "range") (hm : X.mg "range" = none) (ha : PA X [a] ta) (hs : starEach [a] X.env = [(false, eval a X.env)] := by rfl) : PI X tg (.Call (.Name "range" q) [a] [] pos) (jR1 ta) := pi_range1 hg hm ha hs
theorem g_irng1 (h : ta σ H (vR1 R)) : jR1 ta σ H R := h
theorem g_irng1v (h1 : -(2 ^ 62) ≤ j) (h2 : j < 2 ^ 62) (h : R (Itr 0 j.toNat) H) : vR1 R [.int j] H := ⟨j, rfl, h1, h2, h⟩
def vR2 (R : It → Hp → Prop) (vs : List V) (H : Hp) : Prop := ∃ i j : Int, vs = [.int i, .int j] ∧ (-(2 ^ 62) ≤ i ∧ i < 2 ^ 62 ∧ -(2 ^ 62) ≤ j ∧ j < 2 ^ 62) ∧ R (Itr i (j - i).toNat) H
def jR2 (ta : TA) : TI := fun σ H R => ta σ H (vR2 R)
theorem pj_range2 {X : Cx} {tg a b : Expr} {ta : TA} {q pos : Pos} (hg : Gl X "range") (hm : X.mg "range" = none) (ha : PA X [a, b] ta) (hs : starEach [a, b] X.env = [(false, eval a X.env), (false, eval b X.env)] := by rfl)
    (hs2 : starEach [b] X.env = [(false, eval b X.env)] := by rfl) : PI X tg (.Call (.Name "range" q) [a, b] [] pos) (jR2 ta) := pi_range2 hg hm ha hs hs2
theorem g_irng2 (h : ta σ H (vR2 R)) : jR2 ta σ H R := h
theorem g_irng2v (h1 : -(2 ^ 62) ≤ i ∧ i < 2 ^ 62 ∧ -(2 ^ 62) ≤ j ∧ j < 2 ^ 62) (h : R (Itr i (j - i).toNat) H) : vR2 R [.int i, .int j] H := ⟨i, j, rfl, h1, h⟩
def vEn (K : PySem.W.Frag) (R : It → Hp → Prop) (vs : List V) (H : Hp) : Prop := ∃ a xs, vs = [.ref a] ∧ SqL K H a xs ∧ R (Ite K a) H
def jEn (K : PySem.W.Frag) (ta : TA) : TI := fun σ H R => ta σ H (vEn K R)
theorem pj_enum {X : Cx} {e : Expr} {ta : TA} {q pos tpos : Pos} {elts : List Expr} {kk : Nat} (hg : Gl X "enumerate") (hm : X.mg "enumerate" = none) (ha : PA X [e] ta) (hs : starEach [e] X.env = [(false, eval e X.env)] := by rfl) :
    PI X (.Tuple elts kk tpos) (.Call (.Name "enumerate" q) [e] [] pos) (jEn X.K ta) := pi_enum hg hm ha hs
theorem g_ienum (h : ta σ H (vEn K R)) : jEn K ta σ H R := h
theorem g_ienumv (h1 : SqL K H p xs) (h : R (Ite K p) H) : vEn K R [.ref p] H := ⟨p, xs, rfl, h1, h⟩
theorem g_all {a : Addr} {bs : List Bool} (h : SqL K H a (bs.map V.bl)) (q : Q (.bl (bs.all id)) H) : rAll K [.ref a] H Q := ⟨a, bs, rfl, h, q⟩
end
section
variable {σ : L2.St} {H : Hp} {n : L2.St → Hp → Prop} {r : VK} {b c : L2.St → Hp → Prop} {wi : TI} {g : TG} {tb : TS}
def ForT (J : It) (g : TG) (tb : TS) (n : L2.St → Hp → Prop) (r : VK) (σ : L2.St) (H1 : Hp) : Prop := ∃ W : Nat → Nat → L2.St → Hp → Prop, (∃ m, W 0 m σ H1) ∧ ∀ i m σ H, W i m σ H →
      (J.stop i H ∧ n σ H) ∨ (J.go i H ∧ ∃ N : L2.St → Hp → Prop, (∀ σ' H', N σ' H' → ∃ m', m' < m ∧ W (i + 1) m' σ' H') ∧ ∀ x H', J.yld i H x H' → g x σ H' fun σ2 H2 => tb ⟨N, r, n, N⟩ σ2 H2)
theorem g_for (h : wi σ H fun J H1 => ForT J g tb n r σ H1) : tFor wi g tb ⟨n, r, b, c⟩ σ H := h
/-- a for: Pv between the turns -/
theorem for_w {J : It} {k : Nat} {G : Hp → Prop} {Y : Nat → Hp → V → Hp → Prop} (w : Walk J k G Y) (Pv : Nat → L2.St → Hp → Prop) (h0 : Pv 0 σ H) (hG : ∀ i σ H, i ≤ k → Pv i σ H → G H)
    (hs : ∀ i x σ H H', i < k → Pv i σ H → Y i H x H' → g x σ H' fun σ2 H2 => tb ⟨Pv (i + 1), r, n, Pv (i + 1)⟩ σ2 H2) (hd : ∀ σ H, Pv k σ H → n σ H) :
    ForT J g tb n r σ H :=
  for_it (D := ⟨n, r, fun _ _ => False, fun _ _ => False⟩) w Pv h0 hG hs hd
theorem g_while {t : TT} (Pv : Nat → L2.St → Hp → Prop) (m0 : Nat) (h0 : Pv m0 σ H)
    (hs : ∀ m σ H, Pv m σ H → t σ H fun d H1 => if d = true then ∃ N : L2.St → Hp → Prop, (∀ σ' H', N σ' H' → ∃ m', m' < m ∧ Pv m' σ' H') ∧ tb ⟨N, r, n, N⟩ σ H1 else n σ H1) : tWhile t tb ⟨n, r, b, c⟩ σ H :=
  ⟨Pv, ⟨m0, h0⟩, hs⟩
end
end RL
set_option maxHeartbeats 4000000
/-! roundline: enumerate over a tuple -/
namespace RL
open PySem PySem.Spec PyProof.Rows L2
theorem enum_tup_new (l : Addr) (items : Array Value) : Meets (Builtin.«enumerate.__new__» ⟨[.type "enumerate", .ref l], []⟩) (fun _ R s => s.heap.IsTuple l items ∧
      R (.ok (.ret (.ref (s.heap.push { cls := .type "tuple_iterator", data := .fields #[.ref l, .int 0 0] }).objs.size)))
        { s with heap := (s.heap.push { cls := .type "tuple_iterator", data := .fields #[.ref l, .int 0 0] }).push { cls := .type "enumerate", data := .fields #[.none, .bool false, .ref s.heap.objs.size, rawInt 0, .none, .none] } }) :=
  .of_wp fun pr w A R s hh => by
    obtain ⟨hp, g, d, tk, os⟩ := s
    obtain ⟨hl, hh⟩ := hh
    have hsub := sub_enumerate
    have hT : Heap.IsTuple (Shared.heap ⟨hp, g, d, tk, os⟩) l items := hl
    obtain ⟨⟨c, dct, dt, sl⟩, hl, hc, n, hd⟩ := hl
    replace hl : hp.get? l = some ⟨c, dct, dt, sl⟩ := hl
    replace hc : c = .type "tuple" := hc
    replace hd : dt = .seq items n := hd
    subst hc hd
    wp_walk using AutoSeq1.wpAny_loadPart' hl
    refine wpAny_stack_any fun st => wpAny_pure ?_
    split
    · rename_i c _ _ _ _ _
      cases (c == Value.type "enumerate")
      all_goals
        wp_walk using AutoSeq1.wpAny_loadPart' hl, wpAny_pyIter_tuple hT
        exact ⟨_, rfl, hh⟩
    · wp_walk using AutoSeq1.wpAny_loadPart' hl, wpAny_pyIter_tuple hT
      exact ⟨_, rfl, hh⟩
theorem call_enum_tup {prog : Program} {w : World} {A : Around} {E : Value → Shared → Prop} {s : Shared} {l : Addr} {items : Array Value} {Q : Value → Shared → Prop} (hL : s.heap.IsTuple l items)
    (k : ∀ h', IsEnum h' (s.heap.objs.size + 1) s.heap.objs.size 0 .none → h'.IsTupleIter s.heap.objs.size l 0 → h'.objs.size = s.heap.objs.size + 2 → (∀ b o, s.heap.get? b = some o → h'.get? b = some o) →
      Q (.ref (s.heap.objs.size + 1)) { s with heap := h' }) : wpAny (model prog w) A (call (.type "enumerate") [.ref l]) Q E s := by
  refine callType_new F.called_enumerate (by decide) (F.typeCall_enumerate_1 _) (F.newCall_enumerate_1 _) (fun ob => F.args_object_init_2 ob _) F.entry_enumerate_new (enum_tup_new l items) ⟨hL, ?_⟩
  have hz : (s.heap.push { cls := .type "tuple_iterator", data := .fields #[.ref l, .int 0 0] }).objs.size = s.heap.objs.size + 1 := Heap.size_push ..
  show _ ∧ _
  rw [hz]
  have he : IsEnum ((s.heap.push { cls := .type "tuple_iterator", data := .fields #[.ref l, .int 0 0] }).push { cls := .type "enumerate", data := .fields #[.none, .bool false, .ref s.heap.objs.size, rawInt 0, .none, .none] }) (s.heap.objs.size + 1) s.heap.objs.size 0 .none := by
    have q := Heap.get?_push_size (s.heap.push { cls := .type "tuple_iterator", data := .fields #[.ref l, .int 0 0] }) (o := { cls := .type "enumerate", data := .fields #[.none, .bool false, .ref s.heap.objs.size, rawInt 0, .none, .none] }) rfl
    rw [hz] at q
    exact q
  refine ⟨⟨_, he, rfl⟩, k _ he ⟨_, Heap.get?_push_of_some _ (Heap.get?_push_size _ rfl), rfl, rfl⟩ (by rw [Heap.size_push, hz]) fun b o z => Heap.get?_push_of_some _ (Heap.get?_push_of_some _ z)⟩
/-- the items of the tuple at a, each in a new pair -/
def IteT (K : PySem.W.Frag) (a : Addr) : It :=
  ⟨fun i H => ∃ (xs : List V) (x : V), SqT K H a xs ∧ xs[i]? = some x,
   fun i H v H' => ∃ T x, v = .ref T ∧ H T = none ∧ H' = upd H T (.tup [.int (i : Nat), x]) ∧ ∀ xs, SqT K H a xs → xs[i]? = some x,
   fun i H => ∃ xs : List V, SqT K H a xs ∧ xs.length ≤ i⟩
theorem turn_enumT {P : Program} {w : World} {K : PySem.W.Frag} {elts : List Expr} {kk : Nat} {tpos : Pos} (a e it : Addr) :
    Turn P w K (.Tuple elts kk tpos) (IteT K a) [e, it] e (fun i h => (∃ old, IsEnum h e it ((i : Nat) : Int) old) ∧ h.IsTupleIter it a i ∧ e ≠ it) where
  mem := by simp
  obj := fun i h st b hb => by
    obtain ⟨⟨old, he⟩, ⟨o, ho, hc, hd⟩, _⟩ := st
    rcases (show b = e ∨ b = it by simpa using hb) with z | z
    · rw [z]
      exact ⟨_, he, fun v q => nomatch q⟩
    · rw [z]
      exact ⟨o, ho, fun v q => by rw [hd] at q; cases q⟩
  keep := fun i h h' st k => let ⟨⟨old, he⟩, hi, hne⟩ := st; ⟨⟨old, k e (by simp) _ he⟩, hi.at fun o q => k it (by simp) o q, hne⟩
  item := by
    intro X hP hw hK hc i pins s σ H E I hf st hg
    subst hP hw hK
    obtain ⟨⟨old, he⟩, hit, hne⟩ := st
    obtain ⟨xs, x, hq, hx⟩ := hg
    obtain ⟨its, rv, p, hz⟩ := I.tuple hq
    obtain ⟨u, hu, ru⟩ := rv.get hx
    have hel : e < s.heap.objs.size := Heap.lt_size he
    have hil : it < s.heap.objs.size := by obtain ⟨_, q, _⟩ := hit; exact Heap.lt_size q
    have hai : a ≠ it := fun z => by
      obtain ⟨o, ho, hc1, _⟩ := id hit
      obtain ⟨o2, ho2, hc2, _⟩ := id p
      rw [z, ho] at ho2
      have z2 : o = o2 := Option.some.inj ho2
      rw [← z2, hc1] at hc2
      simp at hc2
    have hae : a ≠ e := fun z => by
      obtain ⟨o2, ho2, hc2, _⟩ := id p
      rw [z] at ho2
      have z2 := Option.some.inj (he.symm.trans ho2)
      rw [← z2] at hc2
      simp at hc2
    have hlen : i < its.toArray.size := by
      have := (List.getElem?_eq_some_iff.mp hu).1
      simpa using this
    refine wpAny_pyNext_enum_itemD (Draws.tuple (A := X.A.in1) (I.ok.hd hc) it a hai its.toArray) he ⟨hit, p⟩ hlen hne (by simp [hne, Ne.symm hae]) fun v h' tk hv ho hs' hT hsz hk => ?_
    have ev : v = u := by
      have h1 : its.toArray[i]? = some v := hv
      have h2 : its.toArray[i]? = some u := by simpa using hu
      exact Option.some.inj (h1.symm.trans h2)
    subst ev
    refine ⟨_, rfl, wpAny_letOwnedTupleGo_enum (s := { s with heap := h', toks := tk + 1 }) ho fun h'' he' sb => ?_⟩
    have hT2 : h''.get? s.heap.objs.size = some { cls := .type "tuple", data := .seq #[.int i tk, v] } := (sb.2 _ (Nat.ne_of_gt hel)).trans hT
    have new : ObjOk X.prog X.w (upd H s.heap.objs.size (.tup [.int (i : Nat), x])) h'' s.heap.objs.size (.tup [.int (i : Nat), x]) :=
      ⟨by show 2 ≤ sizeLine; decide, [.int i tk, v], .cons ⟨_, rfl⟩ (.cons ru .nil), ⟨_, hT2, rfl, _, rfl⟩⟩
    have I1 : Inv X pins σ (upd H s.heap.objs.size (.tup [.int (i : Nat), x])) { s with heap := h'', toks := tk + 1 } :=
      I.turnedNew (ch := [e, it]) (fun b ob hb q => (sb.2 b (fun z => hb (by simp [z]))).trans (hk b ob (fun z => hb (by simp [z])) (fun z => hb (by simp [z])) q)) hf (Nat.le_refl _) new
    refine ⟨.ref s.heap.objs.size, _, I1, rfl, ⟨_, x, rfl, I.hok.fresh (Nat.le_refl _), rfl, fun ys hy => by rw [I.tuple_inj hy hq]; exact hx⟩, ⟨⟨v, ?_⟩, hs'.1.at fun o q => (sb.2 it (Ne.symm hne)).trans q, hne⟩, fun b hb => ?_⟩
    · have e1 : ((i + 1 : Nat) : Int) = (i : Int) + 1 := by omega
      rw [e1]
      exact he'
    · have hb' : b < s.heap.objs.size := by
        rcases (show b = e ∨ b = it by simpa using hb) with z | z
        · rw [z]; exact hel
        · rw [z]; exact hil
      rw [upd_ne (Nat.ne_of_lt hb')]
      exact (hf b hb).1
  done := by
    intro X hP hw hK hc i pins s σ H E I hf st hg
    subst hP hw hK
    obtain ⟨⟨old, he⟩, hit, hne⟩ := st
    obtain ⟨xs, hq, hx⟩ := hg
    obtain ⟨its, rv, p, hz⟩ := I.tuple hq
    obtain ⟨f0, f1, f2, f3, f4, f5⟩ := hf it (by simp)
    have hl := rv.length
    have hT : s.TypeIs (.ref e) "enumerate" := ⟨_, he, rfl⟩
    unfold pyNext
    refine wpAny_bind (wpAny_attempt (wpAny_callSpecial?_slot (name := Str.ofString "__next__") hT F.slot_enumerate_next (wpAny_call_entry F.slot_enumerate_next hT F.entry_enumerate_next ?_ (F.args_enumerate_next_1 _))))
    show wpAny _ _ (field (.ref e) 2 >>= _) _ _ _
    refine wpAny_bind (wpAny_field he rfl (x := .ref it) rfl ?_)
    refine wpAny_bind (wpAny_nextOf_tuple_end (I.ok.hd hc) hit p (by simp; omega) fun h' x he' hx' => ?_)
    obtain ⟨o, ho, hc'⟩ := hx'
    refine wpAny_bind (wpAny_isInstance (T := "StopIteration") (b := true) ⟨o, ho, hc'⟩ isSubtype_stop ?_)
    exact wpAny_pure ⟨rfl, I.turned (t' := s.toks) (fun b o hb q => he' b o hb q) f0 f1 f3 f4 f5⟩
  self := fun A i s Q E st h => let ⟨⟨_, he⟩, _⟩ := st; wpAny_pyIter_enum he h
def vEnT (K : PySem.W.Frag) (R : It → Hp → Prop) (vs : List V) (H : Hp) : Prop := ∃ a xs, vs = [.ref a] ∧ SqT K H a xs ∧ R (IteT K a) H
def jEnT (K : PySem.W.Frag) (ta : TA) : TI := fun σ H R => ta σ H (vEnT K R)
theorem pj_enumT {X : Cx} {e : Expr} {ta : TA} {p pos tpos : Pos} {elts : List Expr} {kk : Nat} (hg : Gl X "enumerate") (hm : X.mg "enumerate" = none) (ha : PA X [e] ta) (hs : starEach [e] X.env = [(false, eval e X.env)] := by rfl) :
    PI X (.Tuple elts kk tpos) (.Call (.Name "enumerate" p) [e] [] pos) (jEnT X.K ta) := by
  refine ⟨fun pins s σ H R I h => ?_⟩
  refine Call_ (ld_blt I hg hm boot_enumerate (PyProof.Rows.callWith_type1 (thn (ha.run pos pins s σ H _ I h) fun us s1 ⟨vs, H1, I1, r1, q1⟩ => ?_) hs rfl))
  obtain ⟨a, xs, ex, hq, q⟩ := q1
  subst ex
  cases r1 with
  | cons r rr =>
    cases rr
    cases r
    obtain ⟨its, rv, p', hz⟩ := I1.tuple hq
    refine call_enum_tup p' fun h' he hit hsz hk => wpAny_pyIter_enum he ?_
    have I2 : Inv X pins σ H1 { s1 with heap := h' } := I1.kept (t' := s1.toks) hk
    refine ⟨s1.heap.objs.size + 1, [s1.heap.objs.size + 1, s1.heap.objs.size], _, _, H1, rfl, I2, turn_enumT a (s1.heap.objs.size + 1) s1.heap.objs.size, ⟨⟨.none, he⟩, hit, Nat.succ_ne_self _⟩, fun b hb => ?_, q⟩
    have hle : s1.heap.objs.size ≤ b := by
      rcases (show b = s1.heap.objs.size + 1 ∨ b = s1.heap.objs.size by simpa using hb) with z | z
      · rw [z]; exact Nat.le_add_right _ _
      · rw [z]; exact Nat.le_refl _
    exact I1.fpOk hle (I1.hok.fresh hle)
/-- a new pair of the turn's number and the item -/
def YEn (xs : List V) : Nat → Hp → V → Hp → Prop := fun i H v H' => ∃ T x, v = .ref T ∧ H T = none ∧ Same H H' ∧ H' T = some (.tup [.int (i : Nat), x]) ∧ xs[i]? = some x
theorem walk_enT {K : PySem.W.Frag} {a : Addr} {xs : List V} : Walk (IteT K a) xs.length (fun H => SqT K H a xs) (YEn xs) := by
  refine ⟨fun i _ hi q => ⟨xs, xs[i], q, by simp [hi]⟩, fun _ q => ⟨xs, q, Nat.le_refl _⟩, fun i H v H' _ q y => ?_⟩
  obtain ⟨T, x, h1, h2, h3, h4⟩ := y
  subst h3
  exact ⟨T, x, h1, h2, same_new h2, upd_same, h4 xs q⟩
theorem walk_en {K : PySem.W.Frag} {a : Addr} {xs : List V} : Walk (Ite K a) xs.length (fun H => SqL K H a xs) (YEn xs) := by
  refine walk_enum.mono (fun _ h => h) fun i H v H' _ _ ⟨T, x, y, h1, h2, h3, h4, h5⟩ => ?_
  subst h3
  cases (Option.some.inj h4)
  exact ⟨T, y, h1, h2, same_new h2, upd_same, h5⟩
section
variable {σ : L2.St} {H : Hp} {ta : TA} {R : It → Hp → Prop} {K : PySem.W.Frag} {p : Addr} {xs : List V}
theorem g_ienT (h : ta σ H (vEnT K R)) : jEnT K ta σ H R := h
theorem g_ienTv (h1 : SqT K H p xs) (h : R (IteT K p) H) : vEnT K R [.ref p] H := ⟨p, xs, rfl, h1, h⟩
end
end RL
set_option maxHeartbeats 2000000
/-! roundline: objects: made, their methods and operators -/
namespace RL
open PySem PySem.Spec PyProof.Rows L2
section
variable {X : Cx} {e o : Expr} {es : List Expr} {pos pos' p : Pos} {te ta tv : TE} {t : TA} {f x : Str}
def nFld (K : PySem.W.Frag) (ta tv : TE) (f : Str) : TS := fun D σ H => tv σ H fun y H1 => ta σ H1 fun x H2 => ∃ a C dx fs, x = .ref a ∧ H2 a = some (.ins C dx fs) ∧ Cls K C ∧ NoAttr K C f ∧ fs.length < 1000 ∧ ChgT H2 a (.ins C dx (putF f y fs)) (D.nx σ)
theorem ps_nfld (ha : PE X o ta) (hv : PE X e tv) (hs : swapsWith e (some (.Attribute o f pos')) pos.line X.env = pure false) : PS X (.Assign [.Attribute o f pos'] e pos) (nFld X.K ta tv f) :=
  PSi (ps_fld (pe_m ha) (pe_m hv) hs) fun D σ H h => ⟨_, h, fun y H1 h1 => ⟨_, h1, fun x H2 ⟨a, C, dx, fs, e1, e2, e3, e4, e5, k⟩ => ⟨a, C, dx, fs, e1, e2, e3, e4, e5, k.old⟩⟩⟩
/-- a class made by its name, as a call -/
structure MkM (P : Program) (w : World) (K : PySem.W.Frag) (mg : Str → Option Value) (base : Heap) (k : Nat) (x : Str) (spM : Sp) : Prop where
  ex : ∃ (C : Addr) (spI : Sp) (dvs : List V), C8.Mak P w K mg base k x C spI dvs ∧ ∀ vs H Q, spM vs H Q C8.E0 → ∀ a dx, H a = none → H dx = none → dx ≠ a →
    spI (.ref a :: (vs ++ dvs)) (upd (upd H dx (.own a)) a (.ins C dx [])) (fun v H2 => v = .non ∧ Q (.ref a) H2) C8.E0
theorem pe_cm {k j : Nat} {spM : Sp} (c : MkM X.prog X.w X.K X.mg X.base k x spM) (hr : Room j X.A) (hk : k + 1 ≤ j) (hg : Gl X x) (ha : PA X (e :: es) t)
    (hdb : (x == ("__debug__" : Str)) = false := by decide) (he : starEach (e :: es) X.env = (false, eval e X.env) :: starEach es X.env := by rfl) (hpl : (backTo pos (starEach es X.env)).any (·.1) = false := by rfl) :
    PE X (.Call (.Name x p) (e :: es) [] pos) (tCall spM [] C8.E0 t) := by
  obtain ⟨C, spI, dvs, m, conv⟩ := c.ex
  refine PEi (C8.pe_mk m hr hk hg (pa_m ha) hdb he hpl) fun σ H Q h => ⟨_, h, fun vs H1 q a dx na ndx ne => ?_⟩
  exact conv vs H1 Q (by rw [← List.append_nil vs]; exact q) a dx na ndx ne
theorem pe_cm0 {k j : Nat} {spM : Sp} (c : MkM X.prog X.w X.K X.mg X.base k x spM) (hr : Room j X.A) (hk : k + 1 ≤ j) (hg : Gl X x) (hdb : (x == ("__debug__" : Str)) = false := by decide) : PE X (.Call (.Name x p) [] [] pos) (tCall spM [] C8.E0 tNil) := by
  obtain ⟨C, spI, dvs, m, conv⟩ := c.ex
  obtain ⟨f, fd, ps, ds, M, F, hm, b, d⟩ := m.ex
  refine PEi (pe_make0 (E := C8.E0) M F (hr.mono hk) hg hm b d C8.pass0 hdb) fun σ H Q h a dx na ndx ne => ?_
  exact conv [] H Q h a dx na ndx ne
end
section
variable {P : Program} {w : World} {K : PySem.W.Frag} {mg : Str → Option Value} {base : Heap}
/-- a method, by its body -/
theorem metD {m qual : Str} {st : Stmt} {f C : Addr} {N ps : List Str} {k : Nat} {sp : Sp} (D : ∃ fd, FunD K m qual (defArgs st) (defBody st) (defScope st) [] [] f fd) (cl : Cls K C) (me : Meth K C m f)
    (hb : ∀ (kV doc pm : Value) (an : Option Addr) (cdv ct : Value) (us : List Value), us.length = ps.length → bindArgs (PySem.W.fnOf m qual (defArgs st) (defBody st) (defScope st) .none kV doc pm an cdv ct) ⟨us, []⟩ = pure (ps.zip us))
    (S : FnScope N ps (defScope st)) (len : ∀ vs H Q E, sp vs H Q E → vs.length = ps.length)
    (hbody : ∀ (fd : FuncData) (cdv : Value) (A : Around) (outer : List Env) (s : Shared) (H : Hp) (vs : List V) (Q : VK) (E : XK), Room k (A.deeper (envOfC qual (defScope st) s.heap.objs.size f cdv)) → sp vs H Q E →
      ∃ t, PSs (cxOf C8.CX0 P w K mg base N qual (defScope st) f cdv A outer s H E).nox (defBody st) t ∧ t ⟨fun _ H' => Q .non H', Q, fun _ _ => False, fun _ _ => False⟩ (start N vs) H) : C8.Met P w K mg base (k + 1) C m sp [] := by
  obtain ⟨fd, F⟩ := D
  exact ⟨f, fd, ps, [], cl, me, F.ok S len fun cdv A outer s H vs Q E hr h => (by
    obtain ⟨t, h1, h2⟩ := hbody fd cdv A outer s H vs Q E hr h
    exact ⟨t, h1.nox, h2⟩), F.bindsN hb, .nil⟩
/-- a class's __init__, by its body; n values are written, the defaults behind the first j fill up -/
theorem makD {x qual : Str} {st : Stmt} {f C : Addr} {N ps : List Str} {k : Nat} {sp : Sp} {dvs : List V} (D : ∃ fd, FunD K "__init__" qual (defArgs st) (defBody st) (defScope st) dvs [] f fd) (M : Mk K C f) (hm : mg x = some (.ref C)) (n j : Nat) (hd : dvs ≠ []) (hn : n + (dvs.length - j) = ps.length)
    (hb : ∀ (T : Addr) (kV doc pm : Value) (an : Option Addr) (cdv ct : Value) (us its : List Value), us.length = n → its.length = dvs.length →
      ∃ k, bindArgs (PySem.W.fnOf "__init__" qual (defArgs st) (defBody st) (defScope st) (.ref T) kV doc pm an cdv ct) ⟨us, []⟩ = seqItems? (.ref T) >>= k ∧ k (some its.toArray) = pure (ps.zip (us ++ its.drop j)))
    (S : FnScope N ps (defScope st)) (len : ∀ vs H Q E, sp vs H Q E → vs.length = ps.length)
    (hbody : ∀ (fd : FuncData) (cdv : Value) (A : Around) (outer : List Env) (s : Shared) (H : Hp) (vs : List V) (Q : VK) (E : XK), Room k (A.deeper (envOfC qual (defScope st) s.heap.objs.size f cdv)) → sp vs H Q E →
      ∃ t, PSs (cxOf C8.CX0 P w K mg base N qual (defScope st) f cdv A outer s H E).nox (defBody st) t ∧ t ⟨fun _ H' => Q .non H', Q, fun _ _ => False, fun _ _ => False⟩ (start N vs) H) : C8.Mak P w K mg base (k + 1) x C sp (dvs.drop j) := by
  obtain ⟨fd, F⟩ := D
  obtain ⟨ds, v, b⟩ := F.binds1 n j hd hn hb
  exact ⟨f, fd, ps, ds, M, F.ok S len fun cdv A outer s H vs Q E hr h => (by
    obtain ⟨t, h1, h2⟩ := hbody fd cdv A outer s H vs Q E hr h
    exact ⟨t, h1.nox, h2⟩), hm, b, v⟩
/-- .. without defaults -/
theorem makN {x qual : Str} {st : Stmt} {f C : Addr} {N ps : List Str} {k : Nat} {sp : Sp} (D : ∃ fd, FunD K "__init__" qual (defArgs st) (defBody st) (defScope st) [] [] f fd) (M : Mk K C f) (hm : mg x = some (.ref C))
    (hb : ∀ (kV doc pm : Value) (an : Option Addr) (cdv ct : Value) (us : List Value), us.length = ps.length → bindArgs (PySem.W.fnOf "__init__" qual (defArgs st) (defBody st) (defScope st) .none kV doc pm an cdv ct) ⟨us, []⟩ = pure (ps.zip us))
    (S : FnScope N ps (defScope st)) (len : ∀ vs H Q E, sp vs H Q E → vs.length = ps.length)
    (hbody : ∀ (fd : FuncData) (cdv : Value) (A : Around) (outer : List Env) (s : Shared) (H : Hp) (vs : List V) (Q : VK) (E : XK), Room k (A.deeper (envOfC qual (defScope st) s.heap.objs.size f cdv)) → sp vs H Q E →
      ∃ t, PSs (cxOf C8.CX0 P w K mg base N qual (defScope st) f cdv A outer s H E).nox (defBody st) t ∧ t ⟨fun _ H' => Q .non H', Q, fun _ _ => False, fun _ _ => False⟩ (start N vs) H) : C8.Mak P w K mg base (k + 1) x C sp [] := by
  obtain ⟨fd, F⟩ := D
  exact ⟨f, fd, ps, [], M, F.ok S len fun cdv A outer s H vs Q E hr h => (by
    obtain ⟨t, h1, h2⟩ := hbody fd cdv A outer s H vs Q E hr h
    exact ⟨t, h1.nox, h2⟩), hm, F.bindsN hb, .nil⟩
end
section
variable {X : Cx} {k j : Nat} {C : Addr} {sp : Sp}
/-- x op y, both instances of the class at C -/
def rOwn2 (C : Addr) (sp : Sp) : R2 := fun x y H Q => ∃ a dx fs b dy gs, x = .ref a ∧ y = .ref b ∧ H a = some (.ins C dx fs) ∧ H b = some (.ins C dy gs) ∧ sp [x, y] H Q C8.E0
theorem inst_of {pins : List (Addr × Obj)} {σ : L2.St} {H : Hp} {s : Shared} {a dx : Addr} {fs : List (Str × V)} (I : Inv X pins σ H s) (h : H a = some (.ins C dx fs)) : ∃ ox od, PySem.W.InstAt s.heap a ox C od := by
  obtain ⟨mA, O, _⟩ := ins_get I.hok h
  obtain ⟨od, J, _⟩ := O.look
  exact ⟨_, _, J⟩
theorem op_own2 {op : Operator} (m : C8.Met X.prog X.w X.K X.mg X.base k C (PySem.dunder op.info.2) sp []) (sf : PySem.W.selfFirst X.K C = true) (hr : Room j X.A) (hk : k ≤ j) : OpR X (binaryOp op) (rOwn2 C sp) := by
  intro pins s σ H x y v u Q I rx ry h
  obtain ⟨a, dx, fs, b, dy, gs, rfl, rfl, ha, hb, q⟩ := h
  cases (show v = Value.ref a from rx)
  cases (show u = Value.ref b from ry)
  obtain ⟨ox, od, J⟩ := inst_of I ha
  obtain ⟨oy, oe, J'⟩ := inst_of I hb
  obtain ⟨f, fd, ps, ds, cl, me, F, bn, dv⟩ := m.ex
  obtain ⟨mm, hF⟩ := I.fr
  refine PySem.W.binop_K hF I.ok.mod.kin J J'.type sf me.at_ me.fn ?_
  refine wpAny_mono (run_fn (us := [.ref a, .ref b]) (vs := [.ref a, .ref b]) F (hr.mono hk) bn dv C8.pass0 I (.cons rfl (.cons rfl .nil)) (by rw [List.append_nil]; exact q)) (fun r s' z => ?_) fun _ _ x => x
  obtain ⟨z', H', I', rz, qz⟩ := z
  exact SlX.cmpback rz ⟨z', H', I', rz, qz⟩
theorem op_eq2 (m : C8.Met X.prog X.w X.K X.mg X.base k C "__eq__" sp []) (nf : PySem.W.notFirst X.K C (.ref C) = true) (hr : Room j X.A) (hk : k ≤ j) : OpR X (compareOp .Eq) (rOwn2 C sp) := by
  intro pins s σ H x y v u Q I rx ry h
  obtain ⟨a, dx, fs, b, dy, gs, rfl, rfl, ha, hb, q⟩ := h
  cases (show v = Value.ref a from rx)
  cases (show u = Value.ref b from ry)
  obtain ⟨ox, od, J⟩ := inst_of I ha
  obtain ⟨oy, oe, J'⟩ := inst_of I hb
  obtain ⟨f, fd, ps, ds, cl, me, F, bn, dv⟩ := m.ex
  obtain ⟨mm, hF⟩ := I.fr
  show wpAny _ _ (richCompare .Eq _ _) _ _ _
  refine PySem.W.cmp_K (op := .Eq) (tb := .ref C) hr.units0 hF I.ok.mod.kin J J'.type nf me.at_ me.fn ?_
  refine wpAny_mono (run_fn (us := [.ref a, .ref b]) (vs := [.ref a, .ref b]) F (hr.mono hk) bn dv C8.pass0 I (.cons rfl (.cons rfl .nil)) (by rw [List.append_nil]; exact q)) (fun r s' z => ?_) fun _ _ x => x
  obtain ⟨z', H', I', rz, qz⟩ := z
  exact SlX.cmpback rz ⟨z', H', I', rz, qz⟩
def rOwn1 (C : Addr) (sp : Sp) : V → Hp → VK → Prop := fun x H Q => ∃ a dx fs, x = .ref a ∧ H a = some (.ins C dx fs) ∧ sp [x] H Q C8.E0
theorem un_own1 (m : C8.Met X.prog X.w X.K X.mg X.base k C "__neg__" sp []) (hr : Room j X.A) (hk : k ≤ j) : UnR X (unaryOp .USub) (rOwn1 C sp) := by
  intro pins s σ H x v Q I rx h
  obtain ⟨a, dx, fs, rfl, ha, q⟩ := h
  cases (show v = Value.ref a from rx)
  obtain ⟨ox, od, J⟩ := inst_of I ha
  obtain ⟨f, fd, ps, ds, cl, me, F, bn, dv⟩ := m.ex
  obtain ⟨mm, hF⟩ := I.fr
  refine PySem.W.ksp_neg hF I.ok.mod.kin J me.at_ me.fn ?_
  exact run_fn (us := [.ref a]) (vs := [.ref a]) F (hr.mono hk) bn dv C8.pass0 I (.cons rfl .nil) (by rw [List.append_nil]; exact q)
/-- an instance times an int -/
def rOwnI (C : Addr) (sp : Sp) : R2 := fun x y H Q => ∃ a dx fs i, x = .ref a ∧ y = .int i ∧ H a = some (.ins C dx fs) ∧ sp [x, y] H Q C8.E0
theorem op_ownI (m : C8.Met X.prog X.w X.K X.mg X.base k C "__mul__" sp []) (sf : PySem.W.selfFirst X.K C = true) (h1 : ∃ fo, PySem.W.findIn X.K (.type "int") "__mul__" = some fo) (h2 : ∃ fo, PySem.W.findIn X.K (.type "int") "__rmul__" = some fo)
    (h3 : PySem.W.findIn X.K (.ref C) "__rmul__" = some none) (h4 : PySem.W.subIn X.K (.type "int") (.ref C) = some false) (hr : Room j X.A) (hk : k ≤ j) : OpR X (binaryOp .Mult) (rOwnI C sp) := by
  intro pins s σ H x y v u Q I rx ry h
  obtain ⟨a, dx, fs, i, rfl, rfl, ha, q⟩ := h
  cases (show v = Value.ref a from rx)
  obtain ⟨t, rfl⟩ := (show ∃ t, u = Value.int i t from ry)
  obtain ⟨ox, od, J⟩ := inst_of I ha
  obtain ⟨f, fd, ps, ds, cl, me, F, bn, dv⟩ := m.ex
  obtain ⟨mm, hF⟩ := I.fr
  obtain ⟨f1, h1⟩ := h1
  obtain ⟨f2, h2⟩ := h2
  refine PySem.W.ksp_binT (op := .Mult) (T := "int") hF I.ok.mod.kin J rfl sf me.at_ me.fn h3 (.inl rfl) h1 h2 h4 ?_
  refine wpAny_mono (run_fn (us := [.ref a, .int i t]) (vs := [.ref a, .int i]) F (hr.mono hk) bn dv C8.pass0 I (.cons rfl (.cons ⟨t, rfl⟩ .nil)) (by rw [List.append_nil]; exact q)) (fun r s' z => ?_) fun _ _ x => x
  obtain ⟨z', H', I', rz, qz⟩ := z
  exact SlX.cmpback rz ⟨z', H', I', rz, qz⟩
end
section
variable {σ : L2.St} {H : Hp} {Q : VK} {n : L2.St → Hp → Prop} {r : VK} {b c : L2.St → Hp → Prop} {ta tv : TE} {K : PySem.W.Frag} {f : Str} {y : V} {p q C dx dy : Addr} {fs gs : List (Str × V)} {sp : Sp} {i : Int}
theorem g_nfld (h : tv σ H fun y H1 => ta σ H1 fun x H2 => ∃ a C dx fs, x = .ref a ∧ H2 a = some (.ins C dx fs) ∧ Cls K C ∧ NoAttr K C f ∧ fs.length < 1000 ∧ ChgT H2 a (.ins C dx (putF f y fs)) (n σ)) : nFld K ta tv f ⟨n, r, b, c⟩ σ H := h
theorem g_fldw {A : Hp → Prop} (h : H p = some (.ins C dx fs)) (cl : Cls K C) (na : NoAttr K C f) (l : fs.length < 1000) (k : ChgT H p (.ins C dx (putF f y fs)) A) :
    ∃ a C dx fs, V.ref p = .ref a ∧ H a = some (.ins C dx fs) ∧ Cls K C ∧ NoAttr K C f ∧ fs.length < 1000 ∧ ChgT H a (.ins C dx (putF f y fs)) A := ⟨p, C, dx, fs, rfl, h, cl, na, l, k⟩
theorem g_own2 (h1 : H p = some (.ins C dx fs)) (h2 : H q = some (.ins C dy gs)) (k : sp [.ref p, .ref q] H Q C8.E0) : rOwn2 C sp (.ref p) (.ref q) H Q := ⟨p, dx, fs, q, dy, gs, rfl, rfl, h1, h2, k⟩
theorem g_own1 (h1 : H p = some (.ins C dx fs)) (k : sp [.ref p] H Q C8.E0) : rOwn1 C sp (.ref p) H Q := ⟨p, dx, fs, rfl, h1, k⟩
theorem g_ownI (h1 : H p = some (.ins C dx fs)) (k : sp [.ref p, .int i] H Q C8.E0) : rOwnI C sp (.ref p) (.int i) H Q := ⟨p, dx, fs, i, rfl, rfl, h1, k⟩
end
end RL
set_option maxHeartbeats 1000000
/-! roundline: slices, stars, pairs -/
namespace RL
open PySem PySem.Spec PyProof.Rows L2
section
variable {σ : L2.St} {H : Hp} {Q : VK} {te : TE} {tl tr : TO} {ta : TA} {K : PySem.W.Frag} {p q : Addr} {xs ys : List V} {i : Int} {lo hi : Option Int} {r : V → Option Int → Option Int → Hp → VK → Prop} {O : Option Int → Hp → Prop} {A : List V → Hp → Prop}
theorem g_sl (h : te σ H fun x H1 => tl σ H1 fun l H2 => tr σ H2 fun u H3 => r x l u H3 Q) : tSl r te tl tr σ H Q := h
theorem g_np (h : O none H) : tNoPart σ H O := h
theorem g_pt (h : te σ H fun x H1 => ∃ i, x = .int i ∧ O (some i) H1) : tPart te σ H O := h
theorem g_ptv {B : Int → Prop} (h : B i) : ∃ k, V.int i = .int k ∧ B k := ⟨i, rfl, h⟩
theorem g_slT (h : SqT K H p xs) (k : ∀ q H2, Same H H2 → SqT K H2 q (cutV xs lo hi) → Q (.ref q) H2) : rSlcT K (.ref p) lo hi H Q := ⟨p, xs, rfl, h, k⟩
theorem g_slL (h : SqL K H p xs) (k : NewT H (.lst (cutV xs lo hi)) Q) : rSlcL K (.ref p) lo hi H Q := ⟨p, xs, rfl, h, k⟩
theorem g_catT (h1 : SqT K H p xs) (h2 : SqT K H q ys) (l : xs.length + ys.length ≤ sizeLine) (k : ∀ q H2, Same H H2 → SqT K H2 q (xs ++ ys) → Q (.ref q) H2) : rJoinT K (.ref p) (.ref q) H Q := ⟨p, q, xs, ys, rfl, rfl, h1, h2, l, k⟩
theorem g_catL (h1 : H p = some (.lst xs)) (h2 : H q = some (.lst ys)) (l : xs.length + ys.length ≤ sizeLine) (k : NewT H (.lst (xs ++ ys)) Q) : rJoinL (.ref p) (.ref q) H Q := ⟨p, q, xs, ys, rfl, rfl, h1, h2, l, k⟩
theorem g_tupL (h : SqL K H p xs) (k : ∀ q H2, Same H H2 → SqT K H2 q xs → Q (.ref q) H2) : rTupOf K [.ref p] H Q := ⟨p, xs, rfl, .inl h, k⟩
theorem g_tupT (h : SqT K H p xs) (k : ∀ q H2, Same H H2 → SqT K H2 q xs → Q (.ref q) H2) : rTupOf K [.ref p] H Q := ⟨p, xs, rfl, .inr h, k⟩
theorem g_star (h : te σ H fun x H1 => ∃ p xs, x = V.ref p ∧ (SqT K H1 p xs ∨ SqL K H1 p xs) ∧ ta σ H1 fun ys H2 => A (xs ++ ys) H2) : StX.tStar K te ta σ H A := h
theorem g_starT {B : List V → Prop} (h : SqT K H p xs) (k : B xs) : ∃ q ys, V.ref p = V.ref q ∧ (SqT K H q ys ∨ SqL K H q ys) ∧ B ys := ⟨p, xs, rfl, .inl h, k⟩
theorem g_starL {B : List V → Prop} (h : SqL K H p xs) (k : B xs) : ∃ q ys, V.ref p = V.ref q ∧ (SqT K H q ys ∨ SqL K H q ys) ∧ B ys := ⟨p, xs, rfl, .inr h, k⟩
/-- .. (through «tBM») a list's method -/
theorem g_bmL {rr : V → List V → Hp → VK → Prop} (h : te σ H fun x H1 => tyV K "list" x H1 ∧ ta σ H1 fun xs H2 => rr x xs H2 Q) : tBM K "list" rr te ta σ H Q := h
theorem g_tyL {B : Prop} (h : SqL K H p xs) (k : B) : tyV K "list" (.ref p) H ∧ B := ⟨.inl ⟨rfl, _, h⟩, k⟩
theorem g_app {v : V} (h : H p = some (.lst xs)) (l : xs.length < sizeLine) (k : ChgT H p (.lst (xs ++ [v])) (Q .non)) : rAppN (.ref p) [v] H Q := ⟨p, xs, v, rfl, rfl, h, l, k⟩
end
theorem cut_from (xs : List V) (k : Nat) : cutV xs (some (k : Int)) none = xs.drop k := by
  unfold cutV
  rw [HT.sIx_nat, HT.sIx_none]
  rcases Nat.le_total k xs.length with h | h
  · rw [Nat.min_eq_left h]
    exact List.take_of_length_le (by rw [List.length_drop]; exact Nat.le_refl _)
  · rw [Nat.min_eq_right h, List.drop_eq_nil_of_le h, List.drop_eq_nil_of_le (Nat.le_refl _)]
    simp
theorem cut_to (xs : List V) (k : Nat) : cutV xs none (some (k : Int)) = xs.take k := by
  unfold cutV
  rw [HT.sIx_nat, HT.sIx_none, List.drop_zero, Nat.sub_zero]
  rcases Nat.le_total k xs.length with h | h
  · rw [Nat.min_eq_left h]
  · rw [Nat.min_eq_right h, List.take_of_length_le (Nat.le_refl _), List.take_of_length_le h]
theorem cut_but (xs : List V) (k : Nat) (hk : k ≤ xs.length) (h0 : 0 < k) : cutV xs none (some (-(k : Int))) = xs.take (xs.length - k) := by
  unfold cutV
  rw [HT.sIx_none, List.drop_zero, Nat.sub_zero]
  rw [show HT.sIx xs.length xs.length (some (-(k : Int))) = xs.length - k by
    show (if -(k : Int) < 0 then (-(k : Int) + (xs.length : Int)).toNat else min (-(k : Int)).toNat xs.length) = _
    rw [if_pos (by omega)]
    omega]
/-! the same rules within a comprehension: the fragment by its own name -/
section
variable {X : Cx} {K : PySem.W.Frag} {e : Expr} {es : List Expr} {te : TE} {t : TA} {pos : Pos} {f : Str}
theorem op_inK (h : X.K = K) : OpR X (compareOp .In) (rIn K false) := by subst h; exact op_in_seq
theorem op_notInK (h : X.K = K) : OpR X (compareOp .NotIn) (rIn K true) := by subst h; exact op_notIn_seq
theorem ix_tupK (h : X.K = K) : IxR X (rIxT K) := by subst h; exact ix_tup
theorem ix_listK (h : X.K = K) : IxR X (rIxL K) := by subst h; exact ix_list
theorem pe_fldK (h : X.K = K) (he : PE X e te) (hb : attributeBase e f X.env (eval e X.env) = eval e X.env) : PE X (.Attribute e f pos) (tFld K te f) := by subst h; exact pe_fld he hb
theorem pg_tupK {k : Nat} (n : Nat) {ts : TGs} (h : X.K = K) (hc : X.calm = true) (hs : PGs X es ts) (hn : (assignEach es X.env).length = n := by rfl) (hst : (assignEach es X.env).findIdx? (·.1) = none := by rfl) :
    PG X (.Tuple es k pos) (gTup K n ts) := by subst h; exact pg_tup hc hs hn hst
theorem call_nlenK (h : X.K = K) : CallR X (.builtin "len") (rLenSq K) := by subst h; exact call_nlen
theorem call_ntupleK (h : X.K = K) : CallR X (.type "tuple") (rTupOf K) := by subst h; exact call_ntuple
theorem call_isiK' (h : X.K = K) : CallR X (.builtin "isinstance") (rIsi K) := by subst h; exact call_isi
end
/-! rows of pairs -/
section
variable {α β : Type} {F : α → β → Prop}
theorem pr_get : ∀ {l : List α} {m : List β}, Paired F l m → ∀ {i : Nat} {a : α}, l[i]? = some a → ∃ b, m[i]? = some b ∧ F a b
  | _, _, .cons h t, 0, a, e => by
    simp at e
    subst e
    exact ⟨_, rfl, h⟩
  | _, _, .cons h t, i + 1, a, e => by
    obtain ⟨b, h1, h2⟩ := pr_get t (i := i) (a := a) (by simpa using e)
    exact ⟨b, by simpa using h1, h2⟩
theorem pr_of : ∀ {l : List α} {m : List β}, l.length = m.length → (∀ (i : Nat) a b, l[i]? = some a → m[i]? = some b → F a b) → Paired F l m
  | [], [], _, _ => .nil
  | [], _ :: _, h, _ => by simp at h
  | _ :: _, [], h, _ => by simp at h
  | a :: l, b :: m, h, k => .cons (k 0 a b rfl rfl) (pr_of (by simpa using h) fun i x y e1 e2 => k (i + 1) x y (by simpa using e1) (by simpa using e2))
theorem pr_app {l l' : List α} {m m' : List β} (h : Paired F l m) (h' : Paired F l' m') : Paired F (l ++ l') (m ++ m') := by
  induction h with
  | nil => exact h'
  | cons a _ ih => exact .cons a ih
theorem pr_take {l : List α} {m : List β} (h : Paired F l m) (k : Nat) : Paired F (l.take k) (m.take k) := by
  induction h generalizing k with
  | nil => rw [List.take_nil, List.take_nil]; exact .nil
  | cons a _ ih =>
    cases k with
    | zero => exact .nil
    | succ k => exact .cons a (ih k)
theorem pr_drop {l : List α} {m : List β} (h : Paired F l m) (k : Nat) : Paired F (l.drop k) (m.drop k) := by
  induction h generalizing k with
  | nil => rw [List.drop_nil, List.drop_nil]; exact .nil
  | cons a t ih =>
    cases k with
    | zero => exact .cons a t
    | succ k => exact ih k
theorem pr_fil {l : List α} {m : List β} (h : Paired F l m) (keep : Nat → Bool) (n : Nat) (da : α) (db : β) (hn : n ≤ l.length := by omega) : Paired F (((List.range n).filter keep).map fun i => l[i]?.getD da) (((List.range n).filter keep).map fun i => m[i]?.getD db) := by
  have hj : ∀ j ∈ (List.range n).filter keep, j < l.length := fun j hj => by
    have := List.mem_range.mp (List.mem_filter.mp hj).1
    omega
  generalize (List.range n).filter keep = js at hj
  induction js with
  | nil => exact .nil
  | cons j js ih =>
    refine .cons ?_ (ih fun i hi => hj i (List.mem_cons_of_mem _ hi))
    have hjl := hj j (List.mem_cons_self ..)
    have e : l[j]? = some (l[j]'hjl) := List.getElem?_eq_getElem hjl
    obtain ⟨b, h1, h2⟩ := pr_get h e
    simp only [e, h1]
    exact h2
end
end RL
set_option maxHeartbeats 4000000
namespace RL
open PySem PySem.Spec PyProof.Rows L2
local macro_rules | `(tactic| walk_at "hp") => `(tactic| first
  | assumption
  | ((with_reducible refine' SqT.of ?gz); (case gz => walk_at "hp"))
  | ((with_reducible refine' SqL.of ?gz); (case gz => walk_at "hp"))
  | ((with_reducible refine' Same.seqT (by assumption) ?gz); (case gz => walk_at "hp"))
  | ((with_reducible refine' Same.seq (by assumption) ?gz); (case gz => walk_at "hp"))
  | ((with_reducible refine' s_at (by assumption) ?gz); (case gz => walk_at "hp"))
  | ((with_reducible refine' dp_mono (by assumption) ?gz); (case gz => walk_at "hp")))
local macro_rules | `(tactic| walk_at "sm") => `(tactic| first
  | assumption
  | exact Same.refl _
  | (with_reducible refine Same.trans ?_ (by assumption); walk_at "sm"))
local macro_rules | `(tactic| walk_at "st") => `(tactic| try dsimp only [cxOf, L2.Cx.nox, L2.Cx.wish])
local macro_rules | `(tactic| walk_at "sz") => `(tactic| (have := sizeLine_eq; (try simp only [List.length_append, List.length_map, List.length_take, List.length_drop, List.length_cons, List.length_nil]); omega))
local macro_rules | `(tactic| walk_at "lk") => `(tactic| fail)
local macro_rules | `(tactic| walk_at "goB") => `(tactic| fail)
local macro_rules | `(tactic| walk_at "goT") => `(tactic| fail)
local macro_rules | `(tactic| walk_at "goA") => `(tactic| first
  | (with_reducible first
    | refine ifT rfl ?_
    | refine ifF rfl ?_)
  | ((with_reducible refine' g_gtup ?gh ?gl ?gk); (case gh => walk_at "hp"); (case gl => rfl))
  | ((with_reducible refine' g_ixT ?gh ?gl ?gk); (case gh => walk_at "hp"); (case gl => first | rfl | assumption))
  | ((with_reducible refine' g_ixL ?gh ?gl ?gk); (case gh => walk_at "hp"); (case gl => first | rfl | assumption))
  | ((with_reducible refine' g_lenT ?gh ?gk); (case gh => walk_at "hp"))
  | ((with_reducible refine' g_lenL ?gh ?gk); (case gh => walk_at "hp"))
  | ((with_reducible refine' g_inT ?gh ?gf ?gl ?gk); (case gh => walk_at "hp"); (case gf => rfl); (case gl => rfl))
  | ((with_reducible refine' g_isi (d := true) ?gh ?gl ?gk); (case gh => first | exact ty_tup (by walk_at "hp") | exact .base (.int _) | exact .base (.str _)); (case gl => exact kit_ty (by decide +kernel)))
  | ((with_reducible refine' g_isi (d := false) ?gh ?gl ?gk); (case gh => first | exact ty_tup (by walk_at "hp") | exact .base (.int _) | exact .base (.str _)); (case gl => exact kit_ty (by decide +kernel)))
  | ((with_reducible refine' g_new ?gl ?gk); (case gl => first | exact Nat.le_of_ble_eq_true rfl | walk_at "sz"))
  | ((with_reducible refine' g_ilstv ?gh ?gk); (case gh => walk_at "hp"))
  | ((with_reducible refine' g_itupv ?gh ?gk); (case gh => walk_at "hp"))
  | ((with_reducible refine' g_ienumv ?gh ?gk); (case gh => walk_at "hp"))
  | ((with_reducible refine' g_ienTv ?gh ?gk); (case gh => walk_at "hp"))
  | ((with_reducible refine' g_slT ?gh ?gk); (case gh => walk_at "hp"); intro _ _ _ _)
  | ((with_reducible refine' g_slL ?gh ?gk); (case gh => walk_at "hp"))
  | ((with_reducible refine' g_catT ?gh ?gl ?gm ?gk); (case gh => walk_at "hp"); (case gl => walk_at "hp"); (case gm => walk_at "sz"); intro _ _ _ _)
  | ((with_reducible refine' g_catL ?gh ?gl ?gm ?gk); (case gh => walk_at "hp"); (case gl => walk_at "hp"); (case gm => walk_at "sz"))
  | ((with_reducible refine' g_tupL ?gh ?gk); (case gh => walk_at "hp"); intro _ _ _ _)
  | ((with_reducible refine' g_tupT ?gh ?gk); (case gh => walk_at "hp"); intro _ _ _ _)
  | ((with_reducible refine' g_starT ?gh ?gk); (case gh => walk_at "hp"))
  | ((with_reducible refine' g_starL ?gh ?gk); (case gh => walk_at "hp"))
  | ((with_reducible refine' g_tyL ?gh ?gk); (case gh => walk_at "hp"))
  | ((with_reducible refine' g_app ?gh ?gl ?gk); (case gh => walk_at "hp"); (case gl => walk_at "sz"))
  | ((with_reducible refine' g_inL ?gh ?gf ?gl ?gk); (case gh => walk_at "hp"); (case gf => rfl); (case gl => first | rfl | assumption))
  | ((with_reducible refine' g_irng1v ?gh ?gl ?gk); (case gh => omega); (case gl => omega))
  | ((with_reducible refine' g_irng2v ?gh ?gk); (case gh => omega))
  | ((with_reducible refine g_NewT ?_); intro _ _ _ _ _)
  | ((with_reducible refine' g_fldv ?gh ?gc ?gn ?gl ?gk); (case gh => walk_at "hp"); (case gc => assumption); (case gn => assumption); (case gl => first | rfl | walk_at "lk"))
  | ((with_reducible refine' g_fldw ?gh ?gc ?gn ?gl ?gk); (case gh => walk_at "hp"); (case gc => assumption); (case gn => assumption); (case gl => exact Nat.le_of_ble_eq_true rfl))
  | ((with_reducible refine' g_own2 ?gh ?gl ?gk); (case gh => walk_at "hp"); (case gl => walk_at "hp"))
  | ((with_reducible refine' g_own1 ?gh ?gk); (case gh => walk_at "hp"))
  | ((with_reducible refine' g_ownI ?gh ?gk); (case gh => walk_at "hp"))
  | ((with_reducible refine' g_recv ?gh ?gl ?gk); (case gh => walk_at "hp"); (case gl => walk_at "lk"))
  | ((with_reducible refine' g_lenS ?gh ?gk); (case gh => (have := sizeLine_eq; omega)))
  | ((with_reducible refine' ifT ?gh ?gk); (case gh => first | exact decide_eq_true (by omega) | exact nf (decide_eq_false (by omega)) | decide +kernel))
  | ((with_reducible refine' ifF ?gh ?gk); (case gh => first | exact decide_eq_false (by omega) | exact nt (decide_eq_true (by omega)) | decide +kernel)))
local macro_rules | `(tactic| walk_at "go1") => `(tactic| first
  | (with_reducible first
    | refine g_var rfl ?_
    | refine g_op ?_
    | refine g_cons ?_
    | refine g_nil ?_
    | refine g_c ?_
    | refine g_cb ?_
    | refine g_call ?_
    | refine g_seq ?_
    | refine g_asg ?_
    | refine g_name ?_
    | refine g_fld ?_
    | refine g_meth ?_
    | refine g_ifS ?_
    | refine g_if ?_
    | refine g_ret ?_
    | refine g_test ?_
    | refine g_tB ?_
    | refine g_bl ?_
    | refine g_and ?_
    | refine g_or ?_
    | refine g_not ?_
    | refine g_andV ?_
    | refine g_orV ?_
    | refine g_notV ?_
    | refine g_chain ?_
    | refine g_un ?_
    | refine g_ntup ?_
    | refine g_nlst ?_
    | refine g_drop ?_
    | refine g_next ?_
    | refine g_par ?_
    | refine g_par3 ?_
    | refine g_e2 ?_
    | refine g_e3 ?_
    | refine g_retN ?_
    | refine g_gcons ?_
    | refine g_gnil ?_
    | refine g_rI0 ?_
    | refine g_rU ?_
    | refine g_rSS ?_
    | refine g_rBB ?_
    | refine g_sib ?_
    | refine g_sii ?_
    | refine g_lc ?_
    | refine g_for ?_
    | refine g_istr ?_
    | refine g_istrv ?_
    | refine g_ilst ?_
    | refine g_itup ?_
    | refine g_irng1 ?_
    | refine g_irng2 ?_
    | refine g_ienum ?_
    | refine g_abs ?_
    | refine g_mx ?_
    | refine g_mn ?_
    | refine g_isN ?_
    | refine g_inC ?_
    | refine g_nfld ?_
    | refine g_ienT ?_
    | refine g_sl ?_
    | refine g_np ?_
    | refine g_pt ?_
    | refine g_ptv ?_
    | refine g_star ?_
    | refine g_bmL ?_)
  | walk_at "goA"
  | walk_at "goT"
  | walk_at "goB")
local macro_rules | `(tactic| walk_at "go") => `(tactic| repeat walk_at "go1")
/-! the frame of each proof -/
section
variable {P : Program} {w : World} {K : PySem.W.Frag} {mg : Str → Option Value} {base : Heap}
abbrev Dn (Q : VK) : Ends := ⟨fun _ H' => Q .non H', Q, fun _ _ => False, fun _ _ => False⟩
theorem calD {x : Str} {st : Stmt} {f : Addr} {N ps : List Str} {k : Nat} {sp : Sp} (D : ∃ fd, FunD K x x (defArgs st) (defBody st) (defScope st) [] [] f fd) (m : mg x = some (.ref f))
    (hb : ∀ (kV doc pm : Value) (an : Option Addr) (cdv ct : Value) (us : List Value), us.length = ps.length → bindArgs (PySem.W.fnOf x x (defArgs st) (defBody st) (defScope st) .none kV doc pm an cdv ct) ⟨us, []⟩ = pure (ps.zip us))
    (S : FnScope N ps (defScope st)) (len : ∀ vs H Q E, sp vs H Q E → vs.length = ps.length)
    (hbody : ∀ (fd : FuncData) (cdv : Value) (A : Around) (outer : List Env) (s : Shared) (H : Hp) (vs : List V) (Q : VK) (E : XK), Room k (A.deeper (envOfC x (defScope st) s.heap.objs.size f cdv)) → sp vs H Q E →
      ∃ t, PSs (cxOf C8.CX0 P w K mg base N x (defScope st) f cdv A outer s H E).nox (defBody st) t ∧ t (Dn Q) (start N vs) H) : C8.Cal P w K mg base (k + 1) x sp [] := by
  obtain ⟨fd, F⟩ := D
  exact ⟨f, fd, ps, [], F.ok S len fun cdv A outer s H vs Q E hr h => (by
    obtain ⟨t, h1, h2⟩ := hbody fd cdv A outer s H vs Q E hr h
    exact ⟨t, h1.nox, h2⟩), m, F.kp, F.bindsN hb, .nil⟩
/-! is_whole -/
def sp_is_whole : Sp := fun vs H Q _ => ∃ i, vs = [.int i] ∧ Q (.bl true) H
theorem sc_is_whole : FnScope ["thing"] ["thing"] (defScope s_is_whole) := C8.fnScope_by (by decide +kernel)
theorem c_is_whole (T : Tx K mg) : C8.Cal P w K mg base 1 "is_whole" sp_is_whole [] := by
  refine calD T.d_is_whole T.g_is_whole (fun _ _ _ _ _ _ us hl => match us, hl with | [_], _ => rfl) sc_is_whole (fun vs H Q E ⟨i, e, _⟩ => by rw [e]; rfl) fun fd cdv A outer s H vs Q E hr h => ?_
  obtain ⟨i, rfl, q⟩ := h
  refine ⟨_, (pss_one (ps_ret (pe_and (pe_callB call_isi rfl T.b_isinstance (by decide +kernel) (pa_cons (pv 0) (pa_cons (pe_ty (n := "int") rfl T.b_int (by decide +kernel)) pa_nil))) (pe_one (pe_not (pe_callB call_isi rfl T.b_isinstance (by decide +kernel) (pa_cons (pv 0) (pa_cons (pe_ty (n := "bool") rfl T.b_bool (by decide +kernel)) pa_nil)))))))), ?_⟩
  walk_at "st"
  walk_at "go"
  exact q
theorem u_is_whole {i : Int} {H : Hp} {Q : VK} {E : XK} (h : Q (.bl true) H) : sp_is_whole [.int i] H Q E := ⟨i, rfl, h⟩
local macro_rules | `(tactic| walk_at "goB") => `(tactic| with_reducible refine u_is_whole ?_)
/-! is_thing -/
structure ThingOk (z : Str) : Prop where
  lo : 1 ≤ z.length
  hi : z.length ≤ 8
  az : ∀ c ∈ z.cps.toList, 97 ≤ c ∧ c ≤ 122
def sp_is_thing : Sp := fun vs H Q _ => ∃ z, vs = [.str z] ∧ ThingOk z ∧ ∀ H', Same H H' → Q (.bl true) H'
theorem u_is_thing {z : Str} {H : Hp} {Q : VK} {E : XK} (o : ThingOk z) (h : ∀ H', Same H H' → Q (.bl true) H') : sp_is_thing [.str z] H Q E := ⟨z, rfl, o, h⟩
theorem sc_is_thing : FnScope ["thing", "sign"] ["thing"] (defScope s_is_thing) := C8.fnScope_by (by decide +kernel)
theorem letters26 : ∀ k : Fin 26, decide (97 + k.val ∈ (("abcdefghijklmnopqrstuvwxyz" : Str)).cps.toList) = true := by decide +kernel
theorem letters_in {c : Nat} (h : 97 ≤ c ∧ c ≤ 122) : decide (c ∈ (("abcdefghijklmnopqrstuvwxyz" : Str)).cps.toList) = true := by
  have e : c = 97 + (c - 97) := by omega
  rw [e]
  exact letters26 ⟨c - 97, by omega⟩
theorem c_is_thing (T : Tx K mg) : C8.Cal P w K mg base 1 "is_thing" sp_is_thing [] := by
  refine calD T.d_is_thing T.g_is_thing (fun _ _ _ _ _ _ us hl => match us, hl with | [_], _ => rfl) sc_is_thing (fun vs H Q E ⟨i, e, _⟩ => by rw [e]; rfl) fun fd cdv A outer s H vs Q E hr h => ?_
  obtain ⟨z, rfl, o, q⟩ := h
  refine ⟨_, (pss_cons (ps_if (PW.pt (pw_or (pt_not (pt_val (pe_callB call_isi rfl T.b_isinstance (by decide +kernel) (pa_cons (pv 0) (pa_cons (pe_ty (n := "str") rfl T.b_str (by decide +kernel)) pa_nil))))) (pw_or1 (pt_not (pt_chain op_le op_le pe_int (pe_callB call_nlenS rfl T.b_len (by decide +kernel) (pa_cons (pv 0) pa_nil)) (C8.pe_gc rfl T.v_LONGEST_THING))))))
        (pss_one (ps_ret pe_bl))
        pss_nil)
      (pss_one (ps_ret (pe_callB (cr_all rfl) rfl T.b_all (by decide +kernel) (pa_cons (pe_lc (own := [("sign", 1)]) rfl sc_is_thing.nd (pj_str (pv 0)) (blkOk_by (N := ["thing", "sign"]) (sc := defScope s_is_thing) (by decide +kernel)) (fun _ _ _ _ _ => (pg_name (i := 1) sc_is_thing.nd rfl (Or.inl rfl))) (fun _ _ _ _ _ => pts_nil) (fun _ _ _ _ _ => (pe_cmpR op_inC (pv 1) (C8.pe_gc rfl T.v_LETTERS) (by rfl)))) pa_nil))))), ?_⟩
  walk_at "st"
  have h1 := o.lo
  have h2 := o.hi
  walk_at "go"
  refine lc_val walk_str (fun _ => .bl true) ?_ (fun _ _ => trivial) ?_ ?_
  · rw [← show z.length = z.cps.size from rfl]
    have := sizeLine_eq
    omega
  · rintro i x H2 H3 k hi s1 ⟨rfl, c, hc, rfl⟩ hk
    refine g_name ⟨rfl, ?_⟩
    walk_at "go"
    rw [letters_in (o.az c (Array.mem_toList_iff.mpr (Array.mem_of_getElem? hc)))]
    exact hk _ (Same.refl _)
  · intro p H2 np s2 hp
    walk_at "go"
    refine g_all (bs := (List.range z.cps.size).map fun _ => true) (SqL.of ?_) ?_
    · rw [hp, List.map_map]
      rfl
    · rw [show ((List.range z.cps.size).map fun _ => true).all id = true by simp]
      exact q H2 s2
/-! is_window -/
def WinOk (z : Str) : Prop := z = "near" ∨ z = "far"
def sp_is_window : Sp := fun vs H Q _ => ∃ z, vs = [.str z] ∧ WinOk z ∧ Q (.bl true) H
theorem u_is_window {z : Str} {H : Hp} {Q : VK} {E : XK} (o : WinOk z) (h : Q (.bl true) H) : sp_is_window [.str z] H Q E := ⟨z, rfl, o, h⟩
theorem sc_is_window : FnScope ["thing"] ["thing"] (defScope s_is_window) := C8.fnScope_by (by decide +kernel)
theorem c_is_window (T : Tx K mg) : C8.Cal P w K mg base 1 "is_window" sp_is_window [] := by
  refine calD T.d_is_window T.g_is_window (fun _ _ _ _ _ _ us hl => match us, hl with | [_], _ => rfl) sc_is_window (fun vs H Q E ⟨i, e, _⟩ => by rw [e]; rfl) fun fd cdv A outer s H vs Q E hr h => ?_
  obtain ⟨z, rfl, o, q⟩ := h
  refine ⟨_, (pss_one (ps_ret (pe_and (pe_callB call_isi rfl T.b_isinstance (by decide +kernel) (pa_cons (pv 0) (pa_cons (pe_ty (n := "str") rfl T.b_str (by decide +kernel)) pa_nil))) (pe_one (pe_cmpR op_in_seq (pv 0) (C8.pe_gc rfl T.v_WINDOWS) (by rfl)))))), ?_⟩
  walk_at "st"
  walk_at "go"
  refine g_inT (T.t_WINDOWS H) rfl rfl ?_
  have e : inV (.str z) [.str "near", .str "far"] = true := by
    rcases o with rfl | rfl <;> decide +kernel
  rw [if_neg (by decide), e]
  exact q
/-! is_length -/
def sp_is_length : Sp := fun vs H Q _ => ∃ i m, vs = [.int i, .int m] ∧ i ≠ 0 ∧ -m ≤ i ∧ i ≤ m ∧ Q (.bl true) H
theorem u_is_length {i m : Int} {H : Hp} {Q : VK} {E : XK} (h1 : i ≠ 0) (h2 : -m ≤ i) (h3 : i ≤ m) (h : Q (.bl true) H) : sp_is_length [.int i, .int m] H Q E := ⟨i, m, rfl, h1, h2, h3, h⟩
theorem sc_is_length : FnScope ["thing", "most"] ["thing", "most"] (defScope s_is_length) := C8.fnScope_by (by decide +kernel)
theorem c_is_length (T : Tx K mg) : C8.Cal P w K mg base 2 "is_length" sp_is_length [] := by
  refine calD T.d_is_length T.g_is_length (fun _ _ _ _ _ _ us hl => match us, hl with | [_, _], _ => rfl) sc_is_length (fun vs H Q E ⟨i, m, e, _⟩ => by rw [e]; rfl) fun fd cdv A outer s H vs Q E hr h => ?_
  obtain ⟨i, m, rfl, h1, h2, h3, q⟩ := h
  refine ⟨_, (pss_one (ps_ret (pe_and (C8.pe_c (c_is_whole T) hr (by decide) rfl (pa_cons (pv 0) pa_nil)) (pe_and (pe_cmpR op_neI (pv 0) pe_int (nomark _)) (pe_one (pe_chain op_le op_le (pe_un un_neg (pv 1)) (pv 0) (pv 1))))))), ?_⟩
  walk_at "st"
  walk_at "go"
  rw [show decide (i ≤ m) = true from decide_eq_true h3]
  exact q
end
end RL
set_option maxHeartbeats 4000000
namespace RL
open PySem PySem.Spec PyProof.Rows L2
local macro_rules | `(tactic| walk_at "hp") => `(tactic| first
  | assumption
  | ((with_reducible refine' SqT.of ?gz); (case gz => walk_at "hp"))
  | ((with_reducible refine' SqL.of ?gz); (case gz => walk_at "hp"))
  | ((with_reducible refine' Same.seqT (by assumption) ?gz); (case gz => walk_at "hp"))
  | ((with_reducible refine' Same.seq (by assumption) ?gz); (case gz => walk_at "hp"))
  | ((with_reducible refine' s_at (by assumption) ?gz); (case gz => walk_at "hp"))
  | ((with_reducible refine' dp_mono (by assumption) ?gz); (case gz => walk_at "hp")))
local macro_rules | `(tactic| walk_at "sm") => `(tactic| first
  | assumption
  | exact Same.refl _
  | (with_reducible refine Same.trans ?_ (by assumption); walk_at "sm"))
local macro_rules | `(tactic| walk_at "st") => `(tactic| try dsimp only [cxOf, L2.Cx.nox, L2.Cx.wish])
local macro_rules | `(tactic| walk_at "sz") => `(tactic| (have := sizeLine_eq; (try simp only [List.length_append, List.length_map, List.length_take, List.length_drop, List.length_cons, List.length_nil]); omega))
local macro_rules | `(tactic| walk_at "lk") => `(tactic| fail)
local macro_rules | `(tactic| walk_at "goB") => `(tactic| fail)
local macro_rules | `(tactic| walk_at "goT") => `(tactic| fail)
local macro_rules | `(tactic| walk_at "goA") => `(tactic| first
  | (with_reducible first
    | refine ifT rfl ?_
    | refine ifF rfl ?_)
  | ((with_reducible refine' g_gtup ?gh ?gl ?gk); (case gh => walk_at "hp"); (case gl => rfl))
  | ((with_reducible refine' g_ixT ?gh ?gl ?gk); (case gh => walk_at "hp"); (case gl => first | rfl | assumption))
  | ((with_reducible refine' g_ixL ?gh ?gl ?gk); (case gh => walk_at "hp"); (case gl => first | rfl | assumption))
  | ((with_reducible refine' g_lenT ?gh ?gk); (case gh => walk_at "hp"))
  | ((with_reducible refine' g_lenL ?gh ?gk); (case gh => walk_at "hp"))
  | ((with_reducible refine' g_inT ?gh ?gf ?gl ?gk); (case gh => walk_at "hp"); (case gf => rfl); (case gl => rfl))
  | ((with_reducible refine' g_isi (d := true) ?gh ?gl ?gk); (case gh => first | exact ty_tup (by walk_at "hp") | exact .base (.int _) | exact .base (.str _)); (case gl => exact kit_ty (by decide +kernel)))
  | ((with_reducible refine' g_isi (d := false) ?gh ?gl ?gk); (case gh => first | exact ty_tup (by walk_at "hp") | exact .base (.int _) | exact .base (.str _)); (case gl => exact kit_ty (by decide +kernel)))
  | ((with_reducible refine' g_new ?gl ?gk); (case gl => first | exact Nat.le_of_ble_eq_true rfl | walk_at "sz"))
  | ((with_reducible refine' g_ilstv ?gh ?gk); (case gh => walk_at "hp"))
  | ((with_reducible refine' g_itupv ?gh ?gk); (case gh => walk_at "hp"))
  | ((with_reducible refine' g_ienumv ?gh ?gk); (case gh => walk_at "hp"))
  | ((with_reducible refine' g_ienTv ?gh ?gk); (case gh => walk_at "hp"))
  | ((with_reducible refine' g_slT ?gh ?gk); (case gh => walk_at "hp"); intro _ _ _ _)
  | ((with_reducible refine' g_slL ?gh ?gk); (case gh => walk_at "hp"))
  | ((with_reducible refine' g_catT ?gh ?gl ?gm ?gk); (case gh => walk_at "hp"); (case gl => walk_at "hp"); (case gm => walk_at "sz"); intro _ _ _ _)
  | ((with_reducible refine' g_catL ?gh ?gl ?gm ?gk); (case gh => walk_at "hp"); (case gl => walk_at "hp"); (case gm => walk_at "sz"))
  | ((with_reducible refine' g_tupL ?gh ?gk); (case gh => walk_at "hp"); intro _ _ _ _)
  | ((with_reducible refine' g_tupT ?gh ?gk); (case gh => walk_at "hp"); intro _ _ _ _)
  | ((with_reducible refine' g_starT ?gh ?gk); (case gh => walk_at "hp"))
  | ((with_reducible refine' g_starL ?gh ?gk); (case gh => walk_at "hp"))
  | ((with_reducible refine' g_tyL ?gh ?gk); (case gh => walk_at "hp"))
  | ((with_reducible refine' g_app ?gh ?gl ?gk); (case gh => walk_at "hp"); (case gl => walk_at "sz"))
  | ((with_reducible refine' g_inL ?gh ?gf ?gl ?gk); (case gh => walk_at "hp"); (case gf => rfl); (case gl => first | rfl | assumption))
  | ((with_reducible refine' g_irng1v ?gh ?gl ?gk); (case gh => omega); (case gl => omega))
  | ((with_reducible refine' g_irng2v ?gh ?gk); (case gh => omega))
  | ((with_reducible refine g_NewT ?_); intro _ _ _ _ _)
  | ((with_reducible refine' g_fldv ?gh ?gc ?gn ?gl ?gk); (case gh => walk_at "hp"); (case gc => assumption); (case gn => assumption); (case gl => first | rfl | walk_at "lk"))
  | ((with_reducible refine' g_fldw ?gh ?gc ?gn ?gl ?gk); (case gh => walk_at "hp"); (case gc => assumption); (case gn => assumption); (case gl => exact Nat.le_of_ble_eq_true rfl))
  | ((with_reducible refine' g_own2 ?gh ?gl ?gk); (case gh => walk_at "hp"); (case gl => walk_at "hp"))
  | ((with_reducible refine' g_own1 ?gh ?gk); (case gh => walk_at "hp"))
  | ((with_reducible refine' g_ownI ?gh ?gk); (case gh => walk_at "hp"))
  | ((with_reducible refine' g_recv ?gh ?gl ?gk); (case gh => walk_at "hp"); (case gl => walk_at "lk"))
  | ((with_reducible refine' g_lenS ?gh ?gk); (case gh => (have := sizeLine_eq; omega)))
  | ((with_reducible refine' ifT ?gh ?gk); (case gh => first | exact decide_eq_true (by omega) | exact nf (decide_eq_false (by omega)) | decide +kernel))
  | ((with_reducible refine' ifF ?gh ?gk); (case gh => first | exact decide_eq_false (by omega) | exact nt (decide_eq_true (by omega)) | decide +kernel)))
local macro_rules | `(tactic| walk_at "go1") => `(tactic| first
  | (with_reducible first
    | refine g_var rfl ?_
    | refine g_op ?_
    | refine g_cons ?_
    | refine g_nil ?_
    | refine g_c ?_
    | refine g_cb ?_
    | refine g_call ?_
    | refine g_seq ?_
    | refine g_asg ?_
    | refine g_name ?_
    | refine g_fld ?_
    | refine g_meth ?_
    | refine g_ifS ?_
    | refine g_if ?_
    | refine g_ret ?_
    | refine g_test ?_
    | refine g_tB ?_
    | refine g_bl ?_
    | refine g_and ?_
    | refine g_or ?_
    | refine g_not ?_
    | refine g_andV ?_
    | refine g_orV ?_
    | refine g_notV ?_
    | refine g_chain ?_
    | refine g_un ?_
    | refine g_ntup ?_
    | refine g_nlst ?_
    | refine g_drop ?_
    | refine g_next ?_
    | refine g_par ?_
    | refine g_par3 ?_
    | refine g_e2 ?_
    | refine g_e3 ?_
    | refine g_retN ?_
    | refine g_gcons ?_
    | refine g_gnil ?_
    | refine g_rI0 ?_
    | refine g_rU ?_
    | refine g_rSS ?_
    | refine g_rBB ?_
    | refine g_sib ?_
    | refine g_sii ?_
    | refine g_lc ?_
    | refine g_for ?_
    | refine g_istr ?_
    | refine g_istrv ?_
    | refine g_ilst ?_
    | refine g_itup ?_
    | refine g_irng1 ?_
    | refine g_irng2 ?_
    | refine g_ienum ?_
    | refine g_abs ?_
    | refine g_mx ?_
    | refine g_mn ?_
    | refine g_isN ?_
    | refine g_inC ?_
    | refine g_nfld ?_
    | refine g_ienT ?_
    | refine g_sl ?_
    | refine g_np ?_
    | refine g_pt ?_
    | refine g_ptv ?_
    | refine g_star ?_
    | refine g_bmL ?_)
  | walk_at "goA"
  | walk_at "goT"
  | walk_at "goB")
local macro_rules | `(tactic| walk_at "go") => `(tactic| repeat walk_at "go1")
/-! deeds: what they are -/
def fd : V → PyData
  | .int i => .int i
  | .str s => .str s
  | .bl b => .bool b
  | _ => .none
inductive PlainOk : List V → Prop where
  | thing (k w t : Str) (hk : k = "peg" ∨ k = "hang" ∨ k = "fetch") (hw : WinOk w) (ht : ThingOk t) : PlainOk [.str k, .str w, .str t]
  | pull (n : Int) (h0 : n ≠ 0) (h1 : -40 ≤ n) (h2 : n ≤ 40) : PlainOk [.str "pull", .int n]
  | walk (w : Str) (n : Int) (hw : WinOk w) (h0 : n ≠ 0) (h1 : -6 ≤ n) (h2 : n ≤ 6) : PlainOk [.str "walk", .str w, .int n]
  | spot (k w : Str) (hk : k = "take" ∨ k = "look") (hw : WinOk w) : PlainOk [.str k, .str w]
inductive Dd where
  | pl (xs : List V)
  | whn (w : Str) (o : Option Str) (xs : List V)
def oV : Option Str → V
  | none => .non
  | some t => .str t
def Dd.dat : Dd → PyData
  | .pl xs => .tuple (xs.map fd)
  | .whn w o xs => .tuple [.str "when", .str w, fd (oV o), .tuple (xs.map fd)]
inductive DdOk : Dd → Prop where
  | pl {xs : List V} (h : PlainOk xs) : DdOk (.pl xs)
  | whn {w : Str} {o : Option Str} {xs : List V} (hw : WinOk w) (ho : ∀ t, o = some t → ThingOk t) (h : PlainOk xs) : DdOk (.whn w o xs)
def DeedAt (K : PySem.W.Frag) (H : Hp) (v : V) : Dd → Prop
  | .pl xs => ∃ a, v = .ref a ∧ SqT K H a xs
  | .whn w o xs => ∃ a b, v = .ref a ∧ SqT K H a [.str "when", .str w, oV o, .ref b] ∧ SqT K H b xs
theorem DeedAt.mono {K : PySem.W.Frag} {H H' : Hp} (e : Same H H') {v : V} : ∀ {d : Dd}, DeedAt K H v d → DeedAt K H' v d
  | .pl _, ⟨a, h1, h2⟩ => ⟨a, h1, Same.seqT e h2⟩
  | .whn _ _ _, ⟨a, b, h1, h2, h3⟩ => ⟨a, b, h1, Same.seqT e h2, Same.seqT e h3⟩
theorem DeedAt.but {K : PySem.W.Frag} {H H' : Hp} {l : Addr} {us : List V} (e : But l H H') (hl : H l = some (.lst us)) {v : V} : ∀ {d : Dd}, DeedAt K H v d → DeedAt K H' v d
  | .pl _, ⟨a, h1, h2⟩ => ⟨a, h1, e.tup hl h2⟩
  | .whn _ _ _, ⟨a, b, h1, h2, h3⟩ => ⟨a, b, h1, e.tup hl h2, e.tup hl h3⟩
theorem strOk_win {w : Str} (h : WinOk w) : PyData.canLay0 (.str w) = true := by
  rcases h with rfl | rfl <;> decide +kernel
theorem strOk_thing {z : Str} (o : ThingOk z) : PyData.canLay0 (.str z) = true := by
  show PyData.strOk z = true
  unfold PyData.strOk
  rw [← Array.all_toList, List.all_eq_true]
  intro c hc
  have := o.az c hc
  exact decide_eq_true (by omega)
theorem PlainOk.lay {xs : List V} (h : PlainOk xs) : PyData.canLayAll0 (xs.map fd) = true := by
  have c1 : ∀ {d : PyData} {ds : List PyData}, d.canLay0 = true → PyData.canLayAll0 ds = true → PyData.canLayAll0 (d :: ds) = true := fun a b => Bool.and_eq_true_iff.mpr ⟨a, b⟩
  cases h with
  | thing k w t hk hw ht => exact c1 (by rcases hk with rfl | rfl | rfl <;> decide +kernel) (c1 (strOk_win hw) (c1 (strOk_thing ht) rfl))
  | pull n => exact c1 (by decide +kernel) (c1 rfl rfl)
  | walk w n hw => exact c1 (by decide +kernel) (c1 (strOk_win hw) (c1 rfl rfl))
  | spot k w hk hw => exact c1 (by rcases hk with rfl | rfl <;> decide +kernel) (c1 (strOk_win hw) rfl)
theorem PlainOk.flat {xs : List V} (h : PlainOk xs) : xs.all flatV = true := by cases h <;> rfl
theorem PlainOk.ne {xs : List V} (h : PlainOk xs) : xs ≠ [] := by cases h <;> simp
theorem fd_depth : ∀ xs : List V, PyData.depthAll (xs.map fd) = 0
  | [] => rfl
  | x :: xs => by
    show max (PyData.depth (fd x)) (PyData.depthAll (xs.map fd)) = 0
    rw [fd_depth xs]
    cases x <;> rfl
theorem dp_flat {K : PySem.W.Frag} {H : Hp} : ∀ {xs : List V}, xs.all flatV = true → DpAll K H xs (xs.map fd)
  | [], _ => .nil
  | x :: xs, h => by
    rw [List.all_cons, Bool.and_eq_true] at h
    refine .cons ?_ (dp_flat h.2)
    cases x with
    | non => exact .non
    | bl b => exact .bl b
    | int i => exact .int i
    | str z => exact .str z
    | byt _ => cases h.1
    | flt _ => cases h.1
    | ref _ => cases h.1
    | ty _ => cases h.1
theorem g_eqE {K : PySem.W.Frag} {H : Hp} {a p : Addr} {xs : List V} {Q : VK} (h : SqT K H a xs) (e : SqT K H p []) (l : PyData.canLayAll0 (xs.map fd) = true) (f : xs.all flatV = true) (ne : xs ≠ []) (q : Q (.bl false) H) : rEqD K (.ref a) (.ref p) H Q := by
  refine ⟨.tuple (xs.map fd), .tuple [], .tup h (dp_flat f), .tup e .nil, ?_, by decide, ?_⟩
  · show (PyData.canLayAll0 (xs.map fd) && decide (PyData.depthAll (xs.map fd) + 1 ≤ 64)) = true
    rw [l, fd_depth]
    decide
  · cases xs with
    | nil => exact absurd rfl ne
    | cons x xs => exact q
section
variable {P : Program} {w : World} {K : PySem.W.Frag} {mg : Str → Option Value} {base : Heap}
def sp_is_plain_deed (K : PySem.W.Frag) : Sp := fun vs H Q _ => ∃ a xs, vs = [.ref a] ∧ SqT K H a xs ∧ PlainOk xs ∧ ∀ H', Same H H' → Q (.bl true) H'
theorem u_is_plain_deed {a : Addr} {xs : List V} {H : Hp} {Q : VK} {E : XK} (h : SqT K H a xs) (o : PlainOk xs) (q : ∀ H', Same H H' → Q (.bl true) H') : sp_is_plain_deed K [.ref a] H Q E := ⟨a, xs, rfl, h, o, q⟩
theorem sc_is_plain_deed : FnScope ["thing"] ["thing"] (defScope s_is_plain_deed) := C8.fnScope_by (by decide +kernel)
theorem c_is_plain_deed (T : Tx K mg) : C8.Cal P w K mg base 3 "is_plain_deed" (sp_is_plain_deed K) [] := by
  refine calD T.d_is_plain_deed T.g_is_plain_deed (fun _ _ _ _ _ _ us hl => match us, hl with | [_], _ => rfl) sc_is_plain_deed (fun vs H Q E ⟨i, _, e, _⟩ => by rw [e]; rfl) fun fd cdv A outer s H vs Q E hr h => ?_
  obtain ⟨a, xs, rfl, h, o, q⟩ := h
  refine ⟨_, (pss_cons (ps_if (PW.pt (pw_or (pt_not (pt_val (pe_callB call_isi rfl T.b_isinstance (by decide +kernel) (pa_cons (pv 0) (pa_cons (pe_ty (n := "tuple") rfl T.b_tuple (by decide +kernel)) pa_nil))))) (pw_or (pt_cmpR (op_eqD hr.units) (pv 0) (pe_ntup pa_nil) (nomark _)) (pw_or1 (pt_not (pt_val (pe_callB call_isi rfl T.b_isinstance (by decide +kernel) (pa_cons (pe_ix ix_tup (pv 0) pe_int (fun _ _ => rfl)) (pa_cons (pe_ty (n := "str") rfl T.b_str (by decide +kernel)) pa_nil)))))))))
        (pss_one (ps_ret pe_bl))
        pss_nil)
      (pss_cons (ps_if (pt_cmpR op_eqS (pe_ix ix_tup (pv 0) pe_int (fun _ _ => rfl)) pe_str (nomark _))
        (pss_one (ps_ret (pe_and (pe_cmpR op_eqI (pe_callB call_nlen rfl T.b_len (by decide +kernel) (pa_cons (pv 0) pa_nil)) pe_int (nomark _)) (pe_one (C8.pe_c (c_is_length T) hr (by decide) rfl (pa_cons (pe_ix ix_tup (pv 0) pe_int (fun _ _ => rfl)) (pa_cons (C8.pe_gc rfl T.v_GREATEST_PULL) pa_nil)))))))
        pss_nil)
      (pss_cons (ps_if (PW.pt (pw_or (pt_cmpR op_lt (pe_callB call_nlen rfl T.b_len (by decide +kernel) (pa_cons (pv 0) pa_nil)) pe_int (nomark _)) (pw_or1 (pt_not (pt_val (C8.pe_c (c_is_window T) hr (by decide) rfl (pa_cons (pe_ix ix_tup (pv 0) pe_int (fun _ _ => rfl)) pa_nil)))))))
        (pss_one (ps_ret pe_bl))
        pss_nil)
      (pss_cons (ps_if (pt_cmpR op_in_seq (pe_ix ix_tup (pv 0) pe_int (fun _ _ => rfl)) (pe_ntup (pa_cons pe_str (pa_cons pe_str pa_nil))) (by rfl))
        (pss_one (ps_ret (pe_cmpR op_eqI (pe_callB call_nlen rfl T.b_len (by decide +kernel) (pa_cons (pv 0) pa_nil)) pe_int (nomark _))))
        pss_nil)
      (pss_cons (ps_if (pt_cmpR op_in_seq (pe_ix ix_tup (pv 0) pe_int (fun _ _ => rfl)) (pe_ntup (pa_cons pe_str (pa_cons pe_str (pa_cons pe_str pa_nil)))) (by rfl))
        (pss_one (ps_ret (pe_and (pe_cmpR op_eqI (pe_callB call_nlen rfl T.b_len (by decide +kernel) (pa_cons (pv 0) pa_nil)) pe_int (nomark _)) (pe_one (C8.pe_c (c_is_thing T) hr (by decide) rfl (pa_cons (pe_ix ix_tup (pv 0) pe_int (fun _ _ => rfl)) pa_nil))))))
        pss_nil)
      (pss_one (ps_ret (pe_and (pe_cmpR op_eqS (pe_ix ix_tup (pv 0) pe_int (fun _ _ => rfl)) pe_str (nomark _)) (pe_and (pe_cmpR op_eqI (pe_callB call_nlen rfl T.b_len (by decide +kernel) (pa_cons (pv 0) pa_nil)) pe_int (nomark _)) (pe_one (C8.pe_c (c_is_length T) hr (by decide) rfl (pa_cons (pe_ix ix_tup (pv 0) pe_int (fun _ _ => rfl)) (pa_cons (C8.pe_gc rfl T.v_GREATEST_STEP) pa_nil))))))))))))), ?_⟩
  walk_at "st"
  have hl := o.lay
  have hf := o.flat
  have hn := o.ne
  cases o with
  | thing k w t hk hw ht =>
    rcases hk with rfl | rfl | rfl
    all_goals
      walk_at "go"
      refine g_eqE (by walk_at "hp") (by walk_at "hp") hl hf hn ?_
      walk_at "go"
      refine u_is_window hw ?_
      walk_at "go"
      refine u_is_thing ht fun H' s' => ?_
      exact q _ (by walk_at "sm")
  | pull n h0 h1 h2 =>
    walk_at "go"
    refine g_eqE (by walk_at "hp") (by walk_at "hp") hl hf hn ?_
    walk_at "go"
    refine u_is_length h0 h1 h2 ?_
    exact q _ (by walk_at "sm")
  | walk w n hw h0 h1 h2 =>
    walk_at "go"
    refine g_eqE (by walk_at "hp") (by walk_at "hp") hl hf hn ?_
    walk_at "go"
    refine u_is_window hw ?_
    walk_at "go"
    refine u_is_length h0 h1 h2 ?_
    exact q _ (by walk_at "sm")
  | spot k w hk hw =>
    rcases hk with rfl | rfl
    all_goals
      walk_at "go"
      refine g_eqE (by walk_at "hp") (by walk_at "hp") hl hf hn ?_
      walk_at "go"
      refine u_is_window hw ?_
      walk_at "go"
      exact q _ (by walk_at "sm")
end
end RL
set_option maxHeartbeats 4000000
namespace RL
open PySem PySem.Spec PyProof.Rows L2
local macro_rules | `(tactic| walk_at "hp") => `(tactic| first
  | assumption
  | ((with_reducible refine' SqT.of ?gz); (case gz => walk_at "hp"))
  | ((with_reducible refine' SqL.of ?gz); (case gz => walk_at "hp"))
  | ((with_reducible refine' Same.seqT (by assumption) ?gz); (case gz => walk_at "hp"))
  | ((with_reducible refine' Same.seq (by assumption) ?gz); (case gz => walk_at "hp"))
  | ((with_reducible refine' s_at (by assumption) ?gz); (case gz => walk_at "hp"))
  | ((with_reducible refine' dp_mono (by assumption) ?gz); (case gz => walk_at "hp")))
local macro_rules | `(tactic| walk_at "sm") => `(tactic| first
  | assumption
  | exact Same.refl _
  | (with_reducible refine Same.trans ?_ (by assumption); walk_at "sm"))
local macro_rules | `(tactic| walk_at "st") => `(tactic| try dsimp only [cxOf, L2.Cx.nox, L2.Cx.wish])
local macro_rules | `(tactic| walk_at "sz") => `(tactic| (have := sizeLine_eq; (try simp only [List.length_append, List.length_map, List.length_take, List.length_drop, List.length_cons, List.length_nil]); omega))
local macro_rules | `(tactic| walk_at "lk") => `(tactic| fail)
local macro_rules | `(tactic| walk_at "goB") => `(tactic| fail)
local macro_rules | `(tactic| walk_at "goT") => `(tactic| fail)
local macro_rules | `(tactic| walk_at "goA") => `(tactic| first
  | (with_reducible first
    | refine ifT rfl ?_
    | refine ifF rfl ?_)
  | ((with_reducible refine' g_gtup ?gh ?gl ?gk); (case gh => walk_at "hp"); (case gl => rfl))
  | ((with_reducible refine' g_ixT ?gh ?gl ?gk); (case gh => walk_at "hp"); (case gl => first | rfl | assumption))
  | ((with_reducible refine' g_ixL ?gh ?gl ?gk); (case gh => walk_at "hp"); (case gl => first | rfl | assumption))
  | ((with_reducible refine' g_lenT ?gh ?gk); (case gh => walk_at "hp"))
  | ((with_reducible refine' g_lenL ?gh ?gk); (case gh => walk_at "hp"))
  | ((with_reducible refine' g_inT ?gh ?gf ?gl ?gk); (case gh => walk_at "hp"); (case gf => rfl); (case gl => rfl))
  | ((with_reducible refine' g_isi (d := true) ?gh ?gl ?gk); (case gh => first | exact ty_tup (by walk_at "hp") | exact .base (.int _) | exact .base (.str _)); (case gl => exact kit_ty (by decide +kernel)))
  | ((with_reducible refine' g_isi (d := false) ?gh ?gl ?gk); (case gh => first | exact ty_tup (by walk_at "hp") | exact .base (.int _) | exact .base (.str _)); (case gl => exact kit_ty (by decide +kernel)))
  | ((with_reducible refine' g_new ?gl ?gk); (case gl => first | exact Nat.le_of_ble_eq_true rfl | walk_at "sz"))
  | ((with_reducible refine' g_ilstv ?gh ?gk); (case gh => walk_at "hp"))
  | ((with_reducible refine' g_itupv ?gh ?gk); (case gh => walk_at "hp"))
  | ((with_reducible refine' g_ienumv ?gh ?gk); (case gh => walk_at "hp"))
  | ((with_reducible refine' g_ienTv ?gh ?gk); (case gh => walk_at "hp"))
  | ((with_reducible refine' g_slT ?gh ?gk); (case gh => walk_at "hp"); intro _ _ _ _)
  | ((with_reducible refine' g_slL ?gh ?gk); (case gh => walk_at "hp"))
  | ((with_reducible refine' g_catT ?gh ?gl ?gm ?gk); (case gh => walk_at "hp"); (case gl => walk_at "hp"); (case gm => walk_at "sz"); intro _ _ _ _)
  | ((with_reducible refine' g_catL ?gh ?gl ?gm ?gk); (case gh => walk_at "hp"); (case gl => walk_at "hp"); (case gm => walk_at "sz"))
  | ((with_reducible refine' g_tupL ?gh ?gk); (case gh => walk_at "hp"); intro _ _ _ _)
  | ((with_reducible refine' g_tupT ?gh ?gk); (case gh => walk_at "hp"); intro _ _ _ _)
  | ((with_reducible refine' g_starT ?gh ?gk); (case gh => walk_at "hp"))
  | ((with_reducible refine' g_starL ?gh ?gk); (case gh => walk_at "hp"))
  | ((with_reducible refine' g_tyL ?gh ?gk); (case gh => walk_at "hp"))
  | ((with_reducible refine' g_app ?gh ?gl ?gk); (case gh => walk_at "hp"); (case gl => walk_at "sz"))
  | ((with_reducible refine' g_inL ?gh ?gf ?gl ?gk); (case gh => walk_at "hp"); (case gf => rfl); (case gl => first | rfl | assumption))
  | ((with_reducible refine' g_irng1v ?gh ?gl ?gk); (case gh => omega); (case gl => omega))
  | ((with_reducible refine' g_irng2v ?gh ?gk); (case gh => omega))
  | ((with_reducible refine g_NewT ?_); intro _ _ _ _ _)
  | ((with_reducible refine' g_fldv ?gh ?gc ?gn ?gl ?gk); (case gh => walk_at "hp"); (case gc => assumption); (case gn => assumption); (case gl => first | rfl | walk_at "lk"))
  | ((with_reducible refine' g_fldw ?gh ?gc ?gn ?gl ?gk); (case gh => walk_at "hp"); (case gc => assumption); (case gn => assumption); (case gl => exact Nat.le_of_ble_eq_true rfl))
  | ((with_reducible refine' g_own2 ?gh ?gl ?gk); (case gh => walk_at "hp"); (case gl => walk_at "hp"))
  | ((with_reducible refine' g_own1 ?gh ?gk); (case gh => walk_at "hp"))
  | ((with_reducible refine' g_ownI ?gh ?gk); (case gh => walk_at "hp"))
  | ((with_reducible refine' g_recv ?gh ?gl ?gk); (case gh => walk_at "hp"); (case gl => walk_at "lk"))
  | ((with_reducible refine' g_lenS ?gh ?gk); (case gh => (have := sizeLine_eq; omega)))
  | ((with_reducible refine' ifT ?gh ?gk); (case gh => first | exact decide_eq_true (by omega) | exact nf (decide_eq_false (by omega)) | decide +kernel))
  | ((with_reducible refine' ifF ?gh ?gk); (case gh => first | exact decide_eq_false (by omega) | exact nt (decide_eq_true (by omega)) | decide +kernel)))
local macro_rules | `(tactic| walk_at "go1") => `(tactic| first
  | (with_reducible first
    | refine g_var rfl ?_
    | refine g_op ?_
    | refine g_cons ?_
    | refine g_nil ?_
    | refine g_c ?_
    | refine g_cb ?_
    | refine g_call ?_
    | refine g_seq ?_
    | refine g_asg ?_
    | refine g_name ?_
    | refine g_fld ?_
    | refine g_meth ?_
    | refine g_ifS ?_
    | refine g_if ?_
    | refine g_ret ?_
    | refine g_test ?_
    | refine g_tB ?_
    | refine g_bl ?_
    | refine g_and ?_
    | refine g_or ?_
    | refine g_not ?_
    | refine g_andV ?_
    | refine g_orV ?_
    | refine g_notV ?_
    | refine g_chain ?_
    | refine g_un ?_
    | refine g_ntup ?_
    | refine g_nlst ?_
    | refine g_drop ?_
    | refine g_next ?_
    | refine g_par ?_
    | refine g_par3 ?_
    | refine g_e2 ?_
    | refine g_e3 ?_
    | refine g_retN ?_
    | refine g_gcons ?_
    | refine g_gnil ?_
    | refine g_rI0 ?_
    | refine g_rU ?_
    | refine g_rSS ?_
    | refine g_rBB ?_
    | refine g_sib ?_
    | refine g_sii ?_
    | refine g_lc ?_
    | refine g_for ?_
    | refine g_istr ?_
    | refine g_istrv ?_
    | refine g_ilst ?_
    | refine g_itup ?_
    | refine g_irng1 ?_
    | refine g_irng2 ?_
    | refine g_ienum ?_
    | refine g_abs ?_
    | refine g_mx ?_
    | refine g_mn ?_
    | refine g_isN ?_
    | refine g_inC ?_
    | refine g_nfld ?_
    | refine g_ienT ?_
    | refine g_sl ?_
    | refine g_np ?_
    | refine g_pt ?_
    | refine g_ptv ?_
    | refine g_star ?_
    | refine g_bmL ?_)
  | walk_at "goA"
  | walk_at "goT"
  | walk_at "goB")
local macro_rules | `(tactic| walk_at "go") => `(tactic| repeat walk_at "go1")
section
variable {P : Program} {w : World} {K : PySem.W.Frag} {mg : Str → Option Value} {base : Heap}
local macro_rules | `(tactic| walk_at "goB") => `(tactic| with_reducible refine u_is_whole ?_)
/-! is_deed -/
def sp_is_deed (K : PySem.W.Frag) : Sp := fun vs H Q _ => ∃ v d, vs = [v] ∧ DeedAt K H v d ∧ DdOk d ∧ ∀ H', Same H H' → Q (.bl true) H'
theorem u_is_deed {v : V} {d : Dd} {H : Hp} {Q : VK} {E : XK} (h : DeedAt K H v d) (o : DdOk d) (q : ∀ H', Same H H' → Q (.bl true) H') : sp_is_deed K [v] H Q E := ⟨v, d, rfl, h, o, q⟩
theorem sc_is_deed : FnScope ["thing"] ["thing"] (defScope s_is_deed) := C8.fnScope_by (by decide +kernel)
theorem c_is_deed (T : Tx K mg) : C8.Cal P w K mg base 4 "is_deed" (sp_is_deed K) [] := by
  refine calD T.d_is_deed T.g_is_deed (fun _ _ _ _ _ _ us hl => match us, hl with | [_], _ => rfl) sc_is_deed (fun vs H Q E ⟨i, _, e, _⟩ => by rw [e]; rfl) fun fd cdv A outer s H vs Q E hr h => ?_
  obtain ⟨v, d, rfl, h, o, q⟩ := h
  refine ⟨_, (pss_cons (ps_if (PW.pt (pw_or (pt_not (pt_val (pe_callB call_isi rfl T.b_isinstance (by decide +kernel) (pa_cons (pv 0) (pa_cons (pe_ty (n := "tuple") rfl T.b_tuple (by decide +kernel)) pa_nil))))) (pw_or (pt_cmpR op_neI (pe_callB call_nlen rfl T.b_len (by decide +kernel) (pa_cons (pv 0) pa_nil)) pe_int (nomark _)) (pw_or (pt_not (pt_val (pe_callB call_isi rfl T.b_isinstance (by decide +kernel) (pa_cons (pe_ix ix_tup (pv 0) pe_int (fun _ _ => rfl)) (pa_cons (pe_ty (n := "str") rfl T.b_str (by decide +kernel)) pa_nil))))) (pw_or1 (pt_cmpR op_neS (pe_ix ix_tup (pv 0) pe_int (fun _ _ => rfl)) pe_str (nomark _)))))))
        (pss_one (ps_ret (C8.pe_c (c_is_plain_deed T) hr (by decide) rfl (pa_cons (pv 0) pa_nil))))
        pss_nil)
      (pss_one (ps_ret (pe_and (C8.pe_c (c_is_window T) hr (by decide) rfl (pa_cons (pe_ix ix_tup (pv 0) pe_int (fun _ _ => rfl)) pa_nil)) (pe_and (pe_or (pe_cmpR op_nisN (pe_ix ix_tup (pv 0) pe_int (fun _ _ => rfl)) pe_non (nomark _)) (pe_one (C8.pe_c (c_is_thing T) hr (by decide) rfl (pa_cons (pe_ix ix_tup (pv 0) pe_int (fun _ _ => rfl)) pa_nil)))) (pe_one (C8.pe_c (c_is_plain_deed T) hr (by decide) rfl (pa_cons (pe_ix ix_tup (pv 0) pe_int (fun _ _ => rfl)) pa_nil)))))))), ?_⟩
  walk_at "st"
  cases o with
  | pl o =>
    obtain ⟨a, rfl, h⟩ := h
    have ok := o
    cases o with
    | thing k w t hk hw ht =>
      walk_at "go"
      exact u_is_plain_deed (by walk_at "hp") ok fun H' s' => q _ (by walk_at "sm")
    | pull n h0 h1 h2 =>
      walk_at "go"
      exact u_is_plain_deed (by walk_at "hp") ok fun H' s' => q _ (by walk_at "sm")
    | walk w n hw h0 h1 h2 =>
      walk_at "go"
      exact u_is_plain_deed (by walk_at "hp") ok fun H' s' => q _ (by walk_at "sm")
    | spot k w hk hw =>
      walk_at "go"
      exact u_is_plain_deed (by walk_at "hp") ok fun H' s' => q _ (by walk_at "sm")
  | @whn w o xs hw ho ok =>
    obtain ⟨a, b, rfl, h1, h2⟩ := h
    walk_at "go"
    refine u_is_window hw ?_
    cases o with
    | none =>
      walk_at "go"
      exact u_is_plain_deed (by walk_at "hp") ok fun H' s' => q _ (by walk_at "sm")
    | some t =>
      walk_at "go"
      refine u_is_thing (ho t rfl) fun H' s' => ?_
      walk_at "go"
      exact u_is_plain_deed (by walk_at "hp") ok fun H' s' => q _ (by walk_at "sm")
/-! wholes -/
def sp_common_divisor : Sp := fun vs H Q _ => ∃ a b, vs = [.int a, .int b] ∧ Q (.int (Int.gcd a b : Int)) H
theorem u_common_divisor {a b : Int} {H : Hp} {Q : VK} {E : XK} (q : Q (.int (Int.gcd a b : Int)) H) : sp_common_divisor [.int a, .int b] H Q E := ⟨a, b, rfl, q⟩
theorem sc_common_divisor : FnScope ["one", "other"] ["one", "other"] (defScope s_common_divisor) := C8.fnScope_by (by decide +kernel)
theorem c_common_divisor (T : Tx K mg) : C8.Cal P w K mg base 1 "common_divisor" sp_common_divisor [] := by
  refine calD T.d_common_divisor T.g_common_divisor (fun _ _ _ _ _ _ us hl => match us, hl with | [_, _], _ => rfl) sc_common_divisor (fun vs H Q E ⟨i, m, e, _⟩ => by rw [e]; rfl) fun fd cdv A outer s H vs Q E hr h => ?_
  obtain ⟨a, b, rfl, q⟩ := h
  refine ⟨_, (pss_cons (ps_par (i := 0) (j := 1) rfl sc_common_divisor.nd rfl rfl (by decide) rfl rfl (pa_cons (pe_callB call_nabs rfl T.b_abs (by decide +kernel) (pa_cons (pv 0) pa_nil)) (pa_cons (pe_callB call_nabs rfl T.b_abs (by decide +kernel) (pa_cons (pv 1) pa_nil)) pa_nil)) (by rfl))
      (pss_cons (ps_while PassesOwn.never (pt_cmpR op_neI (pv 1) pe_int (nomark _))
        (pss_one (ps_par (i := 0) (j := 1) rfl sc_common_divisor.nd rfl rfl (by decide) rfl rfl (pa_cons (pv 1) (pa_cons (pe_op op_mod (pv 0) (pv 1)) pa_nil)) (by rfl))))
      (pss_one (ps_ret (pv 0))))), ?_⟩
  walk_at "st"
  walk_at "go"
  refine g_while (fun m σ' H' => ∃ x y : Nat, m = y ∧ σ' = [some (.int (x : Int)), some (.int (y : Int))] ∧ H' = H ∧ Nat.gcd x y = Int.gcd a b) b.natAbs ⟨a.natAbs, b.natAbs, rfl, rfl, rfl, rfl⟩ ?_
  rintro m σ' H' ⟨x, y, rfl, rfl, rfl, hg⟩
  walk_at "go"
  refine if2 (fun e => ?_) (fun e => ?_)
  · have hy : m ≠ 0 := fun z => by
      rw [z] at e
      simp at e
    refine ⟨fun σ2 H2 => ∃ m', m' < m ∧ ∃ x y : Nat, m' = y ∧ σ2 = [some (.int (x : Int)), some (.int (y : Int))] ∧ H2 = H' ∧ Nat.gcd x y = Int.gcd a b, fun _ _ z => z, ?_⟩
    walk_at "go"
    refine g_rI (show (0 : Int) < (m : Int) by omega) ?_
    walk_at "go"
    refine ⟨x % m, Nat.mod_lt _ (by omega), m, x % m, rfl, rfl, rfl, ?_⟩
    rw [← hg, Nat.gcd_comm x m, Nat.gcd_rec m x, Nat.gcd_comm]
  · have hy : m = 0 := by
      have : ¬ ((m : Int) ≠ 0) := by simpa using e
      omega
    subst hy
    walk_at "go"
    rw [← hg, Nat.gcd_zero_right] at q
    exact q
local macro_rules | `(tactic| walk_at "goB") => `(tactic| with_reducible refine u_common_divisor ?_)
def sp_common_multiple : Sp := fun vs H Q _ => ∃ a b : Nat, vs = [.int (a : Int), .int (b : Int)] ∧ 0 < a ∧ 0 < b ∧ a ≤ 100000 ∧ b ≤ 100000 ∧ Q (.int (Nat.lcm a b : Int)) H
theorem u_common_multiple {a b : Nat} {H : Hp} {Q : VK} {E : XK} (h1 : 0 < a) (h2 : 0 < b) (h3 : a ≤ 100000) (h4 : b ≤ 100000) (q : Q (.int (Nat.lcm a b : Int)) H) : sp_common_multiple [.int (a : Int), .int (b : Int)] H Q E := ⟨a, b, rfl, h1, h2, h3, h4, q⟩
theorem sc_common_multiple : FnScope ["one", "other"] ["one", "other"] (defScope s_common_multiple) := C8.fnScope_by (by decide +kernel)
theorem c_common_multiple (T : Tx K mg) : C8.Cal P w K mg base 2 "common_multiple" sp_common_multiple [] := by
  refine calD T.d_common_multiple T.g_common_multiple (fun _ _ _ _ _ _ us hl => match us, hl with | [_, _], _ => rfl) sc_common_multiple (fun vs H Q E ⟨i, m, e, _⟩ => by rw [e]; rfl) fun fd cdv A outer s H vs Q E hr h => ?_
  obtain ⟨a, b, rfl, h1, h2, h3, h4, q⟩ := h
  refine ⟨_, (pss_one (ps_ret (pe_op op_fdivW (pe_op op_mulW (pv 0) (pv 1)) (C8.pe_c (c_common_divisor T) hr (by decide) rfl (pa_cons (pv 0) (pa_cons (pv 1) pa_nil)))))), ?_⟩
  walk_at "st"
  walk_at "go"
  refine g_rI (wide_mul (a := 20) (b := 20) (by omega) (by omega) (by decide) (by decide) (by decide)) ?_
  walk_at "go"
  have hg : 0 < Nat.gcd a b := Nat.gcd_pos_of_pos_left _ h1
  have hg2 : Nat.gcd a b ≤ a := Nat.le_of_dvd h1 (Nat.gcd_dvd_left a b)
  refine g_rI (wide_div (b := 20) (by show (0 : Int) < (Nat.gcd a b : Int); omega) (by show Nat.gcd a b < 2 ^ 20; omega) (by decide) (by decide)) ?_
  have e : ((a : Int) * (b : Int)) / (Int.gcd (a : Int) (b : Int) : Int) = ((Nat.lcm a b : Nat) : Int) := by
    show ((a : Int) * (b : Int)) / ((Nat.gcd a b : Nat) : Int) = _
    rw [Nat.lcm]
    norm_cast
  rw [e]
  exact q
end
end RL
set_option maxHeartbeats 4000000
namespace RL
open PySem PySem.Spec PyProof.Rows L2
local macro_rules | `(tactic| walk_at "hp") => `(tactic| first
  | assumption
  | ((with_reducible refine' SqT.of ?gz); (case gz => walk_at "hp"))
  | ((with_reducible refine' SqL.of ?gz); (case gz => walk_at "hp"))
  | ((with_reducible refine' Same.seqT (by assumption) ?gz); (case gz => walk_at "hp"))
  | ((with_reducible refine' Same.seq (by assumption) ?gz); (case gz => walk_at "hp"))
  | ((with_reducible refine' s_at (by assumption) ?gz); (case gz => walk_at "hp"))
  | ((with_reducible refine' dp_mono (by assumption) ?gz); (case gz => walk_at "hp")))
local macro_rules | `(tactic| walk_at "sm") => `(tactic| first
  | assumption
  | exact Same.refl _
  | (with_reducible refine Same.trans ?_ (by assumption); walk_at "sm"))
local macro_rules | `(tactic| walk_at "st") => `(tactic| try dsimp only [cxOf, L2.Cx.nox, L2.Cx.wish])
local macro_rules | `(tactic| walk_at "sz") => `(tactic| (have := sizeLine_eq; (try simp only [List.length_append, List.length_map, List.length_take, List.length_drop, List.length_cons, List.length_nil]); omega))
local macro_rules | `(tactic| walk_at "lk") => `(tactic| fail)
local macro_rules | `(tactic| walk_at "goB") => `(tactic| fail)
local macro_rules | `(tactic| walk_at "goT") => `(tactic| fail)
local macro_rules | `(tactic| walk_at "goA") => `(tactic| first
  | (with_reducible first
    | refine ifT rfl ?_
    | refine ifF rfl ?_)
  | ((with_reducible refine' g_gtup ?gh ?gl ?gk); (case gh => walk_at "hp"); (case gl => rfl))
  | ((with_reducible refine' g_ixT ?gh ?gl ?gk); (case gh => walk_at "hp"); (case gl => first | rfl | assumption))
  | ((with_reducible refine' g_ixL ?gh ?gl ?gk); (case gh => walk_at "hp"); (case gl => first | rfl | assumption))
  | ((with_reducible refine' g_lenT ?gh ?gk); (case gh => walk_at "hp"))
  | ((with_reducible refine' g_lenL ?gh ?gk); (case gh => walk_at "hp"))
  | ((with_reducible refine' g_inT ?gh ?gf ?gl ?gk); (case gh => walk_at "hp"); (case gf => rfl); (case gl => rfl))
  | ((with_reducible refine' g_isi (d := true) ?gh ?gl ?gk); (case gh => first | exact ty_tup (by walk_at "hp") | exact .base (.int _) | exact .base (.str _)); (case gl => exact kit_ty (by decide +kernel)))
  | ((with_reducible refine' g_isi (d := false) ?gh ?gl ?gk); (case gh => first | exact ty_tup (by walk_at "hp") | exact .base (.int _) | exact .base (.str _)); (case gl => exact kit_ty (by decide +kernel)))
  | ((with_reducible refine' g_new ?gl ?gk); (case gl => first | exact Nat.le_of_ble_eq_true rfl | walk_at "sz"))
  | ((with_reducible refine' g_ilstv ?gh ?gk); (case gh => walk_at "hp"))
  | ((with_reducible refine' g_itupv ?gh ?gk); (case gh => walk_at "hp"))
  | ((with_reducible refine' g_ienumv ?gh ?gk); (case gh => walk_at "hp"))
  | ((with_reducible refine' g_ienTv ?gh ?gk); (case gh => walk_at "hp"))
  | ((with_reducible refine' g_slT ?gh ?gk); (case gh => walk_at "hp"); intro _ _ _ _)
  | ((with_reducible refine' g_slL ?gh ?gk); (case gh => walk_at "hp"))
  | ((with_reducible refine' g_catT ?gh ?gl ?gm ?gk); (case gh => walk_at "hp"); (case gl => walk_at "hp"); (case gm => walk_at "sz"); intro _ _ _ _)
  | ((with_reducible refine' g_catL ?gh ?gl ?gm ?gk); (case gh => walk_at "hp"); (case gl => walk_at "hp"); (case gm => walk_at "sz"))
  | ((with_reducible refine' g_tupL ?gh ?gk); (case gh => walk_at "hp"); intro _ _ _ _)
  | ((with_reducible refine' g_tupT ?gh ?gk); (case gh => walk_at "hp"); intro _ _ _ _)
  | ((with_reducible refine' g_starT ?gh ?gk); (case gh => walk_at "hp"))
  | ((with_reducible refine' g_starL ?gh ?gk); (case gh => walk_at "hp"))
  | ((with_reducible refine' g_tyL ?gh ?gk); (case gh => walk_at "hp"))
  | ((with_reducible refine' g_app ?gh ?gl ?gk); (case gh => walk_at "hp"); (case gl => walk_at "sz"))
  | ((with_reducible refine' g_inL ?gh ?gf ?gl ?gk); (case gh => walk_at "hp"); (case gf => rfl); (case gl => first | rfl | assumption))
  | ((with_reducible refine' g_irng1v ?gh ?gl ?gk); (case gh => omega); (case gl => omega))
  | ((with_reducible refine' g_irng2v ?gh ?gk); (case gh => omega))
  | ((with_reducible refine g_NewT ?_); intro _ _ _ _ _)
  | ((with_reducible refine' g_fldv ?gh ?gc ?gn ?gl ?gk); (case gh => walk_at "hp"); (case gc => assumption); (case gn => assumption); (case gl => first | rfl | walk_at "lk"))
  | ((with_reducible refine' g_fldw ?gh ?gc ?gn ?gl ?gk); (case gh => walk_at "hp"); (case gc => assumption); (case gn => assumption); (case gl => exact Nat.le_of_ble_eq_true rfl))
  | ((with_reducible refine' g_own2 ?gh ?gl ?gk); (case gh => walk_at "hp"); (case gl => walk_at "hp"))
  | ((with_reducible refine' g_own1 ?gh ?gk); (case gh => walk_at "hp"))
  | ((with_reducible refine' g_ownI ?gh ?gk); (case gh => walk_at "hp"))
  | ((with_reducible refine' g_recv ?gh ?gl ?gk); (case gh => walk_at "hp"); (case gl => walk_at "lk"))
  | ((with_reducible refine' g_lenS ?gh ?gk); (case gh => (have := sizeLine_eq; omega)))
  | ((with_reducible refine' ifT ?gh ?gk); (case gh => first | exact decide_eq_true (by omega) | exact nf (decide_eq_false (by omega)) | decide +kernel))
  | ((with_reducible refine' ifF ?gh ?gk); (case gh => first | exact decide_eq_false (by omega) | exact nt (decide_eq_true (by omega)) | decide +kernel)))
local macro_rules | `(tactic| walk_at "go1") => `(tactic| first
  | (with_reducible first
    | refine g_var rfl ?_
    | refine g_op ?_
    | refine g_cons ?_
    | refine g_nil ?_
    | refine g_c ?_
    | refine g_cb ?_
    | refine g_call ?_
    | refine g_seq ?_
    | refine g_asg ?_
    | refine g_name ?_
    | refine g_fld ?_
    | refine g_meth ?_
    | refine g_ifS ?_
    | refine g_if ?_
    | refine g_ret ?_
    | refine g_test ?_
    | refine g_tB ?_
    | refine g_bl ?_
    | refine g_and ?_
    | refine g_or ?_
    | refine g_not ?_
    | refine g_andV ?_
    | refine g_orV ?_
    | refine g_notV ?_
    | refine g_chain ?_
    | refine g_un ?_
    | refine g_ntup ?_
    | refine g_nlst ?_
    | refine g_drop ?_
    | refine g_next ?_
    | refine g_par ?_
    | refine g_par3 ?_
    | refine g_e2 ?_
    | refine g_e3 ?_
    | refine g_retN ?_
    | refine g_gcons ?_
    | refine g_gnil ?_
    | refine g_rI0 ?_
    | refine g_rU ?_
    | refine g_rSS ?_
    | refine g_rBB ?_
    | refine g_sib ?_
    | refine g_sii ?_
    | refine g_lc ?_
    | refine g_for ?_
    | refine g_istr ?_
    | refine g_istrv ?_
    | refine g_ilst ?_
    | refine g_itup ?_
    | refine g_irng1 ?_
    | refine g_irng2 ?_
    | refine g_ienum ?_
    | refine g_abs ?_
    | refine g_mx ?_
    | refine g_mn ?_
    | refine g_isN ?_
    | refine g_inC ?_
    | refine g_nfld ?_
    | refine g_ienT ?_
    | refine g_sl ?_
    | refine g_np ?_
    | refine g_pt ?_
    | refine g_ptv ?_
    | refine g_star ?_
    | refine g_bmL ?_)
  | walk_at "goA"
  | walk_at "goT"
  | walk_at "goB")
local macro_rules | `(tactic| walk_at "go") => `(tactic| repeat walk_at "go1")
/-! forms -/
abbrev F3 : Type := Int × Int × Int
def nrm (a b q : Int) : F3 := (a / (Int.gcd (Int.gcd a b) q : Int), b / (Int.gcd (Int.gcd a b) q : Int), q / (Int.gcd (Int.gcd a b) q : Int))
def FormAt (K : PySem.W.Frag) (H : Hp) (p : Addr) (f : F3) : Prop := ∃ dx t, H p = some (.ins (He.ga K "Form") dx [("row", .ref t)]) ∧ SqT K H t [.int f.1, .int f.2.1, .int f.2.2]
theorem FormAt.mono {K : PySem.W.Frag} {H H' : Hp} {p : Addr} {f : F3} (e : Same H H') : FormAt K H p f → FormAt K H' p f := fun ⟨dx, t, h1, h2⟩ => ⟨dx, t, e _ _ h1, Same.seqT e h2⟩
theorem lk_row {v : V} : ([("row", v)] : List (Str × V)).lookup ("row" : Str) = some v := by simp [List.lookup]
local macro_rules | `(tactic| walk_at "lk") => `(tactic| exact lk_row)
section
variable {P : Program} {w : World} {K : PySem.W.Frag} {mg : Str → Option Value} {base : Heap}
local macro_rules | `(tactic| walk_at "goB") => `(tactic| with_reducible refine u_is_whole ?_)
local macro_rules | `(tactic| walk_at "goB") => `(tactic| with_reducible refine u_common_divisor ?_)
theorem gcd3_pos {a b q : Int} (hq : 0 < q) : (0 : Int) < (Int.gcd (Int.gcd a b : Int) q : Int) := by
  have : 0 < Int.gcd (Int.gcd a b : Int) q := Int.gcd_pos_of_ne_zero_right _ (by omega)
  omega
theorem gcd3_le {a b q : Int} (hq : 0 < q) : (Int.gcd (Int.gcd a b : Int) q : Int) ≤ q := Int.le_of_dvd hq (Int.gcd_dvd_right ..)
def spI_Form (K : PySem.W.Frag) : Sp := fun vs H Q _ => ∃ p dx a b q, vs = [.ref p, .int a, .int b, .int q] ∧ 0 < q ∧ q < 2 ^ 8000 ∧ H p = some (.ins (He.ga K "Form") dx []) ∧
  ∀ H' t, But p H H' → H' p = some (.ins (He.ga K "Form") dx [("row", .ref t)]) → SqT K H' t [.int (nrm a b q).1, .int (nrm a b q).2.1, .int (nrm a b q).2.2] → Q .non H'
theorem sc_Form_init : FnScope ["self", "a", "b", "q", "common"] ["self", "a", "b", "q"] (defScope s_Form_init) := C8.fnScope_by (by decide +kernel)
theorem i_Form (T : Tx K mg) : C8.Mak P w K mg base 2 "Form" (He.ga K "Form") (spI_Form K) [] := by
  refine makD (k := 1) (j := 2) (n := 4) T.d_Form_init T.mk_Form T.g_Form (by simp) rfl (fun T kV doc pm an cdv ct us its hu hi => match us, hu, its, hi with | [_, _, _, _], _, [_, _], _ => ⟨_, rfl, rfl⟩) sc_Form_init
    (fun vs H Q E ⟨_, _, _, _, _, e, _⟩ => by rw [e]; rfl) fun fd cdv A outer s H vs Q E hr h => ?_
  obtain ⟨p, dx, a, b, q, rfl, hq, hq2, hp, k⟩ := h
  refine ⟨_, (pss_cons (ps_if (PW.pt (pw_or (pt_not (pt_val (C8.pe_c (c_is_whole T) hr (by decide) rfl (pa_cons (pv 1) pa_nil)))) (pw_or (pt_not (pt_val (C8.pe_c (c_is_whole T) hr (by decide) rfl (pa_cons (pv 2) pa_nil)))) (pw_or (pt_not (pt_val (C8.pe_c (c_is_whole T) hr (by decide) rfl (pa_cons (pv 3) pa_nil)))) (pw_or1 (pt_cmpR op_lt (pv 3) pe_int (nomark _)))))))
        (pss_one ps_never)
        pss_nil)
      (pss_cons (ps_set (i := 4) sc_Form_init.nd rfl (Or.inl rfl) (C8.pe_c (c_common_divisor T) hr (by decide) rfl (pa_cons (C8.pe_c (c_common_divisor T) hr (by decide) rfl (pa_cons (pv 1) (pa_cons (pv 2) pa_nil))) (pa_cons (pv 3) pa_nil))))
      (pss_one (ps_nfld (pv 0) (pe_ntup (pa_cons (pe_op op_fdivW (pv 1) (pv 4)) (pa_cons (pe_op op_fdivW (pv 2) (pv 4)) (pa_cons (pe_op op_fdivW (pv 3) (pv 4)) pa_nil)))) rfl)))), ?_⟩
  walk_at "st"
  have lF := T.l_Form
  have nF := T.n_Form_row
  have hg := gcd3_pos (a := a) (b := b) hq
  have hg2 := gcd3_le (a := a) (b := b) hq
  walk_at "go"
  have cd : ∀ i, CDivW i (Int.gcd (Int.gcd a b : Int) q : Int) := fun i => wide_div (b := 8000) hg (by omega) (by decide) (by decide)
  refine g_rI (cd a) ?_
  walk_at "go"
  refine g_rI (cd b) ?_
  walk_at "go"
  refine g_rI (cd q) ?_
  walk_at "go"
  rename_i t H2 ht s2 h2
  intro H3 b3 h3
  have hpt : p ≠ t := ne_of_none hp ht
  refine k H3 t ((But.of s2).trans b3) h3 ?_
  exact SqT.of (b3 t _ (Ne.symm hpt) h2)
def sp_Form (K : PySem.W.Frag) : Sp := fun vs H Q _ => ∃ a b q, vs = [.int a, .int b, .int q] ∧ 0 < q ∧ q < 2 ^ 8000 ∧ ∀ p H', Same H H' → H p = none → FormAt K H' p (nrm a b q) → Q (.ref p) H'
theorem u_Form {a b q : Int} {H : Hp} {Q : VK} {E : XK} (h1 : 0 < q) (h2 : q < 2 ^ 8000) (k : ∀ p H', Same H H' → H p = none → FormAt K H' p (nrm a b q) → Q (.ref p) H') : sp_Form K [.int a, .int b, .int q] H Q E := ⟨a, b, q, rfl, h1, h2, k⟩
theorem m_Form (T : Tx K mg) : MkM P w K mg base 2 "Form" (sp_Form K) := by
  refine ⟨_, _, _, i_Form T, fun vs H Q ⟨a, b, q, e, h1, h2, k⟩ p dx hp hdx ne => ?_⟩
  subst e
  refine ⟨p, dx, a, b, q, rfl, h1, h2, upd_same, fun H' t bt h3 h4 => ⟨rfl, k p H' ?_ hp ⟨dx, t, h3, h4⟩⟩⟩
  exact bt.same (fun b o e => by rw [upd_ne (ne_of_none e hp), upd_ne (ne_of_none e hdx)]; exact e) hp
/-! its methods -/
def sp_Form_parts (K : PySem.W.Frag) : Sp := fun vs H Q _ => ∃ p dx t, vs = [.ref p] ∧ H p = some (.ins (He.ga K "Form") dx [("row", .ref t)]) ∧ Q (.ref t) H
theorem u_Form_parts {p dx t : Addr} {H : Hp} {Q : VK} {E : XK} (h : H p = some (.ins (He.ga K "Form") dx [("row", .ref t)])) (q : Q (.ref t) H) : sp_Form_parts K [.ref p] H Q E := ⟨p, dx, t, rfl, h, q⟩
theorem sc_Form_parts : FnScope ["self"] ["self"] (defScope s_Form_parts) := C8.fnScope_by (by decide +kernel)
theorem c_Form_parts (T : Tx K mg) : C8.Met P w K mg base 1 (He.ga K "Form") "parts" (sp_Form_parts K) [] := by
  refine metD T.d_Form_parts T.l_Form T.me_Form_parts (fun _ _ _ _ _ _ us hl => match us, hl with | [_], _ => rfl) sc_Form_parts (fun vs H Q E ⟨_, _, _, e, _⟩ => by rw [e]; rfl) fun fd cdv A outer s H vs Q E hr h => ?_
  obtain ⟨p, dx, t, rfl, hp, q⟩ := h
  refine ⟨_, (pss_one (ps_ret (pe_fld (pv 0) rfl))), ?_⟩
  walk_at "st"
  have lF := T.l_Form
  have nF := T.n_Form_row
  walk_at "go"
  exact q
local macro_rules | `(tactic| walk_at "goB") => `(tactic| ((with_reducible refine' u_Form_parts ?gh ?gk); (case gh => walk_at "hp")))
def sp_form_of (K : PySem.W.Frag) : Sp := fun vs H Q _ => ∃ p dx fs, vs = [.ref p] ∧ H p = some (.ins (He.ga K "Form") dx fs) ∧ Q (.ref p) H
theorem u_form_of {p dx : Addr} {fs : List (Str × V)} {H : Hp} {Q : VK} {E : XK} (h : H p = some (.ins (He.ga K "Form") dx fs)) (q : Q (.ref p) H) : sp_form_of K [.ref p] H Q E := ⟨p, dx, fs, rfl, h, q⟩
theorem sc_form_of : FnScope ["thing"] ["thing"] (defScope s_form_of) := C8.fnScope_by (by decide +kernel)
theorem ty_ins {H : Hp} {p C dx : Addr} {fs : List (Str × V)} (c : C8.InsC K C) (h : H p = some (.ins C dx fs)) : TyX K H (.ref p) (.ref C) := .base (.ins h c.cl c.ha c.hn c.htk c.hm)
theorem c_form_of (T : Tx K mg) : C8.Cal P w K mg base 1 "form_of" (sp_form_of K) [] := by
  refine calD T.d_form_of T.g_form_of (fun _ _ _ _ _ _ us hl => match us, hl with | [_], _ => rfl) sc_form_of (fun vs H Q E ⟨_, _, _, e, _⟩ => by rw [e]; rfl) fun fd cdv A outer s H vs Q E hr h => ?_
  obtain ⟨p, dx, fs, rfl, hp, q⟩ := h
  refine ⟨_, (pss_one (ps_ret (pe_ifExp (pt_val (pe_callB call_isi rfl T.b_isinstance (by decide +kernel) (pa_cons (pv 0) (pa_cons (C8.pe_gc (v := .ref (He.ga K "Form")) rfl ⟨_, T.g_Form, rfl⟩) pa_nil)))) (pv 0) pe_nev))), ?_⟩
  walk_at "st"
  walk_at "go"
  refine g_isiC (ty_ins T.is_Form hp) T.is_Form.me ?_
  walk_at "go"
  exact q
local macro_rules | `(tactic| walk_at "goB") => `(tactic| ((with_reducible refine' u_form_of ?gh ?gk); (case gh => walk_at "hp")))
def sp_parts_of (K : PySem.W.Frag) : Sp := fun vs H Q _ => ∃ p dx t, vs = [.ref p] ∧ H p = some (.ins (He.ga K "Form") dx [("row", .ref t)]) ∧ Q (.ref t) H
theorem u_parts_of {p dx t : Addr} {H : Hp} {Q : VK} {E : XK} (h : H p = some (.ins (He.ga K "Form") dx [("row", .ref t)])) (q : Q (.ref t) H) : sp_parts_of K [.ref p] H Q E := ⟨p, dx, t, rfl, h, q⟩
theorem sc_parts_of : FnScope ["thing"] ["thing"] (defScope s_parts_of) := C8.fnScope_by (by decide +kernel)
theorem lk_parts {v : V} : ([("row", v)] : List (Str × V)).lookup ("parts" : Str) = none := by
  rw [List.lookup_cons, show (("parts" : Str) == ("row" : Str)) = false by decide +kernel]
  rfl
local macro_rules | `(tactic| walk_at "lk") => `(tactic| exact lk_parts)
theorem c_parts_of (T : Tx K mg) : C8.Cal P w K mg base 2 "parts_of" (sp_parts_of K) [] := by
  refine calD T.d_parts_of T.g_parts_of (fun _ _ _ _ _ _ us hl => match us, hl with | [_], _ => rfl) sc_parts_of (fun vs H Q E ⟨_, _, _, e, _⟩ => by rw [e]; rfl) fun fd cdv A outer s H vs Q E hr h => ?_
  obtain ⟨p, dx, t, rfl, hp, q⟩ := h
  refine ⟨_, (pss_one (ps_ret (C8.pe_mt0 (c_Form_parts T) hr (by decide) (C8.pe_c (c_form_of T) hr (by decide) rfl (pa_cons (pv 0) pa_nil))))), ?_⟩
  walk_at "st"
  walk_at "go"
  exact q
local macro_rules | `(tactic| walk_at "goB") => `(tactic| ((with_reducible refine' u_parts_of ?gh ?gk); (case gh => walk_at "hp")))
end
end RL
set_option maxHeartbeats 4000000
namespace RL
open PySem PySem.Spec PyProof.Rows L2
local macro_rules | `(tactic| walk_at "hp") => `(tactic| first
  | assumption
  | ((with_reducible refine' SqT.of ?gz); (case gz => walk_at "hp"))
  | ((with_reducible refine' SqL.of ?gz); (case gz => walk_at "hp"))
  | ((with_reducible refine' Same.seqT (by assumption) ?gz); (case gz => walk_at "hp"))
  | ((with_reducible refine' Same.seq (by assumption) ?gz); (case gz => walk_at "hp"))
  | ((with_reducible refine' s_at (by assumption) ?gz); (case gz => walk_at "hp"))
  | ((with_reducible refine' dp_mono (by assumption) ?gz); (case gz => walk_at "hp")))
local macro_rules | `(tactic| walk_at "sm") => `(tactic| first
  | assumption
  | exact Same.refl _
  | (with_reducible refine Same.trans ?_ (by assumption); walk_at "sm"))
local macro_rules | `(tactic| walk_at "st") => `(tactic| try dsimp only [cxOf, L2.Cx.nox, L2.Cx.wish])
local macro_rules | `(tactic| walk_at "sz") => `(tactic| (have := sizeLine_eq; (try simp only [List.length_append, List.length_map, List.length_take, List.length_drop, List.length_cons, List.length_nil]); omega))
local macro_rules | `(tactic| walk_at "lk") => `(tactic| fail)
local macro_rules | `(tactic| walk_at "goB") => `(tactic| fail)
local macro_rules | `(tactic| walk_at "goT") => `(tactic| fail)
local macro_rules | `(tactic| walk_at "goA") => `(tactic| first
  | (with_reducible first
    | refine ifT rfl ?_
    | refine ifF rfl ?_)
  | ((with_reducible refine' g_gtup ?gh ?gl ?gk); (case gh => walk_at "hp"); (case gl => rfl))
  | ((with_reducible refine' g_ixT ?gh ?gl ?gk); (case gh => walk_at "hp"); (case gl => first | rfl | assumption))
  | ((with_reducible refine' g_ixL ?gh ?gl ?gk); (case gh => walk_at "hp"); (case gl => first | rfl | assumption))
  | ((with_reducible refine' g_lenT ?gh ?gk); (case gh => walk_at "hp"))
  | ((with_reducible refine' g_lenL ?gh ?gk); (case gh => walk_at "hp"))
  | ((with_reducible refine' g_inT ?gh ?gf ?gl ?gk); (case gh => walk_at "hp"); (case gf => rfl); (case gl => rfl))
  | ((with_reducible refine' g_isi (d := true) ?gh ?gl ?gk); (case gh => first | exact ty_tup (by walk_at "hp") | exact .base (.int _) | exact .base (.str _)); (case gl => exact kit_ty (by decide +kernel)))
  | ((with_reducible refine' g_isi (d := false) ?gh ?gl ?gk); (case gh => first | exact ty_tup (by walk_at "hp") | exact .base (.int _) | exact .base (.str _)); (case gl => exact kit_ty (by decide +kernel)))
  | ((with_reducible refine' g_new ?gl ?gk); (case gl => first | exact Nat.le_of_ble_eq_true rfl | walk_at "sz"))
  | ((with_reducible refine' g_ilstv ?gh ?gk); (case gh => walk_at "hp"))
  | ((with_reducible refine' g_itupv ?gh ?gk); (case gh => walk_at "hp"))
  | ((with_reducible refine' g_ienumv ?gh ?gk); (case gh => walk_at "hp"))
  | ((with_reducible refine' g_ienTv ?gh ?gk); (case gh => walk_at "hp"))
  | ((with_reducible refine' g_slT ?gh ?gk); (case gh => walk_at "hp"); intro _ _ _ _)
  | ((with_reducible refine' g_slL ?gh ?gk); (case gh => walk_at "hp"))
  | ((with_reducible refine' g_catT ?gh ?gl ?gm ?gk); (case gh => walk_at "hp"); (case gl => walk_at "hp"); (case gm => walk_at "sz"); intro _ _ _ _)
  | ((with_reducible refine' g_catL ?gh ?gl ?gm ?gk); (case gh => walk_at "hp"); (case gl => walk_at "hp"); (case gm => walk_at "sz"))
  | ((with_reducible refine' g_tupL ?gh ?gk); (case gh => walk_at "hp"); intro _ _ _ _)
  | ((with_reducible refine' g_tupT ?gh ?gk); (case gh => walk_at "hp"); intro _ _ _ _)
  | ((with_reducible refine' g_starT ?gh ?gk); (case gh => walk_at "hp"))
  | ((with_reducible refine' g_starL ?gh ?gk); (case gh => walk_at "hp"))
  | ((with_reducible refine' g_tyL ?gh ?gk); (case gh => walk_at "hp"))
  | ((with_reducible refine' g_app ?gh ?gl ?gk); (case gh => walk_at "hp"); (case gl => walk_at "sz"))
  | ((with_reducible refine' g_inL ?gh ?gf ?gl ?gk); (case gh => walk_at "hp"); (case gf => rfl); (case gl => first | rfl | assumption))
  | ((with_reducible refine' g_irng1v ?gh ?gl ?gk); (case gh => omega); (case gl => omega))
  | ((with_reducible refine' g_irng2v ?gh ?gk); (case gh => omega))
  | ((with_reducible refine g_NewT ?_); intro _ _ _ _ _)
  | ((with_reducible refine' g_fldv ?gh ?gc ?gn ?gl ?gk); (case gh => walk_at "hp"); (case gc => assumption); (case gn => assumption); (case gl => first | rfl | walk_at "lk"))
  | ((with_reducible refine' g_fldw ?gh ?gc ?gn ?gl ?gk); (case gh => walk_at "hp"); (case gc => assumption); (case gn => assumption); (case gl => exact Nat.le_of_ble_eq_true rfl))
  | ((with_reducible refine' g_own2 ?gh ?gl ?gk); (case gh => walk_at "hp"); (case gl => walk_at "hp"))
  | ((with_reducible refine' g_own1 ?gh ?gk); (case gh => walk_at "hp"))
  | ((with_reducible refine' g_ownI ?gh ?gk); (case gh => walk_at "hp"))
  | ((with_reducible refine' g_recv ?gh ?gl ?gk); (case gh => walk_at "hp"); (case gl => walk_at "lk"))
  | ((with_reducible refine' g_lenS ?gh ?gk); (case gh => (have := sizeLine_eq; omega)))
  | ((with_reducible refine' ifT ?gh ?gk); (case gh => first | exact decide_eq_true (by omega) | exact nf (decide_eq_false (by omega)) | decide +kernel))
  | ((with_reducible refine' ifF ?gh ?gk); (case gh => first | exact decide_eq_false (by omega) | exact nt (decide_eq_true (by omega)) | decide +kernel)))
local macro_rules | `(tactic| walk_at "go1") => `(tactic| first
  | (with_reducible first
    | refine g_var rfl ?_
    | refine g_op ?_
    | refine g_cons ?_
    | refine g_nil ?_
    | refine g_c ?_
    | refine g_cb ?_
    | refine g_call ?_
    | refine g_seq ?_
    | refine g_asg ?_
    | refine g_name ?_
    | refine g_fld ?_
    | refine g_meth ?_
    | refine g_ifS ?_
    | refine g_if ?_
    | refine g_ret ?_
    | refine g_test ?_
    | refine g_tB ?_
    | refine g_bl ?_
    | refine g_and ?_
    | refine g_or ?_
    | refine g_not ?_
    | refine g_andV ?_
    | refine g_orV ?_
    | refine g_notV ?_
    | refine g_chain ?_
    | refine g_un ?_
    | refine g_ntup ?_
    | refine g_nlst ?_
    | refine g_drop ?_
    | refine g_next ?_
    | refine g_par ?_
    | refine g_par3 ?_
    | refine g_e2 ?_
    | refine g_e3 ?_
    | refine g_retN ?_
    | refine g_gcons ?_
    | refine g_gnil ?_
    | refine g_rI0 ?_
    | refine g_rU ?_
    | refine g_rSS ?_
    | refine g_rBB ?_
    | refine g_sib ?_
    | refine g_sii ?_
    | refine g_lc ?_
    | refine g_for ?_
    | refine g_istr ?_
    | refine g_istrv ?_
    | refine g_ilst ?_
    | refine g_itup ?_
    | refine g_irng1 ?_
    | refine g_irng2 ?_
    | refine g_ienum ?_
    | refine g_abs ?_
    | refine g_mx ?_
    | refine g_mn ?_
    | refine g_isN ?_
    | refine g_inC ?_
    | refine g_nfld ?_
    | refine g_ienT ?_
    | refine g_sl ?_
    | refine g_np ?_
    | refine g_pt ?_
    | refine g_ptv ?_
    | refine g_star ?_
    | refine g_bmL ?_)
  | walk_at "goA"
  | walk_at "goT"
  | walk_at "goB")
local macro_rules | `(tactic| walk_at "go") => `(tactic| repeat walk_at "go1")
local macro_rules | `(tactic| walk_at "lk") => `(tactic| exact lk_row)
local macro_rules | `(tactic| walk_at "lk") => `(tactic| exact lk_parts)
section
variable {P : Program} {w : World} {K : PySem.W.Frag} {mg : Str → Option Value} {base : Heap}
local macro_rules | `(tactic| walk_at "goB") => `(tactic| ((with_reducible refine' u_Form_parts ?gh ?gk); (case gh => walk_at "hp")))
local macro_rules | `(tactic| walk_at "goB") => `(tactic| ((with_reducible refine' u_form_of ?gh ?gk); (case gh => walk_at "hp")))
local macro_rules | `(tactic| walk_at "goB") => `(tactic| ((with_reducible refine' u_parts_of ?gh ?gk); (case gh => walk_at "hp")))
/-! == -/
def sp_Form_eq (K : PySem.W.Frag) : Sp := fun vs H Q _ => ∃ p q f, vs = [.ref p, .ref q] ∧ FormAt K H p f ∧ FormAt K H q f ∧ Q (.bl true) H
theorem u_Form_eq {p q : Addr} {f : F3} {H : Hp} {Q : VK} {E : XK} (h1 : FormAt K H p f) (h2 : FormAt K H q f) (k : Q (.bl true) H) : sp_Form_eq K [.ref p, .ref q] H Q E := ⟨p, q, f, rfl, h1, h2, k⟩
theorem sc_Form_eq : FnScope ["self", "other"] ["self", "other"] (defScope s_Form_eq) := C8.fnScope_by (by decide +kernel)
theorem dp_ints {H : Hp} {t : Addr} {a b c : Int} (h : SqT K H t [.int a, .int b, .int c]) : Dp K H (.ref t) (.tuple [.int a, .int b, .int c]) := .tup h (.cons (.int a) (.cons (.int b) (.cons (.int c) .nil)))
theorem c_Form_eq (T : Tx K mg) : C8.Met P w K mg base 1 (He.ga K "Form") "__eq__" (sp_Form_eq K) [] := by
  refine metD T.d_Form_eq T.l_Form T.me_Form_eq (fun _ _ _ _ _ _ us hl => match us, hl with | [_, _], _ => rfl) sc_Form_eq (fun vs H Q E ⟨_, _, _, e, _⟩ => by rw [e]; rfl) fun fd cdv A outer s H vs Q E hr h => ?_
  obtain ⟨p, q, f, rfl, ⟨dx, t, hp, ht⟩, ⟨dy, u, hq, hu⟩, k⟩ := h
  refine ⟨_, (pss_one (ps_ret (pe_and (pe_callB call_isi rfl T.b_isinstance (by decide +kernel) (pa_cons (pv 1) (pa_cons (C8.pe_gc (v := .ref (He.ga K "Form")) rfl ⟨_, T.g_Form, rfl⟩) pa_nil))) (pe_one (pe_cmpR (op_eqD hr.units) (pe_fld (pv 0) rfl) (pe_fld (pv 1) rfl) (nomark _)))))), ?_⟩
  walk_at "st"
  have lF := T.l_Form
  have nF := T.n_Form_row
  walk_at "go"
  refine g_isiC (ty_ins T.is_Form hq) T.is_Form.me ?_
  walk_at "go"
  have sh : SeqAt.shaped (.tuple [.int f.1, .int f.2.1, .int f.2.2]) = true := by simp [SeqAt.shaped, PyData.canLay0, PyData.canLayAll0, PyData.depth, PyData.depthAll]
  refine ⟨_, _, dp_ints ht, dp_ints hu, sh, sh, ?_⟩
  rw [show PyData.eqv (.tuple [.int f.1, .int f.2.1, .int f.2.2]) (.tuple [.int f.1, .int f.2.1, .int f.2.2]) = true by simp [PyData.eqv, PyData.eqvAll]]
  exact k
theorem o_Form_eq {X : Cx} {j : Nat} (T : Tx X.K X.mg) (hr : Room j X.A) (hk : 1 ≤ j) : OpR X (compareOp .Eq) (rOwn2 (He.ga X.K "Form") (sp_Form_eq X.K)) := op_eq2 (c_Form_eq T) T.nf_Form hr hk
/-! +, -, * -/
structure FBd (n : Nat) (f : F3) : Prop where
  a : f.1.natAbs < 2 ^ n
  b : f.2.1.natAbs < 2 ^ n
  q0 : 0 < f.2.2
  q : f.2.2.natAbs < 2 ^ n
def addF (f g : F3) : F3 := nrm (f.1 * g.2.2 + g.1 * f.2.2) (f.2.1 * g.2.2 + g.2.1 * f.2.2) (f.2.2 * g.2.2)
def negF (f : F3) : F3 := nrm (-f.1) (-f.2.1) f.2.2
def mulF (f : F3) (n : Int) : F3 := nrm (f.1 * n) (f.2.1 * n) f.2.2
def sp_Form_add (K : PySem.W.Frag) : Sp := fun vs H Q _ => ∃ p q f g, vs = [.ref p, .ref q] ∧ FormAt K H p f ∧ FormAt K H q g ∧ FBd 3000 f ∧ FBd 3000 g ∧ ∀ r H', Same H H' → H r = none → FormAt K H' r (addF f g) → Q (.ref r) H'
theorem u_Form_add {p q : Addr} {f g : F3} {H : Hp} {Q : VK} {E : XK} (h1 : FormAt K H p f) (h2 : FormAt K H q g) (b1 : FBd 3000 f) (b2 : FBd 3000 g) (k : ∀ r H', Same H H' → H r = none → FormAt K H' r (addF f g) → Q (.ref r) H') : sp_Form_add K [.ref p, .ref q] H Q E := ⟨p, q, f, g, rfl, h1, h2, b1, b2, k⟩
theorem sc_Form_add : FnScope ["self", "other", "a", "b", "q", "c", "e", "r"] ["self", "other"] (defScope s_Form_add) := C8.fnScope_by (by decide +kernel)
theorem c_Form_add (T : Tx K mg) : C8.Met P w K mg base 4 (He.ga K "Form") "__add__" (sp_Form_add K) [] := by
  refine metD T.d_Form_add T.l_Form T.me_Form_add (fun _ _ _ _ _ _ us hl => match us, hl with | [_, _], _ => rfl) sc_Form_add (fun vs H Q E ⟨_, _, _, _, e, _⟩ => by rw [e]; rfl) fun fd cdv A outer s H vs Q E hr h => ?_
  obtain ⟨p, q, f, g, rfl, ⟨dx, t, hp, ht⟩, ⟨dy, u, hq, hu⟩, b1, b2, k⟩ := h
  refine ⟨_, (pss_cons (ps_asg (pe_fld (pv 0) rfl) (pg_tup rfl (pgs_cons (pg_name (i := 2) sc_Form_add.nd rfl (Or.inl rfl)) (pgs_cons (pg_name (i := 3) sc_Form_add.nd rfl (Or.inl rfl)) (pgs_cons (pg_name (i := 4) sc_Form_add.nd rfl (Or.inl rfl)) pgs_nil)))))
      (pss_cons (ps_asg (C8.pe_c (c_parts_of T) hr (by decide) rfl (pa_cons (pv 1) pa_nil)) (pg_tup rfl (pgs_cons (pg_name (i := 5) sc_Form_add.nd rfl (Or.inl rfl)) (pgs_cons (pg_name (i := 6) sc_Form_add.nd rfl (Or.inl rfl)) (pgs_cons (pg_name (i := 7) sc_Form_add.nd rfl (Or.inl rfl)) pgs_nil)))))
      (pss_one (ps_ret (pe_cm (m_Form T) hr (by decide) rfl (pa_cons (pe_op op_add (pe_op op_mulW (pv 2) (pv 7)) (pe_op op_mulW (pv 5) (pv 4))) (pa_cons (pe_op op_add (pe_op op_mulW (pv 3) (pv 7)) (pe_op op_mulW (pv 6) (pv 4))) (pa_cons (pe_op op_mulW (pv 4) (pv 7)) pa_nil)))))))), ?_⟩
  walk_at "st"
  have lF := T.l_Form
  have nF := T.n_Form_row
  have mw : ∀ {i j : Int}, i.natAbs < 2 ^ 3000 → j.natAbs < 2 ^ 3000 → CMulW i j := fun hi hj => wide_mul hi hj (by decide) (by decide) (by decide)
  walk_at "go"
  refine g_rI (mw b1.a b2.q) ?_
  walk_at "go"
  refine g_rI (mw b2.a b1.q) ?_
  walk_at "go"
  refine g_rI (mw b1.b b2.q) ?_
  walk_at "go"
  refine g_rI (mw b2.b b1.q) ?_
  walk_at "go"
  refine g_rI (mw b1.q b2.q) ?_
  walk_at "go"
  have h0 : 0 < f.2.2 * g.2.2 := Int.mul_pos b1.q0 b2.q0
  have h2 := wide_lt b1.q b2.q
  refine u_Form h0 ?_ k
  have : ((f.2.2 * g.2.2).natAbs : Int) = f.2.2 * g.2.2 := by omega
  have h3 : ((f.2.2 * g.2.2).natAbs : Int) < ((2 ^ (3000 + 3000) : Nat) : Int) := by omega
  have h4 : ((2 ^ (3000 + 3000) : Nat) : Int) ≤ 2 ^ 8000 := by
    norm_cast
  omega
theorem o_Form_Add {X : Cx} {j : Nat} (T : Tx X.K X.mg) (hr : Room j X.A) (hk : 4 ≤ j) : OpR X (binaryOp .Add) (rOwn2 (He.ga X.K "Form") (sp_Form_add X.K)) := op_own2 (c_Form_add T) T.sf_Form hr hk
def sp_Form_neg (K : PySem.W.Frag) : Sp := fun vs H Q _ => ∃ p f, vs = [.ref p] ∧ FormAt K H p f ∧ FBd 3000 f ∧ ∀ r H', Same H H' → H r = none → FormAt K H' r (negF f) → Q (.ref r) H'
theorem u_Form_neg {p : Addr} {f : F3} {H : Hp} {Q : VK} {E : XK} (h1 : FormAt K H p f) (b1 : FBd 3000 f) (k : ∀ r H', Same H H' → H r = none → FormAt K H' r (negF f) → Q (.ref r) H') : sp_Form_neg K [.ref p] H Q E := ⟨p, f, rfl, h1, b1, k⟩
theorem FBd.q8 {f : F3} (b : FBd 3000 f) : f.2.2 < 2 ^ 8000 := by
  have h1 := b.q
  have h2 := b.q0
  have h4 : ((2 ^ 3000 : Nat) : Int) ≤ 2 ^ 8000 := by norm_cast
  omega
theorem sc_Form_neg : FnScope ["self", "a", "b", "q"] ["self"] (defScope s_Form_neg) := C8.fnScope_by (by decide +kernel)
theorem c_Form_neg (T : Tx K mg) : C8.Met P w K mg base 4 (He.ga K "Form") "__neg__" (sp_Form_neg K) [] := by
  refine metD T.d_Form_neg T.l_Form T.me_Form_neg (fun _ _ _ _ _ _ us hl => match us, hl with | [_], _ => rfl) sc_Form_neg (fun vs H Q E ⟨_, _, e, _⟩ => by rw [e]; rfl) fun fd cdv A outer s H vs Q E hr h => ?_
  obtain ⟨p, f, rfl, ⟨dx, t, hp, ht⟩, b1, k⟩ := h
  refine ⟨_, (pss_cons (ps_asg (pe_fld (pv 0) rfl) (pg_tup rfl (pgs_cons (pg_name (i := 1) sc_Form_neg.nd rfl (Or.inl rfl)) (pgs_cons (pg_name (i := 2) sc_Form_neg.nd rfl (Or.inl rfl)) (pgs_cons (pg_name (i := 3) sc_Form_neg.nd rfl (Or.inl rfl)) pgs_nil)))))
      (pss_one (ps_ret (pe_cm (m_Form T) hr (by decide) rfl (pa_cons (pe_un un_neg (pv 1)) (pa_cons (pe_un un_neg (pv 2)) (pa_cons (pv 3) pa_nil))))))), ?_⟩
  walk_at "st"
  have lF := T.l_Form
  have nF := T.n_Form_row
  walk_at "go"
  exact u_Form b1.q0 b1.q8 k
theorem u_Form_neg' {X : Cx} {j : Nat} (T : Tx X.K X.mg) (hr : Room j X.A) (hk : 4 ≤ j) : UnR X (unaryOp .USub) (rOwn1 (He.ga X.K "Form") (sp_Form_neg X.K)) := un_own1 (c_Form_neg T) hr hk
def sp_Form_mul (K : PySem.W.Frag) : Sp := fun vs H Q _ => ∃ p f i, vs = [.ref p, .int i] ∧ FormAt K H p f ∧ FBd 3000 f ∧ i.natAbs < 2 ^ 3000 ∧ ∀ r H', Same H H' → H r = none → FormAt K H' r (mulF f i) → Q (.ref r) H'
theorem u_Form_mul {p : Addr} {f : F3} {i : Int} {H : Hp} {Q : VK} {E : XK} (h1 : FormAt K H p f) (b1 : FBd 3000 f) (b2 : i.natAbs < 2 ^ 3000) (k : ∀ r H', Same H H' → H r = none → FormAt K H' r (mulF f i) → Q (.ref r) H') : sp_Form_mul K [.ref p, .int i] H Q E := ⟨p, f, i, rfl, h1, b1, b2, k⟩
theorem sc_Form_mul : FnScope ["self", "number", "a", "b", "q"] ["self", "number"] (defScope s_Form_mul) := C8.fnScope_by (by decide +kernel)
theorem c_Form_mul (T : Tx K mg) : C8.Met P w K mg base 4 (He.ga K "Form") "__mul__" (sp_Form_mul K) [] := by
  refine metD T.d_Form_mul T.l_Form T.me_Form_mul (fun _ _ _ _ _ _ us hl => match us, hl with | [_, _], _ => rfl) sc_Form_mul (fun vs H Q E ⟨_, _, _, e, _⟩ => by rw [e]; rfl) fun fd cdv A outer s H vs Q E hr h => ?_
  obtain ⟨p, f, i, rfl, ⟨dx, t, hp, ht⟩, b1, b2, k⟩ := h
  refine ⟨_, (pss_cons (ps_asg (pe_fld (pv 0) rfl) (pg_tup rfl (pgs_cons (pg_name (i := 2) sc_Form_mul.nd rfl (Or.inl rfl)) (pgs_cons (pg_name (i := 3) sc_Form_mul.nd rfl (Or.inl rfl)) (pgs_cons (pg_name (i := 4) sc_Form_mul.nd rfl (Or.inl rfl)) pgs_nil)))))
      (pss_one (ps_ret (pe_cm (m_Form T) hr (by decide) rfl (pa_cons (pe_op op_mulW (pv 2) (pv 1)) (pa_cons (pe_op op_mulW (pv 3) (pv 1)) (pa_cons (pv 4) pa_nil))))))), ?_⟩
  walk_at "st"
  have lF := T.l_Form
  have nF := T.n_Form_row
  have mw : ∀ {i j : Int}, i.natAbs < 2 ^ 3000 → j.natAbs < 2 ^ 3000 → CMulW i j := fun hi hj => wide_mul hi hj (by decide) (by decide) (by decide)
  walk_at "go"
  refine g_rI (mw b1.a b2) ?_
  walk_at "go"
  refine g_rI (mw b1.b b2) ?_
  walk_at "go"
  exact u_Form b1.q0 b1.q8 k
theorem o_Form_Mult {X : Cx} {j : Nat} (T : Tx X.K X.mg) (hr : Room j X.A) (hk : 4 ≤ j) : OpR X (binaryOp .Mult) (rOwnI (He.ga X.K "Form") (sp_Form_mul X.K)) := op_ownI (c_Form_mul T) T.sf_Form T.i_mul T.i_rmul T.f_rmul T.i_sub hr hk
theorem nrm_bd {a b q : Int} {n : Nat} (hq : 0 < q) (h1 : a.natAbs < 2 ^ n) (h2 : b.natAbs < 2 ^ n) (h3 : q.natAbs < 2 ^ n) : FBd n (nrm a b q) := by
  have hg := gcd3_pos (a := a) (b := b) hq
  have hl := gcd3_le (a := a) (b := b) hq
  have hd : (Int.gcd (Int.gcd a b : Int) q : Int) ∣ q := Int.gcd_dvd_right ..
  have da : (Int.gcd (Int.gcd a b : Int) q : Int) ∣ a := Int.dvd_trans (Int.gcd_dvd_left ..) (Int.gcd_dvd_left ..)
  have db : (Int.gcd (Int.gcd a b : Int) q : Int) ∣ b := Int.dvd_trans (Int.gcd_dvd_left ..) (Int.gcd_dvd_right ..)
  have abs : ∀ {i g : Int}, 0 < g → (i / g).natAbs ≤ i.natAbs := fun {i g} h => by
    exact Int.natAbs_ediv_le_natAbs i g
  refine ⟨Nat.lt_of_le_of_lt (abs hg) h1, Nat.lt_of_le_of_lt (abs hg) h2, ?_, Nat.lt_of_le_of_lt (abs hg) h3⟩
  exact Int.ediv_pos_of_pos_of_dvd hq (Int.le_of_lt hg) hd
def subF (f g : F3) : F3 := addF f (negF g)
def sp_Form_sub (K : PySem.W.Frag) : Sp := fun vs H Q _ => ∃ p q f g, vs = [.ref p, .ref q] ∧ FormAt K H p f ∧ FormAt K H q g ∧ FBd 3000 f ∧ FBd 3000 g ∧ ∀ r H', Same H H' → H r = none → FormAt K H' r (subF f g) → Q (.ref r) H'
theorem u_Form_sub {p q : Addr} {f g : F3} {H : Hp} {Q : VK} {E : XK} (h1 : FormAt K H p f) (h2 : FormAt K H q g) (b1 : FBd 3000 f) (b2 : FBd 3000 g) (k : ∀ r H', Same H H' → H r = none → FormAt K H' r (subF f g) → Q (.ref r) H') : sp_Form_sub K [.ref p, .ref q] H Q E := ⟨p, q, f, g, rfl, h1, h2, b1, b2, k⟩
theorem sc_Form_sub : FnScope ["self", "other"] ["self", "other"] (defScope s_Form_sub) := C8.fnScope_by (by decide +kernel)
theorem c_Form_sub (T : Tx K mg) : C8.Met P w K mg base 5 (He.ga K "Form") "__sub__" (sp_Form_sub K) [] := by
  refine metD T.d_Form_sub T.l_Form T.me_Form_sub (fun _ _ _ _ _ _ us hl => match us, hl with | [_, _], _ => rfl) sc_Form_sub (fun vs H Q E ⟨_, _, _, _, e, _⟩ => by rw [e]; rfl) fun fd cdv A outer s H vs Q E hr h => ?_
  obtain ⟨p, q, f, g, rfl, hf, hg, b1, b2, k⟩ := h
  refine ⟨_, (pss_one (ps_ret (pe_op (o_Form_Add T hr (by decide)) (pv 0) (pe_un (u_Form_neg' T hr (by decide)) (C8.pe_c (c_form_of T) hr (by decide) rfl (pa_cons (pv 1) pa_nil)))))), ?_⟩
  walk_at "st"
  obtain ⟨dx, t, hp, ht⟩ := id hf
  obtain ⟨dy, u, hq, hu⟩ := id hg
  walk_at "go"
  refine u_Form_neg hg b2 fun r H1 s1 n1 h1 => ?_
  obtain ⟨dz, v, hr', hv⟩ := id h1
  have bn : FBd 3000 (negF g) := nrm_bd b2.q0 (by rw [Int.natAbs_neg]; exact b2.a) (by rw [Int.natAbs_neg]; exact b2.b) b2.q
  walk_at "go"
  exact u_Form_add (hf.mono s1) h1 b1 bn fun r' H' s' n' h' => k r' H' (s1.trans s') (s1.free n') h'
theorem o_Form_Sub {X : Cx} {j : Nat} (T : Tx X.K X.mg) (hr : Room j X.A) (hk : 5 ≤ j) : OpR X (binaryOp .Sub) (rOwn2 (He.ga X.K "Form") (sp_Form_sub X.K)) := op_own2 (c_Form_sub T) T.sf_Form hr hk
end
end RL
set_option maxHeartbeats 4000000
namespace RL
open PySem PySem.Spec PyProof.Rows L2
local macro_rules | `(tactic| walk_at "hp") => `(tactic| first
  | assumption
  | ((with_reducible refine' SqT.of ?gz); (case gz => walk_at "hp"))
  | ((with_reducible refine' SqL.of ?gz); (case gz => walk_at "hp"))
  | ((with_reducible refine' Same.seqT (by assumption) ?gz); (case gz => walk_at "hp"))
  | ((with_reducible refine' Same.seq (by assumption) ?gz); (case gz => walk_at "hp"))
  | ((with_reducible refine' s_at (by assumption) ?gz); (case gz => walk_at "hp"))
  | ((with_reducible refine' dp_mono (by assumption) ?gz); (case gz => walk_at "hp")))
local macro_rules | `(tactic| walk_at "sm") => `(tactic| first
  | assumption
  | exact Same.refl _
  | (with_reducible refine Same.trans ?_ (by assumption); walk_at "sm"))
local macro_rules | `(tactic| walk_at "st") => `(tactic| try dsimp only [cxOf, L2.Cx.nox, L2.Cx.wish])
local macro_rules | `(tactic| walk_at "sz") => `(tactic| (have := sizeLine_eq; (try simp only [List.length_append, List.length_map, List.length_take, List.length_drop, List.length_cons, List.length_nil]); omega))
local macro_rules | `(tactic| walk_at "lk") => `(tactic| fail)
local macro_rules | `(tactic| walk_at "goB") => `(tactic| fail)
local macro_rules | `(tactic| walk_at "goT") => `(tactic| fail)
local macro_rules | `(tactic| walk_at "goA") => `(tactic| first
  | (with_reducible first
    | refine ifT rfl ?_
    | refine ifF rfl ?_)
  | ((with_reducible refine' g_gtup ?gh ?gl ?gk); (case gh => walk_at "hp"); (case gl => rfl))
  | ((with_reducible refine' g_ixT ?gh ?gl ?gk); (case gh => walk_at "hp"); (case gl => first | rfl | assumption))
  | ((with_reducible refine' g_ixL ?gh ?gl ?gk); (case gh => walk_at "hp"); (case gl => first | rfl | assumption))
  | ((with_reducible refine' g_lenT ?gh ?gk); (case gh => walk_at "hp"))
  | ((with_reducible refine' g_lenL ?gh ?gk); (case gh => walk_at "hp"))
  | ((with_reducible refine' g_inT ?gh ?gf ?gl ?gk); (case gh => walk_at "hp"); (case gf => rfl); (case gl => rfl))
  | ((with_reducible refine' g_isi (d := true) ?gh ?gl ?gk); (case gh => first | exact ty_tup (by walk_at "hp") | exact .base (.int _) | exact .base (.str _)); (case gl => exact kit_ty (by decide +kernel)))
  | ((with_reducible refine' g_isi (d := false) ?gh ?gl ?gk); (case gh => first | exact ty_tup (by walk_at "hp") | exact .base (.int _) | exact .base (.str _)); (case gl => exact kit_ty (by decide +kernel)))
  | ((with_reducible refine' g_new ?gl ?gk); (case gl => first | exact Nat.le_of_ble_eq_true rfl | walk_at "sz"))
  | ((with_reducible refine' g_ilstv ?gh ?gk); (case gh => walk_at "hp"))
  | ((with_reducible refine' g_itupv ?gh ?gk); (case gh => walk_at "hp"))
  | ((with_reducible refine' g_ienumv ?gh ?gk); (case gh => walk_at "hp"))
  | ((with_reducible refine' g_ienTv ?gh ?gk); (case gh => walk_at "hp"))
  | ((with_reducible refine' g_slT ?gh ?gk); (case gh => walk_at "hp"); intro _ _ _ _)
  | ((with_reducible refine' g_slL ?gh ?gk); (case gh => walk_at "hp"))
  | ((with_reducible refine' g_catT ?gh ?gl ?gm ?gk); (case gh => walk_at "hp"); (case gl => walk_at "hp"); (case gm => walk_at "sz"); intro _ _ _ _)
  | ((with_reducible refine' g_catL ?gh ?gl ?gm ?gk); (case gh => walk_at "hp"); (case gl => walk_at "hp"); (case gm => walk_at "sz"))
  | ((with_reducible refine' g_tupL ?gh ?gk); (case gh => walk_at "hp"); intro _ _ _ _)
  | ((with_reducible refine' g_tupT ?gh ?gk); (case gh => walk_at "hp"); intro _ _ _ _)
  | ((with_reducible refine' g_starT ?gh ?gk); (case gh => walk_at "hp"))
  | ((with_reducible refine' g_starL ?gh ?gk); (case gh => walk_at "hp"))
  | ((with_reducible refine' g_tyL ?gh ?gk); (case gh => walk_at "hp"))
  | ((with_reducible refine' g_app ?gh ?gl ?gk); (case gh => walk_at "hp"); (case gl => walk_at "sz"))
  | ((with_reducible refine' g_inL ?gh ?gf ?gl ?gk); (case gh => walk_at "hp"); (case gf => rfl); (case gl => first | rfl | assumption))
  | ((with_reducible refine' g_irng1v ?gh ?gl ?gk); (case gh => omega); (case gl => omega))
  | ((with_reducible refine' g_irng2v ?gh ?gk); (case gh => omega))
  | ((with_reducible refine g_NewT ?_); intro _ _ _ _ _)
  | ((with_reducible refine' g_fldv ?gh ?gc ?gn ?gl ?gk); (case gh => walk_at "hp"); (case gc => assumption); (case gn => assumption); (case gl => first | rfl | walk_at "lk"))
  | ((with_reducible refine' g_fldw ?gh ?gc ?gn ?gl ?gk); (case gh => walk_at "hp"); (case gc => assumption); (case gn => assumption); (case gl => exact Nat.le_of_ble_eq_true rfl))
  | ((with_reducible refine' g_own2 ?gh ?gl ?gk); (case gh => walk_at "hp"); (case gl => walk_at "hp"))
  | ((with_reducible refine' g_own1 ?gh ?gk); (case gh => walk_at "hp"))
  | ((with_reducible refine' g_ownI ?gh ?gk); (case gh => walk_at "hp"))
  | ((with_reducible refine' g_recv ?gh ?gl ?gk); (case gh => walk_at "hp"); (case gl => walk_at "lk"))
  | ((with_reducible refine' g_lenS ?gh ?gk); (case gh => (have := sizeLine_eq; omega)))
  | ((with_reducible refine' ifT ?gh ?gk); (case gh => first | exact decide_eq_true (by omega) | exact nf (decide_eq_false (by omega)) | decide +kernel))
  | ((with_reducible refine' ifF ?gh ?gk); (case gh => first | exact decide_eq_false (by omega) | exact nt (decide_eq_true (by omega)) | decide +kernel)))
local macro_rules | `(tactic| walk_at "go1") => `(tactic| first
  | (with_reducible first
    | refine g_var rfl ?_
    | refine g_op ?_
    | refine g_cons ?_
    | refine g_nil ?_
    | refine g_c ?_
    | refine g_cb ?_
    | refine g_call ?_
    | refine g_seq ?_
    | refine g_asg ?_
    | refine g_name ?_
    | refine g_fld ?_
    | refine g_meth ?_
    | refine g_ifS ?_
    | refine g_if ?_
    | refine g_ret ?_
    | refine g_test ?_
    | refine g_tB ?_
    | refine g_bl ?_
    | refine g_and ?_
    | refine g_or ?_
    | refine g_not ?_
    | refine g_andV ?_
    | refine g_orV ?_
    | refine g_notV ?_
    | refine g_chain ?_
    | refine g_un ?_
    | refine g_ntup ?_
    | refine g_nlst ?_
    | refine g_drop ?_
    | refine g_next ?_
    | refine g_par ?_
    | refine g_par3 ?_
    | refine g_e2 ?_
    | refine g_e3 ?_
    | refine g_retN ?_
    | refine g_gcons ?_
    | refine g_gnil ?_
    | refine g_rI0 ?_
    | refine g_rU ?_
    | refine g_rSS ?_
    | refine g_rBB ?_
    | refine g_sib ?_
    | refine g_sii ?_
    | refine g_lc ?_
    | refine g_for ?_
    | refine g_istr ?_
    | refine g_istrv ?_
    | refine g_ilst ?_
    | refine g_itup ?_
    | refine g_irng1 ?_
    | refine g_irng2 ?_
    | refine g_ienum ?_
    | refine g_abs ?_
    | refine g_mx ?_
    | refine g_mn ?_
    | refine g_isN ?_
    | refine g_inC ?_
    | refine g_nfld ?_
    | refine g_ienT ?_
    | refine g_sl ?_
    | refine g_np ?_
    | refine g_pt ?_
    | refine g_ptv ?_
    | refine g_star ?_
    | refine g_bmL ?_)
  | walk_at "goA"
  | walk_at "goT"
  | walk_at "goB")
local macro_rules | `(tactic| walk_at "go") => `(tactic| repeat walk_at "go1")
/-! plans -/
def DeedsAt (K : PySem.W.Frag) (H : Hp) (t : Addr) (ds : List Dd) : Prop := ∃ as, SqT K H t as ∧ Paired (DeedAt K H) as ds
theorem DeedsAt.mono {K : PySem.W.Frag} {H H' : Hp} (e : Same H H') {t : Addr} {ds : List Dd} : DeedsAt K H t ds → DeedsAt K H' t ds := fun ⟨as, h1, h2⟩ => ⟨as, Same.seqT e h1, PySem.Paired.mono (fun _ _ h => h.mono e) h2⟩
theorem DeedsAt.but {K : PySem.W.Frag} {H H' : Hp} {l : Addr} {us : List V} (e : But l H H') (hl : H l = some (.lst us)) {t : Addr} {ds : List Dd} : DeedsAt K H t ds → DeedsAt K H' t ds := fun ⟨as, h1, h2⟩ => ⟨as, e.tup hl h1, PySem.Paired.mono (fun _ _ h => h.but e hl) h2⟩
def PlanAt (K : PySem.W.Frag) (H : Hp) (p : Addr) (ds : List Dd) : Prop := ∃ dx t, H p = some (.ins (He.ga K "Plan") dx [("kept", .ref t)]) ∧ DeedsAt K H t ds
theorem PlanAt.mono {K : PySem.W.Frag} {H H' : Hp} (e : Same H H') {p : Addr} {ds : List Dd} : PlanAt K H p ds → PlanAt K H' p ds := fun ⟨dx, t, h1, h2⟩ => ⟨dx, t, e _ _ h1, h2.mono e⟩
theorem lk_kept {v : V} : ([("kept", v)] : List (Str × V)).lookup ("kept" : Str) = some v := by simp [List.lookup]
theorem lk_no {f m : Str} {v : V} (h : (m == f) = false) : ([(f, v)] : List (Str × V)).lookup m = none := by
  rw [List.lookup_cons, h]
  rfl
local macro_rules | `(tactic| walk_at "lk") => `(tactic| exact lk_no (by decide +kernel))
local macro_rules | `(tactic| walk_at "lk") => `(tactic| exact lk_kept)
section
variable {P : Program} {w : World} {K : PySem.W.Frag} {mg : Str → Option Value} {base : Heap}
local macro_rules | `(tactic| walk_at "goB") => `(tactic| with_reducible refine u_is_whole ?_)
def spI_Plan (K : PySem.W.Frag) : Sp := fun vs H Q _ => ∃ p dx t ds, vs = [.ref p, .ref t] ∧ DeedsAt K H t ds ∧ ds.length ≤ 12 ∧ (∀ d ∈ ds, DdOk d) ∧ H p = some (.ins (He.ga K "Plan") dx []) ∧
  ∀ H', But p H H' → H' p = some (.ins (He.ga K "Plan") dx [("kept", .ref t)]) → Q .non H'
theorem sc_Plan_init : FnScope ["self", "deeds", "index", "deed"] ["self", "deeds"] (defScope s_Plan_init) := C8.fnScope_by (by decide +kernel)
theorem i_Plan (T : Tx K mg) (n j : Nat) (hn : n + (1 - j) = 2) (hb : ∀ (T : Addr) (kV doc pm : Value) (an : Option Addr) (cdv ct : Value) (us its : List Value), us.length = n → its.length = 1 →
      ∃ k, bindArgs (PySem.W.fnOf "__init__" "Plan.__init__" (defArgs s_Plan_init) (defBody s_Plan_init) (defScope s_Plan_init) (.ref T) kV doc pm an cdv ct) ⟨us, []⟩ = seqItems? (.ref T) >>= k ∧ k (some its.toArray) = pure ((["self", "deeds"] : List Str).zip (us ++ its.drop j))) :
    C8.Mak P w K mg base 5 "Plan" (He.ga K "Plan") (spI_Plan K) (([.ref (He.dflAt ("Plan", some "__init__") 0 K)] : List V).drop j) := by
  refine makD (k := 4) (ps := ["self", "deeds"]) T.d_Plan_init T.mk_Plan T.g_Plan n j (by simp) hn hb sc_Plan_init (fun vs H Q E ⟨_, _, _, _, e, _⟩ => by rw [e]; rfl) fun fd cdv A outer s H vs Q E hr h => ?_
  obtain ⟨p, dx, t, ds, rfl, ⟨as, ht, hp⟩, hl, hok, hi, k⟩ := h
  refine ⟨_, (pss_cons (ps_if (pt_not (pt_val (pe_callB call_isi rfl T.b_isinstance (by decide +kernel) (pa_cons (pv 1) (pa_cons (pe_ty (n := "tuple") rfl T.b_tuple (by decide +kernel)) pa_nil)))))
        (pss_one ps_never)
        pss_nil)
      (pss_cons (ps_for PassesOwn.never rfl (pj_enumT rfl T.b_enumerate (pa_cons (pv 1) pa_nil)) (pg_tup rfl (pgs_cons (pg_name (i := 2) sc_Plan_init.nd rfl (Or.inl rfl)) (pgs_cons (pg_name (i := 3) sc_Plan_init.nd rfl (Or.inl rfl)) pgs_nil)))
        (pss_one (ps_if (PW.pt (pw_or (pt_cmpR op_ge (pv 2) (C8.pe_gc rfl T.v_MOST_DEEDS) (nomark _)) (pw_or1 (pt_not (pt_val (C8.pe_c (c_is_deed T) hr (by decide) rfl (pa_cons (pv 3) pa_nil)))))))
          (pss_one ps_never)
          pss_nil)))
      (pss_one (ps_nfld (pv 0) (pv 1) rfl)))), ?_⟩
  walk_at "st"
  have lF := T.l_Plan
  have nF := T.n_Plan_kept
  walk_at "go"
  refine for_w walk_enT (fun i σ' H' => Same H H' ∧ ∃ x y, σ' = [some (.ref p), some (.ref t), x, y]) ⟨Same.refl _, none, none, rfl⟩ (fun i σ' H' _ q => Same.seqT q.1 ht) ?_ ?_
  · rintro i v σ' H1 H2 hi ⟨s1, x, y, rfl⟩ ⟨U, z, rfl, nU, s2, hU, hz⟩
    obtain ⟨d, hd, hdd⟩ := pr_get hp hz
    have hl2 := hp.length
    walk_at "go"
    refine u_is_deed ((hdd.mono s1).mono s2) (hok d (List.mem_of_getElem? hd)) fun H3 s3 => ?_
    walk_at "go"
    exact ⟨(s1.trans s2).trans s3, _, _, rfl⟩
  · rintro σ' H1 ⟨s1, x, y, rfl⟩
    walk_at "go"
    intro H2 b2 h2
    exact k H2 ((But.of s1).trans b2) h2
def sp_Plan (K : PySem.W.Frag) : Sp := fun vs H Q _ => ∃ t ds, vs = [.ref t] ∧ DeedsAt K H t ds ∧ ds.length ≤ 12 ∧ (∀ d ∈ ds, DdOk d) ∧ ∀ p H', Same H H' → H p = none → PlanAt K H' p ds → Q (.ref p) H'
theorem u_Plan {t : Addr} {ds : List Dd} {H : Hp} {Q : VK} {E : XK} (h : DeedsAt K H t ds) (l : ds.length ≤ 12) (o : ∀ d ∈ ds, DdOk d) (k : ∀ p H', Same H H' → H p = none → PlanAt K H' p ds → Q (.ref p) H') : sp_Plan K [.ref t] H Q E := ⟨t, ds, rfl, h, l, o, k⟩
theorem m_Plan (T : Tx K mg) : MkM P w K mg base 5 "Plan" (sp_Plan K) := by
  refine ⟨_, _, _, i_Plan T 2 1 rfl (fun T kV doc pm an cdv ct us its hu hi => match us, hu, its, hi with | [_, _], _, [_], _ => ⟨_, rfl, rfl⟩), fun vs H Q ⟨t, ds, e, h, l, o, k⟩ p dx hp hdx ne => ?_⟩
  subst e
  have s0 : Same H (upd (upd H dx (.own p)) p (.ins (He.ga K "Plan") dx [])) := fun b o e => by rw [upd_ne (ne_of_none e hp), upd_ne (ne_of_none e hdx)]; exact e
  refine ⟨p, dx, t, ds, rfl, h.mono s0, l, o, upd_same, fun H' bt h3 => ⟨rfl, ?_⟩⟩
  have s1 := bt.same s0 hp
  exact k p H' s1 hp ⟨dx, t, h3, h.mono s1⟩
def sp_Plan0 (K : PySem.W.Frag) : Sp := fun vs H Q _ => vs = [] ∧ ∀ p H', Same H H' → H p = none → PlanAt K H' p [] → Q (.ref p) H'
theorem m_Plan0 (T : Tx K mg) : MkM P w K mg base 5 "Plan" (sp_Plan0 K) := by
  refine ⟨_, _, _, i_Plan T 1 0 rfl (fun T kV doc pm an cdv ct us its hu hi => match us, hu, its, hi with | [_], _, [_], _ => ⟨_, rfl, rfl⟩), fun vs H Q ⟨e, k⟩ p dx hp hdx ne => ?_⟩
  subst e
  have s0 : Same H (upd (upd H dx (.own p)) p (.ins (He.ga K "Plan") dx [])) := fun b o e => by rw [upd_ne (ne_of_none e hp), upd_ne (ne_of_none e hdx)]; exact e
  refine ⟨p, dx, _, [], rfl, ⟨[], T.e_Plan _, .nil⟩, by decide, (fun d hd => nomatch hd), upd_same, fun H' bt h3 => ⟨rfl, ?_⟩⟩
  exact k p H' (bt.same s0 hp) hp ⟨dx, _, h3, [], T.e_Plan _, .nil⟩
/-! its methods -/
theorem Dd.lay {d : Dd} (o : DdOk d) : d.dat.canLay0 = true ∧ d.dat.depth ≤ 2 := by
  cases o with
  | @pl xs h => exact ⟨h.lay, by show PyData.depthAll (xs.map fd) + 1 ≤ 2; rw [fd_depth]; decide⟩
  | @whn w o xs hw ho h =>
    have c1 : ∀ {d : PyData} {ds : List PyData}, d.canLay0 = true → PyData.canLayAll0 ds = true → PyData.canLayAll0 (d :: ds) = true := fun a b => Bool.and_eq_true_iff.mpr ⟨a, b⟩
    refine ⟨c1 (by decide +kernel) (c1 (strOk_win hw) (c1 ?_ (c1 h.lay rfl))), ?_⟩
    · cases o with
      | none => rfl
      | some t => exact strOk_thing (ho t rfl)
    · show max 0 (max 0 (max (PyData.depth (fd (oV o))) (max (PyData.depthAll (xs.map fd) + 1) 0))) + 1 ≤ 2
      rw [fd_depth]
      cases o <;> exact Nat.le_of_ble_eq_true rfl
theorem dds_lay : ∀ {ds : List Dd}, (∀ d ∈ ds, DdOk d) → PyData.canLayAll0 (ds.map Dd.dat) = true ∧ PyData.depthAll (ds.map Dd.dat) ≤ 2
  | [], _ => ⟨rfl, by decide⟩
  | d :: ds, h => by
    have h1 := Dd.lay (h d (List.mem_cons_self ..))
    have h2 := dds_lay (ds := ds) fun x hx => h x (List.mem_cons_of_mem _ hx)
    refine ⟨Bool.and_eq_true_iff.mpr ⟨h1.1, h2.1⟩, ?_⟩
    show max d.dat.depth (PyData.depthAll (ds.map Dd.dat)) ≤ 2
    omega
theorem dp_deed {H : Hp} {v : V} : ∀ {d : Dd}, DdOk d → DeedAt K H v d → Dp K H v d.dat
  | .pl xs, .pl h, ⟨a, e, ha⟩ => by rw [e]; exact .tup ha (dp_flat h.flat)
  | .whn w o xs, .whn hw ho h, ⟨a, b, e, ha, hb⟩ => by
    rw [e]
    refine .tup ha (.cons (.str _) (.cons (.str _) (.cons ?_ (.cons (.tup hb (dp_flat h.flat)) .nil))))
    cases o with
    | none => exact .non
    | some t => exact .str t
theorem dp_deeds {H : Hp} {as : List V} {ds : List Dd} (h : Paired (DeedAt K H) as ds) (o : ∀ d ∈ ds, DdOk d) : DpAll K H as (ds.map Dd.dat) := by
  induction h with
  | nil => exact .nil
  | cons a _ ih => exact .cons (dp_deed (o _ (List.mem_cons_self ..)) a) (ih fun d hd => o d (List.mem_cons_of_mem _ hd))
/-- == of two tuples of the same deeds -/
theorem g_eqDs {H : Hp} {p q : Addr} {ds : List Dd} {Q : VK} (h1 : DeedsAt K H p ds) (h2 : DeedsAt K H q ds) (o : ∀ d ∈ ds, DdOk d) (k : Q (.bl true) H) : rEqD K (.ref p) (.ref q) H Q := by
  obtain ⟨as, h1, p1⟩ := h1
  obtain ⟨bs, h2, p2⟩ := h2
  have l := dds_lay o
  have sh : SeqAt.shaped (.tuple (ds.map Dd.dat)) = true := Bool.and_eq_true_iff.mpr ⟨l.1, decide_eq_true (by show PyData.depthAll (ds.map Dd.dat) + 1 ≤ 64; omega)⟩
  refine ⟨.tuple (ds.map Dd.dat), .tuple (ds.map Dd.dat), .tup h1 (dp_deeds p1 o), .tup h2 (dp_deeds p2 o), sh, sh, ?_⟩
  rw [SeqAt.eqv_refl _ (SeqAt.canLay_of_shaped sh)]
  exact k
def sp_Plan_eq (K : PySem.W.Frag) : Sp := fun vs H Q _ => ∃ p q ds, vs = [.ref p, .ref q] ∧ PlanAt K H p ds ∧ PlanAt K H q ds ∧ (∀ d ∈ ds, DdOk d) ∧ Q (.bl true) H
theorem u_Plan_eq {p q : Addr} {ds : List Dd} {H : Hp} {Q : VK} {E : XK} (h1 : PlanAt K H p ds) (h2 : PlanAt K H q ds) (o : ∀ d ∈ ds, DdOk d) (k : Q (.bl true) H) : sp_Plan_eq K [.ref p, .ref q] H Q E := ⟨p, q, ds, rfl, h1, h2, o, k⟩
theorem sc_Plan_eq : FnScope ["self", "other"] ["self", "other"] (defScope s_Plan_eq) := C8.fnScope_by (by decide +kernel)
theorem c_Plan_eq (T : Tx K mg) : C8.Met P w K mg base 1 (He.ga K "Plan") "__eq__" (sp_Plan_eq K) [] := by
  refine metD T.d_Plan_eq T.l_Plan T.me_Plan_eq (fun _ _ _ _ _ _ us hl => match us, hl with | [_, _], _ => rfl) sc_Plan_eq (fun vs H Q E ⟨_, _, _, e, _⟩ => by rw [e]; rfl) fun fd cdv A outer s H vs Q E hr h => ?_
  obtain ⟨p, q, ds, rfl, ⟨dx, t, hp, ht⟩, ⟨dy, u, hq, hu⟩, o, k⟩ := h
  refine ⟨_, (pss_one (ps_ret (pe_and (pe_callB call_isi rfl T.b_isinstance (by decide +kernel) (pa_cons (pv 1) (pa_cons (C8.pe_gc (v := .ref (He.ga K "Plan")) rfl ⟨_, T.g_Plan, rfl⟩) pa_nil))) (pe_one (pe_cmpR (op_eqD hr.units) (pe_fld (pv 0) rfl) (pe_fld (pv 1) rfl) (nomark _)))))), ?_⟩
  walk_at "st"
  have lF := T.l_Plan
  have nF := T.n_Plan_kept
  walk_at "go"
  refine g_isiC (ty_ins T.is_Plan hq) T.is_Plan.me ?_
  walk_at "go"
  exact g_eqDs ht hu o k
theorem o_Plan_eq {X : Cx} {j : Nat} (T : Tx X.K X.mg) (hr : Room j X.A) (hk : 1 ≤ j) : OpR X (compareOp .Eq) (rOwn2 (He.ga X.K "Plan") (sp_Plan_eq X.K)) := op_eq2 (c_Plan_eq T) T.nf_Plan hr hk
def sp_Plan_add (K : PySem.W.Frag) : Sp := fun vs H Q _ => ∃ p q ds es, vs = [.ref p, .ref q] ∧ PlanAt K H p ds ∧ PlanAt K H q es ∧ ds.length + es.length ≤ 12 ∧ (∀ d ∈ ds, DdOk d) ∧ (∀ d ∈ es, DdOk d) ∧ ∀ r H', Same H H' → H r = none → PlanAt K H' r (ds ++ es) → Q (.ref r) H'
theorem u_Plan_add {p q : Addr} {ds es : List Dd} {H : Hp} {Q : VK} {E : XK} (h1 : PlanAt K H p ds) (h2 : PlanAt K H q es) (l : ds.length + es.length ≤ 12) (o1 : ∀ d ∈ ds, DdOk d) (o2 : ∀ d ∈ es, DdOk d)
    (k : ∀ r H', Same H H' → H r = none → PlanAt K H' r (ds ++ es) → Q (.ref r) H') : sp_Plan_add K [.ref p, .ref q] H Q E := ⟨p, q, ds, es, rfl, h1, h2, l, o1, o2, k⟩
theorem sc_Plan_add : FnScope ["self", "other"] ["self", "other"] (defScope s_Plan_add) := C8.fnScope_by (by decide +kernel)
theorem c_Plan_add (T : Tx K mg) : C8.Met P w K mg base 7 (He.ga K "Plan") "__add__" (sp_Plan_add K) [] := by
  refine metD T.d_Plan_add T.l_Plan T.me_Plan_add (fun _ _ _ _ _ _ us hl => match us, hl with | [_, _], _ => rfl) sc_Plan_add (fun vs H Q E ⟨_, _, _, _, e, _⟩ => by rw [e]; rfl) fun fd cdv A outer s H vs Q E hr h => ?_
  obtain ⟨p, q, ds, es, rfl, ⟨dx, t, hp, ⟨as, ht, p1⟩⟩, ⟨dy, u, hq, ⟨bs, hu, p2⟩⟩, l, o1, o2, k⟩ := h
  refine ⟨_, (pss_one (ps_ret (pe_cm (m_Plan T) hr (by decide) rfl (pa_cons (pe_op op_ncat (pe_fld (pv 0) rfl) (pe_fld (pv 1) rfl)) pa_nil)))), ?_⟩
  walk_at "st"
  have lF := T.l_Plan
  have nF := T.n_Plan_kept
  have l1 := p1.length
  have l2 := p2.length
  walk_at "go"
  rename_i r H2 s2 h2
  refine u_Plan ⟨_, h2, pr_app (PySem.Paired.mono (fun _ _ h => h.mono s2) p1) (PySem.Paired.mono (fun _ _ h => h.mono s2) p2)⟩ (by rw [List.length_append]; exact l) (fun d hd => (List.mem_append.mp hd).elim (o1 d) (o2 d)) fun r' H' s' n' h' => k r' H' (s2.trans s') (s2.free n') h'
theorem o_Plan_Add {X : Cx} {j : Nat} (T : Tx X.K X.mg) (hr : Room j X.A) (hk : 7 ≤ j) : OpR X (binaryOp .Add) (rOwn2 (He.ga X.K "Plan") (sp_Plan_add X.K)) := op_own2 (c_Plan_add T) T.sf_Plan hr hk
def sp_Plan_has (K : PySem.W.Frag) : Sp := fun vs H Q _ => ∃ p ds i, vs = [.ref p, .int i] ∧ PlanAt K H p ds ∧ 0 ≤ i ∧ i < ds.length ∧ Q (.bl true) H
theorem u_Plan_has {p : Addr} {ds : List Dd} {i : Int} {H : Hp} {Q : VK} {E : XK} (h : PlanAt K H p ds) (h0 : 0 ≤ i) (h1 : i < ds.length) (k : Q (.bl true) H) : sp_Plan_has K [.ref p, .int i] H Q E := ⟨p, ds, i, rfl, h, h0, h1, k⟩
theorem sc_Plan_has : FnScope ["self", "index"] ["self", "index"] (defScope s_Plan_has) := C8.fnScope_by (by decide +kernel)
theorem c_Plan_has (T : Tx K mg) : C8.Met P w K mg base 2 (He.ga K "Plan") "has" (sp_Plan_has K) [] := by
  refine metD T.d_Plan_has T.l_Plan T.me_Plan_has (fun _ _ _ _ _ _ us hl => match us, hl with | [_, _], _ => rfl) sc_Plan_has (fun vs H Q E ⟨_, _, _, e, _⟩ => by rw [e]; rfl) fun fd cdv A outer s H vs Q E hr h => ?_
  obtain ⟨p, ds, i, rfl, ⟨dx, t, hp, ⟨as, ht, p1⟩⟩, h0, h1, k⟩ := h
  refine ⟨_, (pss_one (ps_ret (pe_and (C8.pe_c (c_is_whole T) hr (by decide) rfl (pa_cons (pv 1) pa_nil)) (pe_one (pe_chain op_le op_lt pe_int (pv 1) (pe_callB call_nlen rfl T.b_len (by decide +kernel) (pa_cons (pe_fld (pv 0) rfl) pa_nil))))))), ?_⟩
  walk_at "st"
  have lF := T.l_Plan
  have nF := T.n_Plan_kept
  have l1 := p1.length
  walk_at "go"
  rw [decide_eq_true (show i < (as.length : Int) by omega)]
  exact k
def sp_Plan_deeds (K : PySem.W.Frag) : Sp := fun vs H Q _ => ∃ p ds, vs = [.ref p] ∧ PlanAt K H p ds ∧ ∀ t, DeedsAt K H t ds → Q (.ref t) H
theorem u_Plan_deeds {p : Addr} {ds : List Dd} {H : Hp} {Q : VK} {E : XK} (h : PlanAt K H p ds) (k : ∀ t, DeedsAt K H t ds → Q (.ref t) H) : sp_Plan_deeds K [.ref p] H Q E := ⟨p, ds, rfl, h, k⟩
theorem sc_Plan_deeds : FnScope ["self"] ["self"] (defScope s_Plan_deeds) := C8.fnScope_by (by decide +kernel)
theorem c_Plan_deeds (T : Tx K mg) : C8.Met P w K mg base 1 (He.ga K "Plan") "deeds" (sp_Plan_deeds K) [] := by
  refine metD T.d_Plan_deeds T.l_Plan T.me_Plan_deeds (fun _ _ _ _ _ _ us hl => match us, hl with | [_], _ => rfl) sc_Plan_deeds (fun vs H Q E ⟨_, _, e, _⟩ => by rw [e]; rfl) fun fd cdv A outer s H vs Q E hr h => ?_
  obtain ⟨p, ds, rfl, ⟨dx, t, hp, ht⟩, k⟩ := h
  refine ⟨_, (pss_one (ps_ret (pe_fld (pv 0) rfl))), ?_⟩
  walk_at "st"
  have lF := T.l_Plan
  have nF := T.n_Plan_kept
  walk_at "go"
  exact k t ht
end
end RL
set_option maxHeartbeats 4000000
namespace RL
open PySem PySem.Spec PyProof.Rows L2
local macro_rules | `(tactic| walk_at "hp") => `(tactic| first
  | assumption
  | ((with_reducible refine' SqT.of ?gz); (case gz => walk_at "hp"))
  | ((with_reducible refine' SqL.of ?gz); (case gz => walk_at "hp"))
  | ((with_reducible refine' Same.seqT (by assumption) ?gz); (case gz => walk_at "hp"))
  | ((with_reducible refine' Same.seq (by assumption) ?gz); (case gz => walk_at "hp"))
  | ((with_reducible refine' s_at (by assumption) ?gz); (case gz => walk_at "hp"))
  | ((with_reducible refine' dp_mono (by assumption) ?gz); (case gz => walk_at "hp")))
local macro_rules | `(tactic| walk_at "sm") => `(tactic| first
  | assumption
  | exact Same.refl _
  | (with_reducible refine Same.trans ?_ (by assumption); walk_at "sm"))
local macro_rules | `(tactic| walk_at "st") => `(tactic| try dsimp only [cxOf, L2.Cx.nox, L2.Cx.wish])
local macro_rules | `(tactic| walk_at "sz") => `(tactic| (have := sizeLine_eq; (try simp only [List.length_append, List.length_map, List.length_take, List.length_drop, List.length_cons, List.length_nil]); omega))
local macro_rules | `(tactic| walk_at "lk") => `(tactic| fail)
local macro_rules | `(tactic| walk_at "goB") => `(tactic| fail)
local macro_rules | `(tactic| walk_at "goT") => `(tactic| fail)
local macro_rules | `(tactic| walk_at "goA") => `(tactic| first
  | (with_reducible first
    | refine ifT rfl ?_
    | refine ifF rfl ?_)
  | ((with_reducible refine' g_gtup ?gh ?gl ?gk); (case gh => walk_at "hp"); (case gl => rfl))
  | ((with_reducible refine' g_ixT ?gh ?gl ?gk); (case gh => walk_at "hp"); (case gl => first | rfl | assumption))
  | ((with_reducible refine' g_ixL ?gh ?gl ?gk); (case gh => walk_at "hp"); (case gl => first | rfl | assumption))
  | ((with_reducible refine' g_lenT ?gh ?gk); (case gh => walk_at "hp"))
  | ((with_reducible refine' g_lenL ?gh ?gk); (case gh => walk_at "hp"))
  | ((with_reducible refine' g_inT ?gh ?gf ?gl ?gk); (case gh => walk_at "hp"); (case gf => rfl); (case gl => rfl))
  | ((with_reducible refine' g_isi (d := true) ?gh ?gl ?gk); (case gh => first | exact ty_tup (by walk_at "hp") | exact .base (.int _) | exact .base (.str _)); (case gl => exact kit_ty (by decide +kernel)))
  | ((with_reducible refine' g_isi (d := false) ?gh ?gl ?gk); (case gh => first | exact ty_tup (by walk_at "hp") | exact .base (.int _) | exact .base (.str _)); (case gl => exact kit_ty (by decide +kernel)))
  | ((with_reducible refine' g_new ?gl ?gk); (case gl => first | exact Nat.le_of_ble_eq_true rfl | walk_at "sz"))
  | ((with_reducible refine' g_ilstv ?gh ?gk); (case gh => walk_at "hp"))
  | ((with_reducible refine' g_itupv ?gh ?gk); (case gh => walk_at "hp"))
  | ((with_reducible refine' g_ienumv ?gh ?gk); (case gh => walk_at "hp"))
  | ((with_reducible refine' g_ienTv ?gh ?gk); (case gh => walk_at "hp"))
  | ((with_reducible refine' g_slT ?gh ?gk); (case gh => walk_at "hp"); intro _ _ _ _)
  | ((with_reducible refine' g_slL ?gh ?gk); (case gh => walk_at "hp"))
  | ((with_reducible refine' g_catT ?gh ?gl ?gm ?gk); (case gh => walk_at "hp"); (case gl => walk_at "hp"); (case gm => walk_at "sz"); intro _ _ _ _)
  | ((with_reducible refine' g_catL ?gh ?gl ?gm ?gk); (case gh => walk_at "hp"); (case gl => walk_at "hp"); (case gm => walk_at "sz"))
  | ((with_reducible refine' g_tupL ?gh ?gk); (case gh => walk_at "hp"); intro _ _ _ _)
  | ((with_reducible refine' g_tupT ?gh ?gk); (case gh => walk_at "hp"); intro _ _ _ _)
  | ((with_reducible refine' g_starT ?gh ?gk); (case gh => walk_at "hp"))
  | ((with_reducible refine' g_starL ?gh ?gk); (case gh => walk_at "hp"))
  | ((with_reducible refine' g_tyL ?gh ?gk); (case gh => walk_at "hp"))
  | ((with_reducible refine' g_app ?gh ?gl ?gk); (case gh => walk_at "hp"); (case gl => walk_at "sz"))
  | ((with_reducible refine' g_inL ?gh ?gf ?gl ?gk); (case gh => walk_at "hp"); (case gf => rfl); (case gl => first | rfl | assumption))
  | ((with_reducible refine' g_irng1v ?gh ?gl ?gk); (case gh => omega); (case gl => omega))
  | ((with_reducible refine' g_irng2v ?gh ?gk); (case gh => omega))
  | ((with_reducible refine g_NewT ?_); intro _ _ _ _ _)
  | ((with_reducible refine' g_fldv ?gh ?gc ?gn ?gl ?gk); (case gh => walk_at "hp"); (case gc => assumption); (case gn => assumption); (case gl => first | rfl | walk_at "lk"))
  | ((with_reducible refine' g_fldw ?gh ?gc ?gn ?gl ?gk); (case gh => walk_at "hp"); (case gc => assumption); (case gn => assumption); (case gl => exact Nat.le_of_ble_eq_true rfl))
  | ((with_reducible refine' g_own2 ?gh ?gl ?gk); (case gh => walk_at "hp"); (case gl => walk_at "hp"))
  | ((with_reducible refine' g_own1 ?gh ?gk); (case gh => walk_at "hp"))
  | ((with_reducible refine' g_ownI ?gh ?gk); (case gh => walk_at "hp"))
  | ((with_reducible refine' g_recv ?gh ?gl ?gk); (case gh => walk_at "hp"); (case gl => walk_at "lk"))
  | ((with_reducible refine' g_lenS ?gh ?gk); (case gh => (have := sizeLine_eq; omega)))
  | ((with_reducible refine' ifT ?gh ?gk); (case gh => first | exact decide_eq_true (by omega) | exact nf (decide_eq_false (by omega)) | decide +kernel))
  | ((with_reducible refine' ifF ?gh ?gk); (case gh => first | exact decide_eq_false (by omega) | exact nt (decide_eq_true (by omega)) | decide +kernel)))
local macro_rules | `(tactic| walk_at "go1") => `(tactic| first
  | (with_reducible first
    | refine g_var rfl ?_
    | refine g_op ?_
    | refine g_cons ?_
    | refine g_nil ?_
    | refine g_c ?_
    | refine g_cb ?_
    | refine g_call ?_
    | refine g_seq ?_
    | refine g_asg ?_
    | refine g_name ?_
    | refine g_fld ?_
    | refine g_meth ?_
    | refine g_ifS ?_
    | refine g_if ?_
    | refine g_ret ?_
    | refine g_test ?_
    | refine g_tB ?_
    | refine g_bl ?_
    | refine g_and ?_
    | refine g_or ?_
    | refine g_not ?_
    | refine g_andV ?_
    | refine g_orV ?_
    | refine g_notV ?_
    | refine g_chain ?_
    | refine g_un ?_
    | refine g_ntup ?_
    | refine g_nlst ?_
    | refine g_drop ?_
    | refine g_next ?_
    | refine g_par ?_
    | refine g_par3 ?_
    | refine g_e2 ?_
    | refine g_e3 ?_
    | refine g_retN ?_
    | refine g_gcons ?_
    | refine g_gnil ?_
    | refine g_rI0 ?_
    | refine g_rU ?_
    | refine g_rSS ?_
    | refine g_rBB ?_
    | refine g_sib ?_
    | refine g_sii ?_
    | refine g_lc ?_
    | refine g_for ?_
    | refine g_istr ?_
    | refine g_istrv ?_
    | refine g_ilst ?_
    | refine g_itup ?_
    | refine g_irng1 ?_
    | refine g_irng2 ?_
    | refine g_ienum ?_
    | refine g_abs ?_
    | refine g_mx ?_
    | refine g_mn ?_
    | refine g_isN ?_
    | refine g_inC ?_
    | refine g_nfld ?_
    | refine g_ienT ?_
    | refine g_sl ?_
    | refine g_np ?_
    | refine g_pt ?_
    | refine g_ptv ?_
    | refine g_star ?_
    | refine g_bmL ?_)
  | walk_at "goA"
  | walk_at "goT"
  | walk_at "goB")
local macro_rules | `(tactic| walk_at "go") => `(tactic| repeat walk_at "go1")
theorem inV_int (k : Int) (ns : List Int) : inV (.int k) (ns.map V.int) = decide (k ∈ ns) := by
  induction ns with
  | nil => rfl
  | cons n ns ih =>
    show (eqV (.int n) (.int k) || inV (.int k) (ns.map V.int)) = _
    rw [ih]
    show ((n == k) || decide (k ∈ ns)) = _
    by_cases h : n = k
    · subst h
      simp
    · have h2 : ¬ k = n := fun e => h e.symm
      simp [h, h2]
theorem flat_ints (ns : List Int) : (ns.map V.int).all flatV = true := by
  rw [List.all_map, List.all_eq_true]
  intro x _
  rfl
/-- the deeds without those at the places ns -/
def dropAt (ds : List Dd) (ns : List Int) : List Dd := ((List.range ds.length).filter fun (i : Nat) => !decide ((i : Int) ∈ ns)).map fun (i : Nat) => ds[i]?.getD (.pl [])
local macro_rules | `(tactic| walk_at "lk") => `(tactic| exact lk_no (by decide +kernel))
local macro_rules | `(tactic| walk_at "lk") => `(tactic| exact lk_kept)
section
variable {P : Program} {w : World} {K : PySem.W.Frag} {mg : Str → Option Value} {base : Heap}
def sp_Plan_without (K : PySem.W.Frag) : Sp := fun vs H Q _ => ∃ p t ds ns, vs = [.ref p, .ref t] ∧ PlanAt K H p ds ∧ SqT K H t (ns.map V.int) ∧ ns.Nodup ∧ (∀ n ∈ ns, 0 ≤ n ∧ n < (ds.length : Int)) ∧ ds.length ≤ 12 ∧ ns.length ≤ 1000 ∧ (∀ d ∈ ds, DdOk d) ∧
  ∀ r H', Same H H' → H r = none → PlanAt K H' r (dropAt ds ns) → Q (.ref r) H'
theorem u_Plan_without {p t : Addr} {ds : List Dd} {ns : List Int} {H : Hp} {Q : VK} {E : XK} (h1 : PlanAt K H p ds) (h2 : SqT K H t (ns.map V.int)) (nd : ns.Nodup) (b : ∀ n ∈ ns, 0 ≤ n ∧ n < (ds.length : Int)) (l : ds.length ≤ 12) (l2 : ns.length ≤ 1000) (o : ∀ d ∈ ds, DdOk d)
    (k : ∀ r H', Same H H' → H r = none → PlanAt K H' r (dropAt ds ns) → Q (.ref r) H') : sp_Plan_without K [.ref p, .ref t] H Q E := ⟨p, t, ds, ns, rfl, h1, h2, nd, b, l, l2, o, k⟩
theorem dropAt_ok {ds : List Dd} {ns : List Int} (o : ∀ d ∈ ds, DdOk d) : ∀ d ∈ dropAt ds ns, DdOk d := fun d hd => by
  unfold dropAt at hd
  obtain ⟨i, hi, e⟩ := List.mem_map.mp hd
  have hi2 := List.mem_range.mp (List.mem_filter.mp hi).1
  rw [List.getElem?_eq_getElem hi2] at e
  exact o d (by rw [← e]; exact List.getElem_mem hi2)
theorem dropAt_len (ds : List Dd) (ns : List Int) : (dropAt ds ns).length ≤ ds.length := by
  unfold dropAt
  rw [List.length_map]
  have := List.length_filter_le (fun i : Nat => !decide ((i : Int) ∈ ns)) (List.range ds.length)
  rwa [List.length_range] at this
theorem sc_Plan_without : FnScope ["self", "indexes", "left_out", "index", "deed"] ["self", "indexes"] (defScope s_Plan_without) := C8.fnScope_by (by decide +kernel)
theorem c_Plan_without (T : Tx K mg) : C8.Met P w K mg base 7 (He.ga K "Plan") "without" (sp_Plan_without K) [] := by
  refine metD T.d_Plan_without T.l_Plan T.me_Plan_without (fun _ _ _ _ _ _ us hl => match us, hl with | [_, _], _ => rfl) sc_Plan_without (fun vs H Q E ⟨_, _, _, _, e, _⟩ => by rw [e]; rfl) fun fd cdv A outer s H vs Q E hr h => ?_
  obtain ⟨p, t, ds, ns, rfl, hP, hx, nd, hb, hl, hns, o, k⟩ := h
  refine ⟨_, (pss_cons (ps_if (pt_not (pt_val (pe_callB call_isi rfl T.b_isinstance (by decide +kernel) (pa_cons (pv 1) (pa_cons (pe_ty (n := "tuple") rfl T.b_tuple (by decide +kernel)) pa_nil)))))
        (pss_one ps_never)
        pss_nil)
      (pss_cons (ps_set (i := 2) sc_Plan_without.nd rfl (Or.inr rfl) (pe_nlst pa_nil))
      (pss_cons (ps_for PassesOwn.never rfl (pj_tup (pv 1)) (pg_name (i := 3) sc_Plan_without.nd rfl (Or.inl rfl))
        (pss_cons (ps_if (PW.pt (pw_or (pt_not (pt_val (C8.pe_mt (c_Plan_has T) hr (by decide) (pv 0) (pa_cons (pv 3) pa_nil)))) (pw_or1 (pt_cmpR op_in_seq (pv 3) (pv 2) (by rfl)))))
          (pss_one ps_never)
          pss_nil)
        (pss_one (ps_expr (pe_bm PySem.F.plainAttrs_list PySem.F.slot_list_append PySem.F.type_list_append mt_nappend (pv 2) (pa_cons (pv 3) pa_nil))))))
      (pss_one (ps_ret (pe_cm (m_Plan T) hr (by decide) rfl (pa_cons (pe_callTy call_ntuple rfl T.b_tuple (by decide +kernel) (pa_cons (pe_lc (own := [("index", 3), ("deed", 4)]) rfl sc_Plan_without.nd (pj_enumT rfl T.b_enumerate (pa_cons (pe_fld (pv 0) rfl) pa_nil)) (blkOk_by (N := ["self", "indexes", "left_out", "index", "deed"]) (sc := defScope s_Plan_without) (by decide +kernel)) (fun _ _ _ _ _ => (pg_tupK (K := K) 2 rfl rfl (pgs_cons (pg_name (i := 3) sc_Plan_without.nd rfl (Or.inl rfl)) (pgs_cons (pg_name (i := 4) sc_Plan_without.nd rfl (Or.inl rfl)) pgs_nil)))) (fun _ _ _ _ _ => (pts_one (pt_cmpR (op_notInK (K := K) rfl) (pv 3) (pv 2) (by rfl)))) (fun _ _ _ _ _ => (pv 4))) pa_nil)) pa_nil))))))), ?_⟩
  walk_at "st"
  have lF := T.l_Plan
  have nF := T.n_Plan_kept
  obtain ⟨dx, u, hp, ⟨as, hu, p1⟩⟩ := id hP
  have l1 := p1.length
  walk_at "go"
  rename_i q H1 nq s1 hq
  refine for_w walk_tup (fun i σ' H' => Same H H' ∧ H' q = some (.lst ((ns.take i).map V.int)) ∧ ∃ x y, σ' = [some (.ref p), some (.ref t), some (.ref q), x, y]) ⟨s1, hq, none, none, rfl⟩ (fun i σ' H' _ z => Same.seqT z.1 hx) ?_ ?_
  · rintro i v σ' H2 H3 hi ⟨s2, hL, x, y, rfl⟩ ⟨rfl, hv⟩
    rw [List.length_map] at hi
    obtain ⟨n, hn, rfl⟩ : ∃ n, ns[i]? = some n ∧ v = V.int n := by
      rw [List.getElem?_map, List.getElem?_eq_getElem hi] at hv
      exact ⟨ns[i], List.getElem?_eq_getElem hi, (Option.some.inj hv).symm⟩
    have hb2 := hb n (List.mem_of_getElem? hn)
    have nin : n ∉ ns.take i := fun hm => by
      obtain ⟨j, hj, e⟩ := List.mem_iff_getElem.mp hm
      rw [List.length_take] at hj
      rw [List.getElem_take] at e
      have e2 : ns[j] = ns[i] := by
        rw [e]
        exact (Option.some.inj ((List.getElem?_eq_getElem hi).symm.trans hn)).symm
      have := (List.getElem_inj nd).mp e2
      omega
    have hfl := flat_ints (ns.take i)
    walk_at "go"
    refine u_Plan_has (hP.mono s2) hb2.1 hb2.2 ?_
    walk_at "go"
    rw [inV_int, decide_eq_false nin]
    walk_at "go"
    intro H4 b4 h4
    refine ⟨b4.same s2 nq, ?_, _, _, rfl⟩
    rw [h4, List.take_add_one, hn, List.map_append]
    rfl
  · rintro σ' H2 ⟨s2, hL, x, y, rfl⟩
    rw [List.length_map, List.take_length] at hL
    have hfl := flat_ints ns
    walk_at "go"
    refine lc_fil walk_enT (fun i => !decide ((i : Int) ∈ ns)) (fun i => as[i]?.getD .non) (by have := sizeLine_eq; omega) (fun H' s' => Same.seqT (s2.trans s') hu) ?_ ?_
    · rintro i v H3 H4 k1 k2 hi s3 ⟨U, z, rfl, nU, s4, hU, hz⟩ h1 h2
      walk_at "go"
      refine ⟨rfl, ?_⟩
      walk_at "go"
      rw [if_pos rfl, inV_int]
      refine if2 (fun e => ?_) (fun e => ?_)
      · walk_at "go"
        rw [show z = as[i]?.getD V.non by rw [hz]; rfl]
        exact h1 e _ s4
      · exact h2 e _ s4
    · walk_at "go"
      rename_i r1 H3 n3 s3 h3 r2 H4 s4 h4
      have s14 := (s2.trans s3).trans s4
      refine u_Plan (ds := dropAt ds ns) ⟨_, h4, ?_⟩ (Nat.le_trans (dropAt_len ds ns) hl) (dropAt_ok o) fun r H' s' n' h' => k r H' (s14.trans s') (s14.free n') h'
      rw [l1]
      exact pr_fil (PySem.Paired.mono (fun _ _ h => h.mono s14) p1) (fun i => !decide ((i : Int) ∈ ns)) ds.length V.non (Dd.pl [])
/-! exchanged -/
def swapAt (ds : List Dd) (s : Nat) : List Dd := ds.take s ++ ([ds[s + 1]?.getD (.pl []), ds[s]?.getD (.pl [])] ++ ds.drop (s + 2))
def sp_Plan_exchanged (K : PySem.W.Frag) : Sp := fun vs H Q _ => ∃ p ds, ∃ s : Nat, vs = [.ref p, .int (s : Int)] ∧ PlanAt K H p ds ∧ s + 1 < ds.length ∧ ds.length ≤ 12 ∧ (∀ d ∈ ds, DdOk d) ∧ ∀ r H', Same H H' → H r = none → PlanAt K H' r (swapAt ds s) → Q (.ref r) H'
theorem u_Plan_exchanged {p : Addr} {ds : List Dd} {s : Nat} {H : Hp} {Q : VK} {E : XK} (h1 : PlanAt K H p ds) (hs : s + 1 < ds.length) (l : ds.length ≤ 12) (o : ∀ d ∈ ds, DdOk d)
    (k : ∀ r H', Same H H' → H r = none → PlanAt K H' r (swapAt ds s) → Q (.ref r) H') : sp_Plan_exchanged K [.ref p, .int (s : Int)] H Q E := ⟨p, ds, s, rfl, h1, hs, l, o, k⟩
theorem swapAt_ok {ds : List Dd} {s : Nat} (hs : s + 1 < ds.length) (o : ∀ d ∈ ds, DdOk d) : ∀ d ∈ swapAt ds s, DdOk d := fun d hd => by
  unfold swapAt at hd
  rw [List.getElem?_eq_getElem hs, List.getElem?_eq_getElem (show s < ds.length by omega)] at hd
  rcases List.mem_append.mp hd with h | h
  · exact o d (List.mem_of_mem_take h)
  · rcases List.mem_append.mp h with h | h
    · rcases List.mem_cons.mp h with h | h
      · exact o d (by rw [h]; exact List.getElem_mem hs)
      · rw [List.mem_singleton] at h
        exact o d (by rw [h]; exact List.getElem_mem (show s < ds.length by omega))
    · exact o d (List.mem_of_mem_drop h)
theorem swapAt_len {ds : List Dd} {s : Nat} (hs : s + 1 < ds.length) : (swapAt ds s).length = ds.length := by
  unfold swapAt
  simp only [List.length_append, List.length_take, List.length_drop, List.length_cons, List.length_nil]
  omega
theorem sc_Plan_exchanged : FnScope ["self", "index", "before", "behind"] ["self", "index"] (defScope s_Plan_exchanged) := C8.fnScope_by (by decide +kernel)
theorem c_Plan_exchanged (T : Tx K mg) : C8.Met P w K mg base 7 (He.ga K "Plan") "exchanged" (sp_Plan_exchanged K) [] := by
  refine metD T.d_Plan_exchanged T.l_Plan T.me_Plan_exchanged (fun _ _ _ _ _ _ us hl => match us, hl with | [_, _], _ => rfl) sc_Plan_exchanged (fun vs H Q E ⟨_, _, _, e, _⟩ => by rw [e]; rfl) fun fd cdv A outer s H vs Q E hr h => ?_
  obtain ⟨p, ds, i, rfl, hP, hi, hl, o, k⟩ := h
  refine ⟨_, (pss_cons (ps_if (PW.pt (pw_or (pt_not (pt_val (C8.pe_mt (c_Plan_has T) hr (by decide) (pv 0) (pa_cons (pv 1) pa_nil)))) (pw_or1 (pt_not (pt_val (C8.pe_mt (c_Plan_has T) hr (by decide) (pv 0) (pa_cons (pe_op op_add (pv 1) pe_int) pa_nil)))))))
        (pss_one ps_never)
        pss_nil)
      (pss_cons (ps_par (i := 2) (j := 3) rfl sc_Plan_exchanged.nd rfl rfl (by decide) rfl rfl (pa_cons (pe_slice sl_ntup (pe_fld (pv 0) rfl) po_none (po_some (pv 1))) (pa_cons (pe_slice sl_ntup (pe_fld (pv 0) rfl) (po_some (pe_op op_add (pv 1) pe_int)) po_none) pa_nil)) (by rfl))
      (pss_one (ps_ret (pe_cm (m_Plan T) hr (by decide) rfl (pa_cons (pe_ntup (StX.pa_star (pv 2) (pa_cons (pe_ix ix_tup (pe_fld (pv 0) rfl) (pe_op op_add (pv 1) pe_int) (fun _ _ => rfl)) (pa_cons (pe_ix ix_tup (pe_fld (pv 0) rfl) (pv 1) (fun _ _ => rfl)) (StX.pa_star (pv 3) pa_nil))))) pa_nil)))))), ?_⟩
  walk_at "st"
  have lF := T.l_Plan
  have nF := T.n_Plan_kept
  obtain ⟨dx, u, hp, ⟨as, hu, p1⟩⟩ := id hP
  have l1 := p1.length
  have e2 : ((i : Int) + 1) = ((i + 1 : Nat) : Int) := by omega
  have e3 : ((i : Int) + 2) = ((i + 2 : Nat) : Int) := by omega
  have h1 : as[i + 1]? = some (as[i + 1]'(by omega)) := List.getElem?_eq_getElem _
  have h0 : as[i]? = some (as[i]'(by omega)) := List.getElem?_eq_getElem _
  have a0 := atI_nat h0
  have a1 := atI_nat h1
  walk_at "go"
  refine u_Plan_has hP (by omega) (by omega) ?_
  walk_at "go"
  refine u_Plan_has hP (by omega) (by omega) ?_
  walk_at "go"
  rename_i q1 H1 s1 t1 q2 H2 s2 t2
  rw [e3, cut_from, cut_to]
  have s12 := s1.trans s2
  walk_at "go"
  rename_i q3 H3 n3 s3 t3
  refine u_Plan (ds := swapAt ds i) ⟨_, SqT.of t3, ?_⟩ (by rw [swapAt_len hi]; exact hl) (swapAt_ok hi o) fun r H' s' n' h' => k r H' ((s12.trans s3).trans s') ((s12.trans s3).free n') h'
  have p3 := PySem.Paired.mono (fun _ _ h => DeedAt.mono (s12.trans s3) h) p1
  obtain ⟨d1, g1, f1⟩ := pr_get p3 h1
  obtain ⟨d0, g0, f0⟩ := pr_get p3 h0
  rw [List.append_nil]
  unfold swapAt
  rw [g1, g0]
  exact pr_app (pr_take p3 i) (.cons f1 (.cons f0 (pr_drop p3 (i + 2))))
end
end RL
set_option maxHeartbeats 4000000
/-! roundline: sets of ints: of a list, their size, sorted -/
namespace RL
open PySem PySem.Spec PyProof.Rows L2
abbrev ObS (w : World) : Obj := { cls := .type "set", dict := none, data := .set #[] 0 (.fresh 0 0 (!w.params.followText "set-order")) }
abbrev HpS (w : World) (h : Heap) : Heap := h.push (ObS w)
theorem hS_at (w : World) (h : Heap) : (HpS w h).get? h.objs.size = some (ObS w) := Heap.get?_push_size _ rfl
section
variable {B : Program} {w : World} {R : Around} {F0 : Value → Shared → Prop} {z : Shared}
theorem set_of_lst {b : Addr} {us : Array Value} (ks : List Int) {N : Value → Shared → Prop} (hd : R.handled = none) (hb : z.heap.IsList b us) (hk : IntsAre us.toList ks) (few : ks.length + 1 < scanBound)
    (go : ∀ (g : Heap) (tk c : Nat), SetR w g z.heap.objs.size (fun j => decide (j ∈ ks)) c → c ≤ ks.length → (∀ a o, z.heap.get? a = some o → g.get? a = some o) → N (.ref z.heap.objs.size) { z with heap := g, toks := tk }) :
    wpAny (model B w) R (call (.type "set") [.ref b]) N F0 z := by
  have nsz : us.size = ks.length := by
    have e := IntsAre.length hk
    rwa [Array.length_toList] at e
  obtain ⟨mc, mt, mm⟩ := F.called_set.mro
  have made := F.called_set.made
  have ss := F.called_set.sub
  refine wpAny_call (codeAny_of_tree ?_)
  show wpAny _ _ (callAny (.type "set") _) _ _ z
  refine wpAny_pure ⟨Code.quiet_builtin _ (by decide +kernel), codeAny_builtin F.entry_type_call ?_⟩
  rw [Around.under_plain (weight_type_call_type "set" [.ref b] []) rfl]
  have n1 := F.called_set.notType
  have n2 := F.called_set.canCreate
  have n3 := F.typeCall_set_1 (.ref b)
  repeat (any_goals (first | assumption | wp_step))
  refine codeAny_mono (code_set_led1 (.ref b) (E := F0) (Q₁ := fun ob z1 => ob = .ref z.heap.objs.size ∧ z1 = { z with heap := HpS w z.heap }) ⟨rfl, rfl⟩) fun x z1 hx => ?_
  cases x with
  | error e => exact hx
  | ok y =>
    cases y with
    | ret ob =>
      obtain ⟨rfl, rfl⟩ := hx
      have hS := hS_at w z.heap
      have hT : Shared.TypeIs { z with heap := HpS w z.heap } (.ref z.heap.objs.size) "set" := ⟨_, hS, rfl⟩
      have i1 := F.called_set.init.lookup
      have i2 := F.called_set.init.bind (.ref z.heap.objs.size)
      repeat (any_goals (first | assumption | wp_step))
      refine codeAny_mono (codeAny_call_builtin (R := wants (fun v z2 => v = .none ∧ ∃ g tk c, z2 = { z with heap := g, toks := tk } ∧ SetR w g z.heap.objs.size (fun j => decide (j ∈ ks)) c ∧ c ≤ ks.length ∧
          (∀ a o, z.heap.get? a = some o → g.get? a = some o)) F0) F.called_set.init.plain F.entry_set_init (check_set_init_1 hT ?_)) fun v z2 hv => ?_
      · obtain ⟨ol, ho, hcl, nl, hdl⟩ := hb
        obtain ⟨oc, od, oda, osl⟩ := ol
        simp only at hcl hdl
        subst hcl; subst hdl
        have ho' : (HpS w z.heap).get? b = some { cls := .type "list", dict := od, data := .seq us nl, slots := osl } := Heap.get?_push_of_some _ ho
        have u1 := F.sub_list_set
        have u2 := F.sub_list_frozenset
        have u3 : (Value.type "list" == Value.type "dict") = false := by decide
        have hL : (HpS w z.heap).IsList b us := ⟨_, ho', rfl, nl, rfl⟩
        unfold Builtin.«set.__init__» noKeywords Builtin.Frozenset.updateFrom
        generalize hPI : pyIter = PI
        wp_walk
        subst hPI
        refine wpAny_pyIter_list hL ?_
        refine wpAny_bind (wpAny_runValue ?_)
        have lt0 : b < z.heap.objs.size := Heap.lt_size ho
        have hd3 : R.in1.in1.in1.handled = none := by simp [hd]
        have z1 : (HpS w z.heap).objs.size = z.heap.objs.size + 1 := Heap.size_push ..
        have ne1 : b ≠ (HpS w z.heap).objs.size := by rw [z1]; exact Nat.ne_of_lt (Nat.lt_succ_of_lt lt0)
        have nin : z.heap.objs.size ∉ [(HpS w z.heap).objs.size, b] := by
          rw [z1]
          simp only [List.mem_cons, List.not_mem_nil, or_false, not_or]
          exact ⟨Nat.ne_of_lt (Nat.lt_succ_self _), Nat.ne_of_gt lt0⟩
        have val : ∀ (i : Nat) (v : Value), us[i]? = some v → ∃ k t, ks[i]? = some k ∧ v = .int k t := fun i v hv => by
          have li : i < ks.length := by rw [← nsz]; exact (Array.getElem?_eq_some_iff.mp hv).1
          obtain ⟨t, e⟩ := PyProof.Rows.IntsAre.int_at hk i v (by rw [Array.getElem?_toList]; exact hv)
          refine ⟨ks[i], t, List.getElem?_eq_getElem li, ?_⟩
          rw [e, List.getD_eq_getElem?_getD, List.getElem?_eq_getElem li] <;> rfl
        refine set_update_ints ((Walks.list hd3 _ b ne1 us).toS) z.heap.objs.size nin ks nsz few val (us.size - 0) 0 _ (by omega) (Nat.zero_le _) ⟨⟨_, Heap.get?_push_size _ rfl, rfl, rfl⟩, (hL.push _)⟩ ?hA ?hB
        case hA => exact ⟨0, Nat.le_refl 0, setR_new_at (Heap.get?_push_of_some _ hS)⟩
        case hB =>
          intro z3 c3 mv cl3 sr
          obtain ⟨g3, gg, d3, t3, os3⟩ := z3
          have e1 : gg = z.gens := mv.gens
          have e2 : d3 = z.drawn := mv.drawn
          have e3 : os3 = z.os := mv.os
          subst e1; subst e2; subst e3
          show wpAny _ _ _ _ _ _
          refine wpAny_pure ?_
          show wpAny _ _ (ret Value.none) _ _ _
          rw [nsz] at cl3
          refine wpAny_pure ⟨rfl, g3, t3, c3, rfl, sr, cl3, fun a o e => ?_⟩
          have la : a < z.heap.objs.size := Heap.lt_size e
          exact mv.heap a o (by
            simp only [List.mem_cons, List.not_mem_nil, or_false, not_or]
            rw [z1]
            exact ⟨Nat.ne_of_lt la, Nat.ne_of_lt (Nat.lt_succ_of_lt la)⟩) (Heap.get?_push_of_some _ (Heap.get?_push_of_some _ e))
      · cases v with
        | error e => exact hv
        | ok y2 =>
          cases y2 with
          | ret r =>
            obtain ⟨rfl, g, tk, c, rfl, h1, h2, h3⟩ := hv
            repeat (any_goals (first | assumption | wp_step))
            exact go _ _ _ h1 h2 h3
          | _ => exact hv.elim
    | _ => exact hx.elim
end
end RL
set_option maxHeartbeats 4000000
namespace RL
open PySem PySem.Spec PyProof.Rows L2
section
variable {B : Program} {w : World} {R : Around} {F0 : Value → Shared → Prop} {z : Shared}
/-- sorted(t), t a tuple of few ints -/
theorem sort_tup {b : Addr} {us : Array Value} (ks : List Int) {N : Value → Shared → Prop} (hb : z.heap.IsTuple b us) (hk : IntsAre us.toList ks) (few : ks.length < 64)
    (go : ∀ (g0 g : Heap) (q : Addr) (out : Array Value) (c : Nat) (js : List Int), (∀ a o, z.heap.get? a = some o → g0.get? a = some o) → (∀ a o, g0.get? a = some o → g.get? a = some o) → g0.objs.size ≤ q → g.get? q = some (seqObj "list" out c) → IntsAre out.toList js → js.Perm ks → js.Pairwise (· ≤ ·) → N (.ref q) { z with heap := g }) :
    wpAny (model B w) R (call (.builtin "sorted") [.ref b]) N F0 z := by
  obtain ⟨ob, h1, h2, n, h3⟩ := hb
  have nsz : us.toList.length = ks.length := IntsAre.length hk
  have nsz2 : us.size = ks.length := by rwa [Array.length_toList] at nsz
  refine Calls.call_function_entry kind_sorted plain_sorted entry_sorted (args_sorted1 _) ?_
  unfold Builtin.«sorted»
  refine wpAny_bind (m := checkCount "sorted" 1 1 _) (wpAny_pure ?_)
  refine wpAny_bind (wpAny_collect_seq b (.inr rfl) h1 h2 h3 (fun g kg => ?_) (by rw [nsz2, sizeLine_eq]; omega))
  refine wpAny_bind (wpAny_newList ?_ (by rw [nsz, sizeLine_eq]; omega))
  have at1 : (g.push (seqObj "list" us.toList.toArray 0)).get? g.objs.size = some (seqObj "list" us.toList.toArray 0) := Heap.get?_push_size _ rfl
  refine wpAny_bind (wpAny_holding (wpAny_call_entry slot_list_sort ⟨_, at1, rfl⟩ entry_list_sort (list_sort_tree at1 hk (by rw [nsz]; exact few) fun out js a1 a2 a3 => ⟨_, rfl, ?_⟩) (args_list_sort _)))
  obtain ⟨c, hc⟩ := sortedHeap_at (vs := us.toList) (out := out) at1
  refine wpAny_pure ⟨_, rfl, go g _ g.objs.size out c js kg (fun a o e => ?_) (Nat.le_refl _) hc a1 a2 a3⟩
  have la := Heap.lt_size e
  show (sortedHeap (g.push (seqObj "list" us.toList.toArray 0)) g.objs.size us.toList out).get? a = some o
  rw [sortedHeap_old (Nat.ne_of_lt la) (by rw [size_push']; exact Nat.lt_succ_of_lt la)]
  exact Heap.get?_push_of_some _ e
end
section
variable {X : Cx}
def rSrtT (K : PySem.W.Frag) : List V → Hp → VK → Prop := fun vs H Q => ∃ (a : Addr) (ks : List Int), vs = [.ref a] ∧ SqT K H a (ks.map V.int) ∧ ks.length < 64 ∧
  ∀ (js : List Int) (p : Addr) (H2 : Hp), js.Perm ks → js.Pairwise (· ≤ ·) → H p = none → Same H H2 → H2 p = some (.lst (js.map V.int)) → Q (.ref p) H2
theorem cr_sortedTI : CallR X (.builtin "sorted") (rSrtT X.K) := by
  intro pins s σ H vs us Q I r h
  obtain ⟨a, ks, rfl, hs, few, q⟩ := h
  obtain ⟨its, rv, ht, hz⟩ := I.tuple hs
  rw [Vals.ref1 r]
  have hi := rv.ints
  refine sort_tup ks (show s.heap.IsTuple a its.toArray from ht) (by simpa using hi) few fun g0 g p out c js k0 kg le hp h1 h2 h3 => ?_
  have hl : (js.map V.int).length ≤ sizeLine := by
    rw [List.length_map, h2.length_eq, sizeLine_eq]
    omega
  have I1 : Inv X pins σ H { s with heap := g0 } := I.kept (t' := s.toks) k0
  exact ⟨.ref p, upd H p (.lst (js.map V.int)), I1.laid (t' := s.toks) (fun b o e => kg b o e) le ⟨hl, out.toList, c, vals_of_ints h1, by simpa using hp⟩, rfl, q js p _ h2 h3 (I1.hok.fresh le) (same_new (I1.hok.fresh le)) upd_same⟩
def tLenSet (K : PySem.W.Frag) (te : TE) : TE := fun σ H Q => te σ H fun x H1 => ∃ (p : Addr) (ks : List Int), x = .ref p ∧ SqT K H1 p (ks.map V.int) ∧ ks.Nodup ∧ ks.length ≤ 1000 ∧ Q (.int (ks.length : Int)) H1
theorem pe_lenSetT {a : Expr} {te : TE} {p p2 q pos : Pos} (hc : X.calm = true) (hg : Gl X "len") (hm : X.mg "len" = none) (hg2 : Gl X "set") (hm2 : X.mg "set" = none) (ha : PE X a te)
    (na : starEach [a] X.env = (false, eval a X.env) :: starEach [] X.env := by rfl) : PE X (.Call (.Name "len" p) [.Call (.Name "set" p2) [a] [] q] [] pos) (tLenSet X.K te) := by
  refine ⟨fun pins s σ H Q I h => Call_ (ld_blt I hg hm PySem.boot_len (callWith_builtin1 (args_cons (Call_ (ld_blt I hg2 hm2 boot_set ?_)) rfl) rfl rfl))⟩
  refine callWith_type1 (args_cons (thn (ha.run pins s σ H _ I h) fun v s1 ⟨x, H1, I1, r1, q1⟩ => args_nil ?_) na) na rfl
  obtain ⟨l, ks, rfl, hq, nd, few, q1⟩ := q1
  cases r1
  obtain ⟨its, rv, ht, hz⟩ := I1.tuple hq
  have hi := rv.ints
  refine call_set_tupI ks (I1.ok.hd hc) (show s1.heap.IsTuple l its.toArray from ht) (by simpa using hi) (by unfold scanBound; omega) fun g tk c sr hc kg => args_nil ?_
  obtain ⟨o, es, ep, t, ho, hex, hd, _, nd2, hm2, hsz, hf, hn, _, _⟩ := sr
  have en : es.size = ks.length := by
    have pm : (es.toList.map keyOf).Perm ks := by
      refine (List.perm_ext_iff_of_nodup nd2 nd).mpr fun k => ?_
      have := hm2 k
      rw [decide_eq_true_eq] at this
      exact this.symm
    have e := pm.length_eq
    rwa [List.length_map, Array.length_toList] at e
  have I2 : Inv X pins σ H1 { s1 with heap := g, toks := tk } := I1.kept fun b o e => kg b o e
  refine call_len_set ho hex hd hf (by rw [en]; have := sizeLine_eq; omega) ⟨.int (ks.length : Int), H1, I2.tok _, ⟨_, by rw [en]⟩, q1⟩
def tSortSet (K : PySem.W.Frag) (te : TE) : TE := fun σ H Q => te σ H fun x H1 => ∃ (p : Addr) (ks : List Int), x = .ref p ∧ SqL K H1 p (ks.map V.int) ∧ ks.length < 64 ∧
  ∀ (js : List Int) (p : Addr) (H2 : Hp), js.Pairwise (· < ·) → (∀ k, k ∈ js ↔ k ∈ ks) → js.length ≤ ks.length → H1 p = none → Same H1 H2 → H2 p = some (.lst (js.map V.int)) → Q (.ref p) H2
theorem pe_sortSet {a : Expr} {te : TE} {p p2 q pos : Pos} (hc : X.calm = true) (hg : Gl X "sorted") (hm : X.mg "sorted" = none) (hg2 : Gl X "set") (hm2 : X.mg "set" = none) (ha : PE X a te)
    (na : starEach [a] X.env = (false, eval a X.env) :: starEach [] X.env := by rfl) : PE X (.Call (.Name "sorted" p) [.Call (.Name "set" p2) [a] [] q] [] pos) (tSortSet X.K te) := by
  refine ⟨fun pins s σ H Q I h => Call_ (ld_blt I hg hm boot_sorted (callWith_builtin1 (args_cons (Call_ (ld_blt I hg2 hm2 boot_set ?_)) rfl) rfl rfl))⟩
  refine callWith_type1 (args_cons (thn (ha.run pins s σ H _ I h) fun v s1 ⟨x, H1, I1, r1, q1⟩ => args_nil ?_) na) na rfl
  obtain ⟨l, ks, rfl, hq, few, q1⟩ := q1
  cases r1
  obtain ⟨its, rv, ht, hz⟩ := I1.list hq
  have hi := rv.ints
  refine set_of_lst ks (I1.ok.hd hc) ht.isList (by simpa using hi) (by unfold scanBound; omega) fun g tk c sr cl kg => args_nil ?_
  have lt : s1.heap.objs.size < g.objs.size := sr.lt
  refine sorted_set sr (I1.ok.hd ‹X.calm = true›) (by omega) fun s2 p out c2 js k2 g2 o2 le hp h1 h2 h3 h4 => ?_
  have I2 : Inv X pins σ H1 { s1 with heap := g, toks := tk } := I1.kept fun b o e => kg b o e
  obtain ⟨h', g', d', t', o'⟩ := s2
  have e1 : o' = s1.os := o2
  have e2 : g' = s1.gens := g2
  subst e1 e2
  have hl : (js.map V.int).length ≤ sizeLine := by
    rw [List.length_map, h4, sizeLine_eq]
    omega
  have hq2 : H1 p = none := I2.hok.fresh le
  have u : Un (frs X.stack) [] H1 (upd H1 p (.lst (js.map V.int))) g h' := Un.laid k2 le hq2
  have hok : HOk X.prog X.w (upd H1 p (.lst (js.map V.int))) h' := I2.hok.laid k2 le ⟨hl, out.toList, c2, vals_of_ints h1, by simpa using hp⟩
  exact ⟨.ref p, _, I2.call' (ch := []) rfl u hok I1.bare (fun _ z => nomatch z), rfl, q1 js p _ h2 (fun k => by rw [h3 k, decide_eq_true_eq]) (by omega) hq2 (same_new hq2) upd_same⟩
end
end RL
set_option maxHeartbeats 1000000
/-! roundline: sets of distances, in plain numbers -/
namespace RL
/-! the pattern of flags, its periods -/
def gF (fl : List Bool) (i : Nat) : Bool := fl.getD (i % fl.length) false
def Per (fl : List Bool) (d : Nat) : Prop := ∀ i, gF fl (i + d) = gF fl i
theorem gF_lt {fl : List Bool} {i : Nat} (h : i < fl.length) : gF fl i = fl[i] := by
  unfold gF
  rw [Nat.mod_eq_of_lt h, List.getD_eq_getElem?_getD, List.getElem?_eq_getElem h]
  rfl
theorem gF_len (fl : List Bool) : Per fl fl.length := fun i => by
  unfold gF
  rw [Nat.add_mod_right]
theorem Per.mul {fl : List Bool} {d : Nat} (h : Per fl d) : ∀ k, Per fl (d * k)
  | 0 => fun i => by rw [Nat.mul_zero, Nat.add_zero]
  | k + 1 => fun i => by rw [Nat.mul_succ, ← Nat.add_assoc, h, Per.mul h k]
theorem Per.of_dvd {fl : List Bool} {d e : Nat} (h : Per fl d) (v : d ∣ e) : Per fl e := by
  obtain ⟨k, rfl⟩ := v
  exact h.mul k
theorem Per.mod {fl : List Bool} {a b : Nat} (ha : Per fl a) (hb : Per fl b) : Per fl (a % b) := fun i => by
  have h1 := hb.mul (a / b) (i + a % b)
  rw [Nat.add_assoc, Nat.mod_add_div, ha] at h1
  exact h1.symm
theorem Per.gcd {fl : List Bool} : ∀ {a b : Nat}, Per fl a → Per fl b → Per fl (Nat.gcd a b) := fun {a b} => by
  refine Nat.gcd.induction (P := fun a b => Per fl a → Per fl b → Per fl (Nat.gcd a b)) a b (fun b _ hb => by rwa [Nat.gcd_zero_left]) fun a b hp ih ha hb => ?_
  rw [Nat.gcd_rec]
  exact ih (hb.mod ha) ha
theorem gF_mod {fl : List Bool} {d : Nat} (h : Per fl d) (i : Nat) : gF fl (i % d) = gF fl i := by
  have := h.mul (i / d) (i % d)
  rw [Nat.mod_add_div] at this
  exact this.symm
/-- the program's look: the flags behind the first d are the flags but the last d -/
theorem per_iff {fl : List Bool} {d : Nat} (hn : 0 < fl.length) (h0 : 0 < d) (v : d ∣ fl.length) : fl.drop d = fl.take (fl.length - d) ↔ Per fl d := by
  obtain ⟨k, hk⟩ := v
  constructor
  · intro h
    have step : ∀ i, i + d < fl.length → gF fl (i + d) = gF fl i := fun i hi => by
      rw [gF_lt hi, gF_lt (by omega)]
      have e := congrArg (·[i]?) h
      simp only [List.getElem?_drop, List.getElem?_take] at e
      rw [if_pos (by omega), List.getElem?_eq_getElem (by omega), List.getElem?_eq_getElem (by omega)] at e
      have := Option.some.inj e
      simpa [Nat.add_comm] using this
    have many : ∀ (j r : Nat), r + d * j < fl.length → gF fl (r + d * j) = gF fl r := by
      intro j
      induction j with
      | zero => intro r _; rw [Nat.mul_zero, Nat.add_zero]
      | succ j ih =>
        intro r hr
        rw [Nat.mul_succ] at hr ⊢
        rw [← Nat.add_assoc, step _ (by omega), ih r (by omega)]
    intro i
    have e1 : gF fl (i + d) = gF fl ((i % fl.length + d) % fl.length) := by
      unfold gF
      rw [Nat.mod_mod, Nat.mod_add_mod]
    have e2 : gF fl i = gF fl (i % fl.length) := by
      unfold gF
      rw [Nat.mod_mod]
    rw [e1, e2]
    have hr := Nat.mod_lt i hn
    generalize i % fl.length = r at hr
    rcases Nat.lt_or_ge (r + d) fl.length with lt | ge
    · rw [Nat.mod_eq_of_lt lt]
      exact step r lt
    · have hd : d ≤ fl.length := by
        rw [hk]
        rcases k with _ | k
        · omega
        · rw [Nat.mul_succ]; omega
      rw [Nat.mod_eq_sub_mod ge, Nat.mod_eq_of_lt (by omega)]
      have e3 : r = (r + d - fl.length) + d * (k - 1) := by
        have : d * (k - 1) + d = fl.length := by
          rw [hk, ← Nat.mul_succ]
          congr 1
          rcases k with _ | k
          · omega
          · rfl
        omega
      have := many (k - 1) (r + d - fl.length) (by omega)
      rw [← e3] at this
      exact this.symm
  · intro h
    refine List.ext_getElem? fun i => ?_
    rw [List.getElem?_drop, List.getElem?_take]
    rcases Nat.lt_or_ge (i + d) fl.length with lt | ge
    · rw [if_pos (by omega), List.getElem?_eq_getElem (by omega), List.getElem?_eq_getElem (by omega)]
      have := h i
      rw [gF_lt lt, gF_lt (by omega)] at this
      rw [← this]
      congr 2
      omega
    · rw [if_neg (by omega), List.getElem?_eq_none (by omega)]
/-- every divisor from 2 on has a member of ps among its own -/
def PD (n : Nat) (ps : List Nat) : Prop := ∀ d, 1 < d → d ∣ n → ∃ p ∈ ps, p ∣ d
/-- L is the least period of these flags -/
structure LPer (fl : List Bool) (L : Nat) : Prop where
  pos : 0 < L
  dvd : L ∣ fl.length
  per : Per fl L
  min : ∀ d, Per fl d → L ∣ d
theorem lper_of {fl : List Bool} {ps : List Nat} {L : Nat} (hp : PD fl.length ps) (h0 : 0 < L) (v : L ∣ fl.length) (h : Per fl L) (no : ∀ p ∈ ps, 0 < p → ¬ (p ∣ L ∧ Per fl (L / p))) : LPer fl L := by
  refine ⟨h0, v, h, fun d hd => ?_⟩
  have hg := h.gcd hd
  have g1 : Nat.gcd L d ∣ L := Nat.gcd_dvd_left L d
  obtain ⟨k, hk⟩ := id g1
  rcases Nat.lt_or_ge 1 k with lt | ge
  · obtain ⟨p, hp1, hp2⟩ := hp k lt (Nat.dvd_trans ⟨Nat.gcd L d, by rw [Nat.mul_comm]; exact hk⟩ v)
    have p0 : 0 < p := Nat.pos_of_dvd_of_pos hp2 (by omega)
    obtain ⟨m, hm⟩ := hp2
    have e : L = p * (Nat.gcd L d * m) := by
      rw [hm] at hk
      rw [← Nat.mul_assoc, Nat.mul_comm p, Nat.mul_assoc]
      exact hk
    exact absurd ⟨⟨_, e⟩, by
      have e2 : L / p = Nat.gcd L d * m := by
        have := Nat.mul_div_cancel_left (Nat.gcd L d * m) p0
        rwa [← e] at this
      rw [e2]
      exact hg.mul m⟩ (no p hp1 p0)
  · have k1 : k = 1 := by
      rcases k with _ | k
      · rw [Nat.mul_zero] at hk
        omega
      · omega
    rw [k1, Nat.mul_one] at hk
    rw [hk]
    exact Nat.gcd_dvd_right L d
theorem cut_g {fl : List Bool} {L : Nat} (h : LPer fl L) (hn : 0 < fl.length) : (fl.take L).length = L ∧ ∀ i, gF (fl.take L) i = gF fl i := by
  have hl : L ≤ fl.length := Nat.le_of_dvd hn h.dvd
  have e : (fl.take L).length = L := by rw [List.length_take]; omega
  refine ⟨e, fun i => ?_⟩
  have hi : i % L < L := Nat.mod_lt _ h.pos
  rw [← gF_mod h.per i, gF_lt (show i % L < fl.length by omega)]
  unfold gF
  rw [e, List.getD_eq_getElem?_getD, List.getElem?_take, if_pos hi, List.getElem?_eq_getElem (by omega)]
  rfl
/-! sets: their least flags, the changed distances -/
structure Ds where
  fl : List Bool
  xs : List Int
structure Ds.Ok (s : Ds) : Prop where
  canon : LPer s.fl s.fl.length
  asc : s.xs.Pairwise (· < ·)
  pos : ∀ x ∈ s.xs, 1 ≤ x
def Ds.mem (s : Ds) (d : Int) : Bool := gF s.fl d.toNat != decide (d ∈ s.xs)
theorem asc_eq : ∀ {l m : List Int}, l.Pairwise (· < ·) → m.Pairwise (· < ·) → (∀ x, x ∈ l ↔ x ∈ m) → l = m
  | [], [], _, _, _ => rfl
  | [], y :: m, _, _, h => nomatch (h y).mpr (List.mem_cons_self ..)
  | x :: l, [], _, _, h => nomatch (h x).mp (List.mem_cons_self ..)
  | x :: l, y :: m, hl, hm, h => by
    obtain ⟨l1, l2⟩ := List.pairwise_cons.mp hl
    obtain ⟨m1, m2⟩ := List.pairwise_cons.mp hm
    have e : x = y := by
      rcases List.mem_cons.mp ((h x).mp (List.mem_cons_self ..)) with e | e
      · exact e
      · rcases List.mem_cons.mp ((h y).mpr (List.mem_cons_self ..)) with e' | e'
        · exact e'.symm
        · have a := m1 x e
          have b := l1 y e'
          omega
    subst e
    refine congrArg (x :: ·) (asc_eq l2 m2 fun z => ⟨fun hz => ?_, fun hz => ?_⟩)
    · rcases List.mem_cons.mp ((h z).mp (List.mem_cons_of_mem _ hz)) with e | e
      · have := l1 z hz
        omega
      · exact e
    · rcases List.mem_cons.mp ((h z).mpr (List.mem_cons_of_mem _ hz)) with e | e
      · have := m1 z hz
        omega
      · exact e
theorem above : ∀ xs : List Int, ∃ B : Nat, ∀ x ∈ xs, x < (B : Int)
  | [] => ⟨0, fun _ h => nomatch h⟩
  | x :: xs => by
    obtain ⟨B, h⟩ := above xs
    refine ⟨B + x.toNat + 1, fun y hy => ?_⟩
    rcases List.mem_cons.mp hy with rfl | hy
    · omega
    · have := h y hy
      omega
theorem flag_ext {fl gl : List Bool} (hl : fl.length = gl.length) (h : ∀ i, gF fl i = gF gl i) : fl = gl := by
  refine List.ext_getElem hl fun i h1 h2 => ?_
  have := h i
  rwa [gF_lt h1, gF_lt h2] at this
theorem Ds.ext {s t : Ds} (hs : s.Ok) (ht : t.Ok) (h : ∀ d : Int, 1 ≤ d → s.mem d = t.mem d) : s = t := by
  obtain ⟨fl, xs⟩ := s
  obtain ⟨gl, ys⟩ := t
  have g : ∀ i, gF fl i = gF gl i := fun i => by
    obtain ⟨B, hB⟩ := above xs
    obtain ⟨C, hC⟩ := above ys
    have p1 : 0 < fl.length := hs.canon.pos
    have p2 : 0 < gl.length := ht.canon.pos
    have big : B + C + 1 ≤ i + fl.length * gl.length * (B + C + 1) := by
      have : 1 * (B + C + 1) ≤ fl.length * gl.length * (B + C + 1) := Nat.mul_le_mul_right _ (Nat.mul_pos p1 p2)
      omega
    have e1 : gF fl (i + fl.length * gl.length * (B + C + 1)) = gF fl i := by
      rw [Nat.mul_assoc]
      exact (gF_len fl).mul _ i
    have e2 : gF gl (i + fl.length * gl.length * (B + C + 1)) = gF gl i := by
      rw [Nat.mul_comm fl.length, Nat.mul_assoc]
      exact (gF_len gl).mul _ i
    rw [← e1, ← e2]
    generalize i + fl.length * gl.length * (B + C + 1) = j at big
    have := h (j : Int) (by omega)
    unfold Ds.mem at this
    have n1 : ¬ (j : Int) ∈ xs := fun z => by have := hB _ z; omega
    have n2 : ¬ (j : Int) ∈ ys := fun z => by have := hC _ z; omega
    rw [decide_eq_false n1, decide_eq_false n2] at this
    simpa using this
  have l1 : fl.length ∣ gl.length := hs.canon.min _ fun i => by rw [g, g]; exact gF_len gl i
  have l2 : gl.length ∣ fl.length := ht.canon.min _ fun i => by rw [← g, ← g]; exact gF_len fl i
  have e := flag_ext (Nat.dvd_antisymm l1 l2) g
  subst e
  congr 1
  refine asc_eq hs.asc ht.asc fun x => ?_
  have one : 1 ≤ x → (x ∈ xs ↔ x ∈ ys) := fun h1 => by
    have := h x h1
    unfold Ds.mem at this
    cases hg : gF fl x.toNat <;> simp only [hg] at this <;> by_cases a : x ∈ xs <;> by_cases b : x ∈ ys <;> simp_all
  exact ⟨fun hx => (one (hs.pos x hx)).mp hx, fun hx => (one (ht.pos x hx)).mpr hx⟩
/-! two joined by a table -/
def jnF (f : Bool → Bool → Bool) (fl gl : List Bool) : List Bool := (List.range (Nat.lcm fl.length gl.length)).map fun i => f (gF fl i) (gF gl i)
theorem jn_g (f : Bool → Bool → Bool) {fl gl : List Bool} (h1 : 0 < fl.length) (h2 : 0 < gl.length) (i : Nat) : (jnF f fl gl).length = Nat.lcm fl.length gl.length ∧ gF (jnF f fl gl) i = f (gF fl i) (gF gl i) := by
  have hl : (jnF f fl gl).length = Nat.lcm fl.length gl.length := by unfold jnF; rw [List.length_map, List.length_range]
  refine ⟨hl, ?_⟩
  have hp : 0 < Nat.lcm fl.length gl.length := Nat.lcm_pos h1 h2
  have hm := Nat.mod_lt i hp
  rw [← gF_mod ((gF_len fl).of_dvd (Nat.dvd_lcm_left fl.length gl.length)) i, ← gF_mod ((gF_len gl).of_dvd (Nat.dvd_lcm_right fl.length gl.length)) i]
  show (jnF f fl gl).getD (i % (jnF f fl gl).length) false = _
  rw [hl]
  unfold jnF
  rw [List.getD_eq_getElem?_getD, List.getElem?_map, List.getElem?_range hm]
  rfl
def jnX (f : Bool → Bool → Bool) (s t : Ds) (js : List Int) : List Int := js.filter fun d => f (s.mem d) (t.mem d) != f (gF s.fl d.toNat) (gF t.fl d.toNat)
theorem jn_mem (f : Bool → Bool → Bool) {s t : Ds} (hs : s.Ok) (ht : t.Ok) {js : List Int} (hj : ∀ k, k ∈ js ↔ k ∈ s.xs ∨ k ∈ t.xs) {L : Nat} (hL : LPer (jnF f s.fl t.fl) L) (d : Int) :
    (Ds.mk ((jnF f s.fl t.fl).take L) (jnX f s t js)).mem d = f (s.mem d) (t.mem d) := by
  have h0 := jn_g f hs.canon.pos ht.canon.pos 0
  have hp : 0 < (jnF f s.fl t.fl).length := by rw [h0.1]; exact Nat.lcm_pos hs.canon.pos ht.canon.pos
  show (gF ((jnF f s.fl t.fl).take L) d.toNat != decide (d ∈ jnX f s t js)) = _
  rw [(cut_g hL hp).2, (jn_g f hs.canon.pos ht.canon.pos d.toNat).2]
  have hd : decide (d ∈ jnX f s t js) = (decide (d ∈ js) && (f (s.mem d) (t.mem d) != f (gF s.fl d.toNat) (gF t.fl d.toNat))) := by
    unfold jnX
    rw [Bool.eq_iff_iff]
    simp only [decide_eq_true_eq, List.mem_filter, Bool.and_eq_true]
  rw [hd]
  by_cases h : d ∈ js
  · rw [decide_eq_true h, Bool.true_and]
    cases f (s.mem d) (t.mem d) <;> cases f (gF s.fl d.toNat) (gF t.fl d.toNat) <;> rfl
  · have n1 : ¬ d ∈ s.xs := fun z => h ((hj d).mpr (.inl z))
    have n2 : ¬ d ∈ t.xs := fun z => h ((hj d).mpr (.inr z))
    rw [decide_eq_false h, Bool.false_and]
    unfold Ds.mem
    rw [decide_eq_false n1, decide_eq_false n2]
    simp
theorem cut_canon {fl : List Bool} {L : Nat} (h : LPer fl L) (hn : 0 < fl.length) : LPer (fl.take L) (fl.take L).length := by
  obtain ⟨e, g⟩ := cut_g h hn
  rw [e]
  exact ⟨h.pos, by rw [e]; exact Nat.dvd_refl _, fun i => by rw [g, g]; exact h.per i, fun d hd => h.min d fun i => by rw [← g, ← g]; exact hd i⟩
end RL
set_option maxHeartbeats 4000000
namespace RL
open PySem PySem.Spec PyProof.Rows L2
local macro_rules | `(tactic| walk_at "hp") => `(tactic| first
  | assumption
  | ((with_reducible refine' SqT.of ?gz); (case gz => walk_at "hp"))
  | ((with_reducible refine' SqL.of ?gz); (case gz => walk_at "hp"))
  | ((with_reducible refine' Same.seqT (by assumption) ?gz); (case gz => walk_at "hp"))
  | ((with_reducible refine' Same.seq (by assumption) ?gz); (case gz => walk_at "hp"))
  | ((with_reducible refine' s_at (by assumption) ?gz); (case gz => walk_at "hp"))
  | ((with_reducible refine' dp_mono (by assumption) ?gz); (case gz => walk_at "hp")))
local macro_rules | `(tactic| walk_at "sm") => `(tactic| first
  | assumption
  | exact Same.refl _
  | (with_reducible refine Same.trans ?_ (by assumption); walk_at "sm"))
local macro_rules | `(tactic| walk_at "st") => `(tactic| try dsimp only [cxOf, L2.Cx.nox, L2.Cx.wish])
local macro_rules | `(tactic| walk_at "sz") => `(tactic| (have := sizeLine_eq; (try simp only [List.length_append, List.length_map, List.length_take, List.length_drop, List.length_cons, List.length_nil]); omega))
local macro_rules | `(tactic| walk_at "lk") => `(tactic| fail)
local macro_rules | `(tactic| walk_at "goB") => `(tactic| fail)
local macro_rules | `(tactic| walk_at "goT") => `(tactic| fail)
local macro_rules | `(tactic| walk_at "goA") => `(tactic| first
  | (with_reducible first
    | refine ifT rfl ?_
    | refine ifF rfl ?_)
  | ((with_reducible refine' g_gtup ?gh ?gl ?gk); (case gh => walk_at "hp"); (case gl => rfl))
  | ((with_reducible refine' g_ixT ?gh ?gl ?gk); (case gh => walk_at "hp"); (case gl => first | rfl | assumption))
  | ((with_reducible refine' g_ixL ?gh ?gl ?gk); (case gh => walk_at "hp"); (case gl => first | rfl | assumption))
  | ((with_reducible refine' g_lenT ?gh ?gk); (case gh => walk_at "hp"))
  | ((with_reducible refine' g_lenL ?gh ?gk); (case gh => walk_at "hp"))
  | ((with_reducible refine' g_inT ?gh ?gf ?gl ?gk); (case gh => walk_at "hp"); (case gf => rfl); (case gl => rfl))
  | ((with_reducible refine' g_isi (d := true) ?gh ?gl ?gk); (case gh => first | exact ty_tup (by walk_at "hp") | exact .base (.int _) | exact .base (.str _)); (case gl => exact kit_ty (by decide +kernel)))
  | ((with_reducible refine' g_isi (d := false) ?gh ?gl ?gk); (case gh => first | exact ty_tup (by walk_at "hp") | exact .base (.int _) | exact .base (.str _)); (case gl => exact kit_ty (by decide +kernel)))
  | ((with_reducible refine' g_new ?gl ?gk); (case gl => first | exact Nat.le_of_ble_eq_true rfl | walk_at "sz"))
  | ((with_reducible refine' g_ilstv ?gh ?gk); (case gh => walk_at "hp"))
  | ((with_reducible refine' g_itupv ?gh ?gk); (case gh => walk_at "hp"))
  | ((with_reducible refine' g_ienumv ?gh ?gk); (case gh => walk_at "hp"))
  | ((with_reducible refine' g_ienTv ?gh ?gk); (case gh => walk_at "hp"))
  | ((with_reducible refine' g_slT ?gh ?gk); (case gh => walk_at "hp"); intro _ _ _ _)
  | ((with_reducible refine' g_slL ?gh ?gk); (case gh => walk_at "hp"))
  | ((with_reducible refine' g_catT ?gh ?gl ?gm ?gk); (case gh => walk_at "hp"); (case gl => walk_at "hp"); (case gm => walk_at "sz"); intro _ _ _ _)
  | ((with_reducible refine' g_catL ?gh ?gl ?gm ?gk); (case gh => walk_at "hp"); (case gl => walk_at "hp"); (case gm => walk_at "sz"))
  | ((with_reducible refine' g_tupL ?gh ?gk); (case gh => walk_at "hp"); intro _ _ _ _)
  | ((with_reducible refine' g_tupT ?gh ?gk); (case gh => walk_at "hp"); intro _ _ _ _)
  | ((with_reducible refine' g_starT ?gh ?gk); (case gh => walk_at "hp"))
  | ((with_reducible refine' g_starL ?gh ?gk); (case gh => walk_at "hp"))
  | ((with_reducible refine' g_tyL ?gh ?gk); (case gh => walk_at "hp"))
  | ((with_reducible refine' g_app ?gh ?gl ?gk); (case gh => walk_at "hp"); (case gl => walk_at "sz"))
  | ((with_reducible refine' g_inL ?gh ?gf ?gl ?gk); (case gh => walk_at "hp"); (case gf => rfl); (case gl => first | rfl | assumption))
  | ((with_reducible refine' g_irng1v ?gh ?gl ?gk); (case gh => omega); (case gl => omega))
  | ((with_reducible refine' g_irng2v ?gh ?gk); (case gh => omega))
  | ((with_reducible refine g_NewT ?_); intro _ _ _ _ _)
  | ((with_reducible refine' g_fldv ?gh ?gc ?gn ?gl ?gk); (case gh => walk_at "hp"); (case gc => assumption); (case gn => assumption); (case gl => first | rfl | walk_at "lk"))
  | ((with_reducible refine' g_fldw ?gh ?gc ?gn ?gl ?gk); (case gh => walk_at "hp"); (case gc => assumption); (case gn => assumption); (case gl => exact Nat.le_of_ble_eq_true rfl))
  | ((with_reducible refine' g_own2 ?gh ?gl ?gk); (case gh => walk_at "hp"); (case gl => walk_at "hp"))
  | ((with_reducible refine' g_own1 ?gh ?gk); (case gh => walk_at "hp"))
  | ((with_reducible refine' g_ownI ?gh ?gk); (case gh => walk_at "hp"))
  | ((with_reducible refine' g_recv ?gh ?gl ?gk); (case gh => walk_at "hp"); (case gl => walk_at "lk"))
  | ((with_reducible refine' g_lenS ?gh ?gk); (case gh => (have := sizeLine_eq; omega)))
  | ((with_reducible refine' ifT ?gh ?gk); (case gh => first | exact decide_eq_true (by omega) | exact nf (decide_eq_false (by omega)) | decide +kernel))
  | ((with_reducible refine' ifF ?gh ?gk); (case gh => first | exact decide_eq_false (by omega) | exact nt (decide_eq_true (by omega)) | decide +kernel)))
local macro_rules | `(tactic| walk_at "go1") => `(tactic| first
  | (with_reducible first
    | refine g_var rfl ?_
    | refine g_op ?_
    | refine g_cons ?_
    | refine g_nil ?_
    | refine g_c ?_
    | refine g_cb ?_
    | refine g_call ?_
    | refine g_seq ?_
    | refine g_asg ?_
    | refine g_name ?_
    | refine g_fld ?_
    | refine g_meth ?_
    | refine g_ifS ?_
    | refine g_if ?_
    | refine g_ret ?_
    | refine g_test ?_
    | refine g_tB ?_
    | refine g_bl ?_
    | refine g_and ?_
    | refine g_or ?_
    | refine g_not ?_
    | refine g_andV ?_
    | refine g_orV ?_
    | refine g_notV ?_
    | refine g_chain ?_
    | refine g_un ?_
    | refine g_ntup ?_
    | refine g_nlst ?_
    | refine g_drop ?_
    | refine g_next ?_
    | refine g_par ?_
    | refine g_par3 ?_
    | refine g_e2 ?_
    | refine g_e3 ?_
    | refine g_retN ?_
    | refine g_gcons ?_
    | refine g_gnil ?_
    | refine g_rI0 ?_
    | refine g_rU ?_
    | refine g_rSS ?_
    | refine g_rBB ?_
    | refine g_sib ?_
    | refine g_sii ?_
    | refine g_lc ?_
    | refine g_for ?_
    | refine g_istr ?_
    | refine g_istrv ?_
    | refine g_ilst ?_
    | refine g_itup ?_
    | refine g_irng1 ?_
    | refine g_irng2 ?_
    | refine g_ienum ?_
    | refine g_abs ?_
    | refine g_mx ?_
    | refine g_mn ?_
    | refine g_isN ?_
    | refine g_inC ?_
    | refine g_nfld ?_
    | refine g_ienT ?_
    | refine g_sl ?_
    | refine g_np ?_
    | refine g_pt ?_
    | refine g_ptv ?_
    | refine g_star ?_
    | refine g_bmL ?_)
  | walk_at "goA"
  | walk_at "goT"
  | walk_at "goB")
local macro_rules | `(tactic| walk_at "go") => `(tactic| repeat walk_at "go1")
theorem eqv_bls : ∀ xs ys : List Bool, PyData.eqvAll ((xs.map V.bl).map fd) ((ys.map V.bl).map fd) = decide (xs = ys)
  | [], [] => by simp [PyData.eqvAll]
  | [], _ :: _ => by simp [PyData.eqvAll]
  | _ :: _, [] => by simp [PyData.eqvAll]
  | x :: xs, y :: ys => by
    show PyData.eqvAll (fd (.bl x) :: (xs.map V.bl).map fd) (fd (.bl y) :: (ys.map V.bl).map fd) = _
    rw [PyData.eqvAll, eqv_bls xs ys]
    cases x <;> cases y <;> simp [fd, PyData.eqv]
theorem eqv_ints : ∀ xs ys : List Int, PyData.eqvAll ((xs.map V.int).map fd) ((ys.map V.int).map fd) = decide (xs = ys)
  | [], [] => by simp [PyData.eqvAll]
  | [], _ :: _ => by simp [PyData.eqvAll]
  | _ :: _, [] => by simp [PyData.eqvAll]
  | x :: xs, y :: ys => by
    show PyData.eqvAll (fd (.int x) :: (xs.map V.int).map fd) (fd (.int y) :: (ys.map V.int).map fd) = _
    rw [PyData.eqvAll, eqv_ints xs ys]
    by_cases h : x = y <;> simp [fd, PyData.eqv, h]
theorem flat_bls (xs : List Bool) : (xs.map V.bl).all flatV = true := by
  rw [List.all_map, List.all_eq_true]
  intro x _
  rfl
theorem lay_bls : ∀ xs : List Bool, PyData.canLayAll0 ((xs.map V.bl).map fd) = true
  | [] => rfl
  | x :: xs => Bool.and_eq_true_iff.mpr ⟨rfl, lay_bls xs⟩
theorem lay_ints : ∀ xs : List Int, PyData.canLayAll0 ((xs.map V.int).map fd) = true
  | [] => rfl
  | x :: xs => Bool.and_eq_true_iff.mpr ⟨rfl, lay_ints xs⟩
theorem g_eqBs {K : PySem.W.Frag} {H : Hp} {p q : Addr} {xs ys : List Bool} {Q : VK} (h1 : SqL K H p (xs.map V.bl)) (h2 : SqL K H q (ys.map V.bl)) (k : Q (.bl (decide (xs = ys))) H) : rEqD K (.ref p) (.ref q) H Q := by
  refine ⟨.list ((xs.map V.bl).map fd), .list ((ys.map V.bl).map fd), .lst h1 (dp_flat (flat_bls xs)), .lst h2 (dp_flat (flat_bls ys)), ?_, ?_, ?_⟩
  · show (PyData.canLayAll0 _ && decide (PyData.depthAll ((xs.map V.bl).map fd) + 1 ≤ 64)) = true
    rw [lay_bls, fd_depth]
    rfl
  · show (PyData.canLayAll0 _ && decide (PyData.depthAll ((ys.map V.bl).map fd) + 1 ≤ 64)) = true
    rw [lay_bls, fd_depth]
    rfl
  · rw [show PyData.eqv (.list ((xs.map V.bl).map fd)) (.list ((ys.map V.bl).map fd)) = decide (xs = ys) by rw [← eqv_bls]; simp only [PyData.eqv]]
    exact k
theorem g_eqIs {K : PySem.W.Frag} {H : Hp} {p q : Addr} {xs ys : List Int} {Q : VK} (h1 : SqT K H p (xs.map V.int)) (h2 : SqT K H q (ys.map V.int)) (k : Q (.bl (decide (xs = ys))) H) : rEqD K (.ref p) (.ref q) H Q := by
  refine ⟨.tuple ((xs.map V.int).map fd), .tuple ((ys.map V.int).map fd), .tup h1 (dp_flat (flat_ints xs)), .tup h2 (dp_flat (flat_ints ys)), ?_, ?_, ?_⟩
  · show (PyData.canLayAll0 _ && decide (PyData.depthAll ((xs.map V.int).map fd) + 1 ≤ 64)) = true
    rw [lay_ints, fd_depth]
    rfl
  · show (PyData.canLayAll0 _ && decide (PyData.depthAll ((ys.map V.int).map fd) + 1 ≤ 64)) = true
    rw [lay_ints, fd_depth]
    rfl
  · rw [show PyData.eqv (.tuple ((xs.map V.int).map fd)) (.tuple ((ys.map V.int).map fd)) = decide (xs = ys) by rw [← eqv_ints]; simp only [PyData.eqv]]
    exact k
section
variable {P : Program} {w : World} {K : PySem.W.Frag} {mg : Str → Option Value} {base : Heap}
abbrev natV (n : Nat) : V := .int (n : Int)
def sp_prime_divisors (K : PySem.W.Frag) : Sp := fun vs H Q _ => ∃ n : Nat, vs = [natV n] ∧ 0 < n ∧ n ≤ 100000 ∧ ∀ p H' ps, H p = none → Same H H' → H' p = some (.lst (ps.map natV)) → (∀ q ∈ ps, 2 ≤ q) → PD n ps → Q (.ref p) H'
theorem u_prime_divisors {n : Nat} {H : Hp} {Q : VK} {E : XK} (h0 : 0 < n) (h1 : n ≤ 100000) (k : ∀ p H' ps, H p = none → Same H H' → H' p = some (.lst (ps.map natV)) → (∀ q ∈ ps, 2 ≤ q) → PD n ps → Q (.ref p) H') : sp_prime_divisors K [.int (n : Int)] H Q E := ⟨n, rfl, h0, h1, k⟩
theorem sc_prime_divisors : FnScope ["number", "found", "prime"] ["number"] (defScope s_prime_divisors) := C8.fnScope_by (by decide +kernel)
theorem c_prime_divisors (T : Tx K mg) : C8.Cal P w K mg base 1 "prime_divisors" (sp_prime_divisors K) [] := by
  refine calD T.d_prime_divisors T.g_prime_divisors (fun _ _ _ _ _ _ us hl => match us, hl with | [_], _ => rfl) sc_prime_divisors (fun vs H Q E ⟨i, e, _⟩ => by rw [e]; rfl) fun fd cdv A outer s H vs Q E hr h => ?_
  obtain ⟨n, rfl, h0, h1, k⟩ := h
  refine ⟨_, (pss_cons (ps_set (i := 1) sc_prime_divisors.nd rfl (Or.inl rfl) (pe_nlst pa_nil))
      (pss_cons (ps_set (i := 2) sc_prime_divisors.nd rfl (Or.inl rfl) pe_int)
      (pss_cons (ps_while PassesOwn.never (pt_cmpR op_gt (pv 0) pe_int (nomark _))
        (pss_cons (ps_if (pt_cmpR op_eqI (pe_op op_mod (pv 0) (pv 2)) pe_int (nomark _))
          (pss_cons (ps_expr (pe_bm PySem.F.plainAttrs_list PySem.F.slot_list_append PySem.F.type_list_append mt_nappend (pv 1) (pa_cons (pv 2) pa_nil)))
          (pss_one (ps_while PassesOwn.never (pt_cmpR op_eqI (pe_op op_mod (pv 0) (pv 2)) pe_int (nomark _))
            (pss_one (ps_set (i := 0) sc_prime_divisors.nd rfl (Or.inl rfl) (pe_op op_fdivW (pv 0) (pv 2)))))))
          pss_nil)
        (pss_one (ps_set (i := 2) sc_prime_divisors.nd rfl (Or.inl rfl) (pe_op op_add (pv 2) pe_int)))))
      (pss_one (ps_ret (pv 1)))))), ?_⟩
  walk_at "st"
  walk_at "go"
  rename_i q H1 nq s1 hq
  refine g_while (fun u σ' H' => ∃ (m c : Nat) (ps : List Nat), u = n + 2 - c ∧ σ' = [some (natV m), some (.ref q), some (natV c)] ∧ Same H H' ∧ H' q = some (.lst (ps.map natV)) ∧ 0 < m ∧ m ∣ n ∧ 2 ≤ c ∧ ps.length ≤ c ∧ c ≤ n + 1 ∧ (∀ q ∈ ps, 2 ≤ q) ∧
    (∀ d, 1 < d → d ∣ m → c ≤ d) ∧ ∀ d, 1 < d → d ∣ n → (∃ p ∈ ps, p ∣ d) ∨ d ∣ m) (n + 2 - 2) ⟨n, 2, [], rfl, rfl, s1, hq, h0, Nat.dvd_refl n, Nat.le_refl 2, Nat.zero_le 2, by omega, (fun _ h => nomatch h), fun d h _ => h, fun d _ h => .inr h⟩ ?_
  rintro u σ' H2 ⟨m, c, ps, rfl, rfl, s2, hL, m0, mn, c2, pl, cn, pg, lo, cov⟩
  walk_at "go"
  refine if2 (fun e => ?_) (fun e => ?_)
  · have m1 : 1 < m := by
      have := of_decide_eq_true e
      omega
    have cm : c ≤ n := Nat.le_trans (lo m m1 (Nat.dvd_refl m)) (Nat.le_of_dvd h0 mn)
    have cpos : (0 : Int) < (c : Int) := by omega
    refine ⟨fun σ3 H3 => ∃ u', u' < n + 2 - c ∧ ∃ (m c : Nat) (ps : List Nat), u' = n + 2 - c ∧ σ3 = [some (natV m), some (.ref q), some (natV c)] ∧ Same H H3 ∧ H3 q = some (.lst (ps.map natV)) ∧ 0 < m ∧ m ∣ n ∧ 2 ≤ c ∧ ps.length ≤ c ∧ c ≤ n + 1 ∧ (∀ q ∈ ps, 2 ≤ q) ∧
      (∀ d, 1 < d → d ∣ m → c ≤ d) ∧ ∀ d, 1 < d → d ∣ n → (∃ p ∈ ps, p ∣ d) ∨ d ∣ m, fun _ _ z => z, ?_⟩
    walk_at "go"
    refine g_rI cpos ?_
    walk_at "go"
    have up : ∀ m' : Nat, ¬ c ∣ m' → (∀ d, 1 < d → d ∣ m' → c ≤ d) → ∀ d, 1 < d → d ∣ m' → c + 1 ≤ d := fun m' nd lo' d h1 h2 => by
      rcases Nat.lt_or_ge c d with lt | ge
      · exact lt
      · have := lo' d h1 h2
        have e : d = c := by omega
        rw [e] at h2
        exact absurd h2 nd
    refine if2 (fun e2 => ?_) (fun e2 => ?_)
    · have cdv : c ∣ m := by
        have := of_decide_eq_true e2
        exact Nat.dvd_of_mod_eq_zero (by omega)
      walk_at "go"
      intro H4 b4 h4
      have s4 := b4.same s2 nq
      refine g_while (fun u σ' H' => ∃ (m : Nat), u = m ∧ σ' = [some (natV m), some (.ref q), some (natV c)] ∧ H' = H4 ∧ 0 < m ∧ m ∣ n ∧ (∀ d, 1 < d → d ∣ m → c ≤ d) ∧ ∀ d, 1 < d → d ∣ n → (∃ p ∈ ps ++ [c], p ∣ d) ∨ d ∣ m) m
        ⟨m, rfl, rfl, rfl, m0, mn, lo, fun d h1 h2 => (cov d h1 h2).imp (fun ⟨p, hp, hv⟩ => ⟨p, List.mem_append_left _ hp, hv⟩) id⟩ ?_
      rintro u σ3 H3 ⟨m', rfl, rfl, rfl, m0', mn', lo', cov'⟩
      walk_at "go"
      refine g_rI cpos ?_
      walk_at "go"
      refine if2 (fun e3 => ?_) (fun e3 => ?_)
      · have cdv' : c ∣ u := by
          have := of_decide_eq_true e3
          exact Nat.dvd_of_mod_eq_zero (by omega)
        obtain ⟨r, hr2⟩ := id cdv'
        refine ⟨fun σ5 H5 => ∃ u', u' < u ∧ ∃ (m : Nat), u' = m ∧ σ5 = [some (natV m), some (.ref q), some (natV c)] ∧ H5 = H3 ∧ 0 < m ∧ m ∣ n ∧ (∀ d, 1 < d → d ∣ m → c ≤ d) ∧ ∀ d, 1 < d → d ∣ n → (∃ p ∈ ps ++ [c], p ∣ d) ∨ d ∣ m, fun _ _ z => z, ?_⟩
        walk_at "go"
        refine g_rI (wide_div (b := 20) cpos (by omega) (by decide) (by decide)) ?_
        walk_at "go"
        have er : (u : Int) / (c : Int) = ((r : Nat) : Int) := by
          rw [hr2]
          norm_cast
          exact Nat.mul_div_cancel_left r (by omega)
        have r0 : 0 < r := by
          rcases Nat.eq_zero_or_pos r with z | z
          · rw [z, Nat.mul_zero] at hr2
            omega
          · exact z
        have rdv : r ∣ u := ⟨c, by rw [hr2, Nat.mul_comm]⟩
        have rlt : r < u := by
          have : 2 * r ≤ c * r := Nat.mul_le_mul_right r c2
          omega
        refine ⟨r, rlt, r, rfl, ?_, rfl, r0, Nat.dvd_trans rdv mn', fun d h1 h2 => lo' d h1 (Nat.dvd_trans h2 rdv), fun d h1 h2 => ?_⟩
        · rw [er]
          rfl
        · rcases cov' d h1 h2 with h | h
          · exact .inl h
          · rcases Nat.lt_or_ge 1 (Nat.gcd d c) with lt | ge
            · have g1 := lo' _ lt (Nat.dvd_trans (Nat.gcd_dvd_right d c) cdv')
              have g2 : Nat.gcd d c ≤ c := Nat.le_of_dvd (by omega) (Nat.gcd_dvd_right d c)
              have g3 : Nat.gcd d c = c := by omega
              refine .inl ⟨c, List.mem_append_right _ (List.mem_cons_self ..), ?_⟩
              rw [← g3]
              exact Nat.gcd_dvd_left d c
            · have g0 : 0 < Nat.gcd d c := Nat.gcd_pos_of_pos_right _ (by omega)
              have cop : Nat.Coprime d c := by
                show Nat.gcd d c = 1
                omega
              rw [hr2] at h
              exact .inr (cop.dvd_of_dvd_mul_left h)
      · have ncd : ¬ c ∣ u := fun z => by
          have := of_decide_eq_false e3
          have := Nat.mod_eq_zero_of_dvd z
          omega
        walk_at "go"
        refine ⟨n + 2 - (c + 1), by omega, u, c + 1, ps ++ [c], rfl, rfl, s4, ?_, m0', mn', by omega, ?_, by omega, ?_, up u ncd lo', cov'⟩
        · rw [h4, List.map_append]
          rfl
        · rw [List.length_append]
          show ps.length + 1 ≤ c + 1
          omega
        · intro x hx
          rcases List.mem_append.mp hx with hx | hx
          · exact pg x hx
          · rw [List.mem_singleton.mp hx]
            exact c2
    · have ncd : ¬ c ∣ m := fun z => by
        have := of_decide_eq_false e2
        have := Nat.mod_eq_zero_of_dvd z
        omega
      walk_at "go"
      exact ⟨n + 2 - (c + 1), by omega, m, c + 1, ps, rfl, rfl, s2, hL, m0, mn, by omega, by omega, by omega, pg, up m ncd lo, cov⟩
  · have m1 : m = 1 := by
      have := of_decide_eq_false e
      omega
    walk_at "go"
    refine k q H2 ps nq s2 hL pg fun d h1 h2 => (cov d h1 h2).elim id fun h => ?_
    rw [m1] at h
    have := Nat.le_of_dvd (by omega) h
    omega
def sp_is_periodic (K : PySem.W.Frag) : Sp := fun vs H Q _ => ∃ (a : Addr) (fl : List Bool) (d : Nat), vs = [.ref a, natV d] ∧ SqL K H a (fl.map V.bl) ∧ d ≤ fl.length ∧ ∀ H', Same H H' → Q (.bl (decide (fl.drop d = fl.take (fl.length - d)))) H'
theorem u_is_periodic {a : Addr} {fl : List Bool} {d : Nat} {H : Hp} {Q : VK} {E : XK} (h : SqL K H a (fl.map V.bl)) (hd : d ≤ fl.length) (q : ∀ H', Same H H' → Q (.bl (decide (fl.drop d = fl.take (fl.length - d)))) H') : sp_is_periodic K [.ref a, .int (d : Int)] H Q E := ⟨a, fl, d, rfl, h, hd, q⟩
theorem sc_is_periodic : FnScope ["flags", "period"] ["flags", "period"] (defScope s_is_periodic) := C8.fnScope_by (by decide +kernel)
theorem c_is_periodic (T : Tx K mg) : C8.Cal P w K mg base 1 "is_periodic" (sp_is_periodic K) [] := by
  refine calD T.d_is_periodic T.g_is_periodic (fun _ _ _ _ _ _ us hl => match us, hl with | [_, _], _ => rfl) sc_is_periodic (fun vs H Q E ⟨_, _, _, e, _⟩ => by rw [e]; rfl) fun fd cdv A outer s H vs Q E hr h => ?_
  obtain ⟨a, fl, d, rfl, h, hd, q⟩ := h
  refine ⟨_, (pss_one (ps_ret (pe_cmpR (op_eqD hr.units) (pe_slice sl_nlst (pv 0) (po_some (pv 1)) po_none) (pe_slice sl_nlst (pv 0) po_none (po_some (pe_op op_sub (pe_callB call_nlen rfl T.b_len (by decide +kernel) (pa_cons (pv 0) pa_nil)) (pv 1)))) (nomark _)))), ?_⟩
  walk_at "st"
  walk_at "go"
  rename_i p1 H1 n1 s1 t1 p2 H2 n2 s2 t2
  rw [cut_from, ← List.map_drop] at t1
  rw [List.length_map, show ((fl.length : Int) - (d : Int)) = ((fl.length - d : Nat) : Int) by omega, cut_to, ← List.map_take] at t2
  exact g_eqBs (SqL.of (s2 _ _ t1)) (SqL.of t2) (q _ (s1.trans s2))
local macro_rules | `(tactic| walk_at "sz") => `(tactic| (have := sizeLine_eq; (try simp only [List.length_append, List.length_map, List.length_take, List.length_drop, List.length_cons, List.length_nil]); omega))
def sp_least_period (K : PySem.W.Frag) : Sp := fun vs H Q _ => ∃ (a : Addr) (fl : List Bool), vs = [.ref a] ∧ SqL K H a (fl.map V.bl) ∧ 0 < fl.length ∧ fl.length ≤ 100000 ∧ ∀ (L : Nat) H', Same H H' → LPer fl L → Q (natV L) H'
theorem u_least_period {a : Addr} {fl : List Bool} {H : Hp} {Q : VK} {E : XK} (h : SqL K H a (fl.map V.bl)) (h0 : 0 < fl.length) (h1 : fl.length ≤ 100000) (q : ∀ (L : Nat) H', Same H H' → LPer fl L → Q (natV L) H') : sp_least_period K [.ref a] H Q E := ⟨a, fl, rfl, h, h0, h1, q⟩
theorem sc_least_period : FnScope ["flags", "period", "prime"] ["flags"] (defScope s_least_period) := C8.fnScope_by (by decide +kernel)
theorem c_least_period (T : Tx K mg) : C8.Cal P w K mg base 2 "least_period" (sp_least_period K) [] := by
  refine calD T.d_least_period T.g_least_period (fun _ _ _ _ _ _ us hl => match us, hl with | [_], _ => rfl) sc_least_period (fun vs H Q E ⟨_, _, e, _⟩ => by rw [e]; rfl) fun fd cdv A outer s H vs Q E hr h => ?_
  obtain ⟨a, fl, rfl, h, h0, h1, q⟩ := h
  refine ⟨_, (pss_cons (ps_set (i := 1) sc_least_period.nd rfl (Or.inl rfl) (pe_callB call_nlen rfl T.b_len (by decide +kernel) (pa_cons (pv 0) pa_nil)))
      (pss_cons (ps_for PassesOwn.never rfl (pj_list (C8.pe_c (c_prime_divisors T) hr (by decide) rfl (pa_cons (pe_callB call_nlen rfl T.b_len (by decide +kernel) (pa_cons (pv 0) pa_nil)) pa_nil))) (pg_name (i := 2) sc_least_period.nd rfl (Or.inl rfl))
        (pss_one (ps_while PassesOwn.never (PW.pt (pw_and (pt_cmpR op_eqI (pe_op op_mod (pv 1) (pv 2)) pe_int (nomark _)) (pw_and1 (pt_val (C8.pe_c (c_is_periodic T) hr (by decide) rfl (pa_cons (pv 0) (pa_cons (pe_op op_fdivW (pv 1) (pv 2)) pa_nil)))))))
          (pss_one (ps_set (i := 1) sc_least_period.nd rfl (Or.inl rfl) (pe_op op_fdivW (pv 1) (pv 2)))))))
      (pss_one (ps_ret (pv 1))))), ?_⟩
  walk_at "st"
  walk_at "go"
  rw [List.length_map]
  refine u_prime_divisors h0 h1 fun p H1 ps np s1 hp pg pd => ?_
  walk_at "go"
  refine for_w walk_list (fun i σ' H' => Same H1 H' ∧ ∃ (L : Nat) (x : Option V), σ' = [some (.ref a), some (natV L), x] ∧ 0 < L ∧ L ∣ fl.length ∧ Per fl L ∧ ∀ c ∈ ps.take i, 0 < c → ¬ (c ∣ L ∧ Per fl (L / c))) ⟨Same.refl _, fl.length, none, rfl, h0, Nat.dvd_refl _, gF_len fl, by simp⟩ (fun i σ' H' _ z => SqL.of (z.1 _ _ hp)) ?_ ?_
  · rintro i v σ' H2 H3 hi ⟨s2, L, x, rfl, L0, Ln, LP, no⟩ ⟨rfl, hv⟩
    rw [List.length_map] at hi
    rw [List.getElem?_map, List.getElem?_eq_getElem hi] at hv
    have ev := (Option.some.inj hv).symm
    subst ev
    generalize hc : ps[i] = c
    have c2 : 2 ≤ c := by rw [← hc]; exact pg _ (List.getElem_mem hi)
    have cpos : (0 : Int) < (c : Int) := by omega
    walk_at "go"
    refine g_while (fun u σ' H' => ∃ (L : Nat), u = L ∧ Same H1 H' ∧ σ' = [some (.ref a), some (natV L), some (natV c)] ∧ 0 < L ∧ L ∣ fl.length ∧ Per fl L ∧ ∀ c ∈ ps.take i, 0 < c → ¬ (c ∣ L ∧ Per fl (L / c))) L ⟨L, rfl, s2, rfl, L0, Ln, LP, no⟩ ?_
    rintro u σ3 H4 ⟨L', rfl, s4, rfl, L0', Ln', LP', no'⟩
    have Ll : u ≤ fl.length := Nat.le_of_dvd h0 Ln'
    walk_at "go"
    refine g_rI cpos ?_
    walk_at "go"
    have fin : ¬ (c ∣ u ∧ Per fl (u / c)) → ∀ x ∈ ps.take (i + 1), 0 < x → ¬ (x ∣ u ∧ Per fl (u / x)) := fun hn x hx hx0 => by
      rw [List.take_add_one, List.getElem?_eq_getElem hi, hc] at hx
      rcases List.mem_append.mp hx with hx | hx
      · exact no' x hx hx0
      · rw [List.mem_singleton.mp hx]
        exact hn
    refine if2 (fun e => ?_) (fun e => ?_)
    · have cdv : c ∣ u := by
        have := of_decide_eq_true e
        exact Nat.dvd_of_mod_eq_zero (by omega)
      have cu := Nat.le_of_dvd L0' cdv
      obtain ⟨r, hr2⟩ := id cdv
      have er : (u : Int) / (c : Int) = ((r : Nat) : Int) := by
        rw [hr2]
        norm_cast
        exact Nat.mul_div_cancel_left r (by omega)
      have er2 : u / c = r := by
        rw [hr2]
        exact Nat.mul_div_cancel_left r (by omega)
      have r0 : 0 < r := by
        rcases Nat.eq_zero_or_pos r with z | z
        · rw [z, Nat.mul_zero] at hr2
          omega
        · exact z
      have rdv : r ∣ u := ⟨c, by rw [hr2, Nat.mul_comm]⟩
      have rlt : r < u := by
        have : 2 * r ≤ c * r := Nat.mul_le_mul_right r c2
        omega
      walk_at "go"
      refine g_rI (wide_div (b := 20) cpos (by omega) (by decide) (by decide)) ?_
      walk_at "go"
      rw [er]
      refine u_is_periodic (fl := fl) (by walk_at "hp") (by omega) fun H5 s5 => ?_
      walk_at "go"
      refine if2 (fun e2 => ?_) (fun e2 => ?_)
      · have rp : Per fl r := (per_iff h0 r0 (Nat.dvd_trans rdv Ln')).mp (of_decide_eq_true e2)
        refine ⟨fun σ6 H6 => ∃ u', u' < u ∧ ∃ (L : Nat), u' = L ∧ Same H1 H6 ∧ σ6 = [some (.ref a), some (natV L), some (natV c)] ∧ 0 < L ∧ L ∣ fl.length ∧ Per fl L ∧ ∀ c ∈ ps.take i, 0 < c → ¬ (c ∣ L ∧ Per fl (L / c)), fun _ _ z => z, ?_⟩
        walk_at "go"
        refine g_rI (wide_div (b := 20) cpos (by omega) (by decide) (by decide)) ?_
        walk_at "go"
        rw [er]
        refine ⟨r, rlt, r, rfl, s4.trans s5, rfl, r0, Nat.dvd_trans rdv Ln', rp, fun x hx hx0 ⟨v1, v2⟩ => no' x hx hx0 ⟨Nat.dvd_trans v1 rdv, ?_⟩⟩
        obtain ⟨y, hy⟩ := v1
        have e5 : r / x = y := by rw [hy]; exact Nat.mul_div_cancel_left y hx0
        rw [e5] at v2
        have e6 : u / x = y * c := by
          rw [hr2, hy, Nat.mul_comm c, Nat.mul_assoc]
          exact Nat.mul_div_cancel_left _ hx0
        rw [e6]
        exact v2.mul c
      · refine ⟨s4.trans s5, u, _, rfl, L0', Ln', LP', fin fun ⟨_, v2⟩ => of_decide_eq_false e2 ?_⟩
        rw [er2] at v2
        exact (per_iff h0 r0 (Nat.dvd_trans rdv Ln')).mpr v2
    · walk_at "go"
      refine ⟨s4, u, _, rfl, L0', Ln', LP', fin fun ⟨v1, _⟩ => of_decide_eq_false e ?_⟩
      have := Nat.mod_eq_zero_of_dvd v1
      omega
  · rintro σ' H2 ⟨s2, L, x, rfl, L0, Ln, LP, no⟩
    rw [List.length_map, List.take_length] at no
    walk_at "go"
    exact q L H2 (s1.trans s2) (lper_of pd L0 Ln LP no)
end
end RL
set_option maxHeartbeats 4000000
namespace RL
open PySem PySem.Spec PyProof.Rows L2
local macro_rules | `(tactic| walk_at "hp") => `(tactic| first
  | assumption
  | ((with_reducible refine' SqT.of ?gz); (case gz => walk_at "hp"))
  | ((with_reducible refine' SqL.of ?gz); (case gz => walk_at "hp"))
  | ((with_reducible refine' Same.seqT (by assumption) ?gz); (case gz => walk_at "hp"))
  | ((with_reducible refine' Same.seq (by assumption) ?gz); (case gz => walk_at "hp"))
  | ((with_reducible refine' s_at (by assumption) ?gz); (case gz => walk_at "hp"))
  | ((with_reducible refine' dp_mono (by assumption) ?gz); (case gz => walk_at "hp")))
local macro_rules | `(tactic| walk_at "sm") => `(tactic| first
  | assumption
  | exact Same.refl _
  | (with_reducible refine Same.trans ?_ (by assumption); walk_at "sm"))
local macro_rules | `(tactic| walk_at "st") => `(tactic| try dsimp only [cxOf, L2.Cx.nox, L2.Cx.wish])
local macro_rules | `(tactic| walk_at "sz") => `(tactic| (have := sizeLine_eq; (try simp only [List.length_append, List.length_map, List.length_take, List.length_drop, List.length_cons, List.length_nil]); omega))
local macro_rules | `(tactic| walk_at "lk") => `(tactic| fail)
local macro_rules | `(tactic| walk_at "goB") => `(tactic| fail)
local macro_rules | `(tactic| walk_at "goT") => `(tactic| fail)
local macro_rules | `(tactic| walk_at "goA") => `(tactic| first
  | (with_reducible first
    | refine ifT rfl ?_
    | refine ifF rfl ?_)
  | ((with_reducible refine' g_gtup ?gh ?gl ?gk); (case gh => walk_at "hp"); (case gl => rfl))
  | ((with_reducible refine' g_ixT ?gh ?gl ?gk); (case gh => walk_at "hp"); (case gl => first | rfl | assumption))
  | ((with_reducible refine' g_ixL ?gh ?gl ?gk); (case gh => walk_at "hp"); (case gl => first | rfl | assumption))
  | ((with_reducible refine' g_lenT ?gh ?gk); (case gh => walk_at "hp"))
  | ((with_reducible refine' g_lenL ?gh ?gk); (case gh => walk_at "hp"))
  | ((with_reducible refine' g_inT ?gh ?gf ?gl ?gk); (case gh => walk_at "hp"); (case gf => rfl); (case gl => rfl))
  | ((with_reducible refine' g_isi (d := true) ?gh ?gl ?gk); (case gh => first | exact ty_tup (by walk_at "hp") | exact .base (.int _) | exact .base (.str _)); (case gl => exact kit_ty (by decide +kernel)))
  | ((with_reducible refine' g_isi (d := false) ?gh ?gl ?gk); (case gh => first | exact ty_tup (by walk_at "hp") | exact .base (.int _) | exact .base (.str _)); (case gl => exact kit_ty (by decide +kernel)))
  | ((with_reducible refine' g_new ?gl ?gk); (case gl => first | exact Nat.le_of_ble_eq_true rfl | walk_at "sz"))
  | ((with_reducible refine' g_ilstv ?gh ?gk); (case gh => walk_at "hp"))
  | ((with_reducible refine' g_itupv ?gh ?gk); (case gh => walk_at "hp"))
  | ((with_reducible refine' g_ienumv ?gh ?gk); (case gh => walk_at "hp"))
  | ((with_reducible refine' g_ienTv ?gh ?gk); (case gh => walk_at "hp"))
  | ((with_reducible refine' g_slT ?gh ?gk); (case gh => walk_at "hp"); intro _ _ _ _)
  | ((with_reducible refine' g_slL ?gh ?gk); (case gh => walk_at "hp"))
  | ((with_reducible refine' g_catT ?gh ?gl ?gm ?gk); (case gh => walk_at "hp"); (case gl => walk_at "hp"); (case gm => walk_at "sz"); intro _ _ _ _)
  | ((with_reducible refine' g_catL ?gh ?gl ?gm ?gk); (case gh => walk_at "hp"); (case gl => walk_at "hp"); (case gm => walk_at "sz"))
  | ((with_reducible refine' g_tupL ?gh ?gk); (case gh => walk_at "hp"); intro _ _ _ _)
  | ((with_reducible refine' g_tupT ?gh ?gk); (case gh => walk_at "hp"); intro _ _ _ _)
  | ((with_reducible refine' g_starT ?gh ?gk); (case gh => walk_at "hp"))
  | ((with_reducible refine' g_starL ?gh ?gk); (case gh => walk_at "hp"))
  | ((with_reducible refine' g_tyL ?gh ?gk); (case gh => walk_at "hp"))
  | ((with_reducible refine' g_app ?gh ?gl ?gk); (case gh => walk_at "hp"); (case gl => walk_at "sz"))
  | ((with_reducible refine' g_inL ?gh ?gf ?gl ?gk); (case gh => walk_at "hp"); (case gf => rfl); (case gl => first | rfl | assumption))
  | ((with_reducible refine' g_irng1v ?gh ?gl ?gk); (case gh => omega); (case gl => omega))
  | ((with_reducible refine' g_irng2v ?gh ?gk); (case gh => omega))
  | ((with_reducible refine g_NewT ?_); intro _ _ _ _ _)
  | ((with_reducible refine' g_fldv ?gh ?gc ?gn ?gl ?gk); (case gh => walk_at "hp"); (case gc => assumption); (case gn => assumption); (case gl => first | rfl | walk_at "lk"))
  | ((with_reducible refine' g_fldw ?gh ?gc ?gn ?gl ?gk); (case gh => walk_at "hp"); (case gc => assumption); (case gn => assumption); (case gl => exact Nat.le_of_ble_eq_true rfl))
  | ((with_reducible refine' g_own2 ?gh ?gl ?gk); (case gh => walk_at "hp"); (case gl => walk_at "hp"))
  | ((with_reducible refine' g_own1 ?gh ?gk); (case gh => walk_at "hp"))
  | ((with_reducible refine' g_ownI ?gh ?gk); (case gh => walk_at "hp"))
  | ((with_reducible refine' g_recv ?gh ?gl ?gk); (case gh => walk_at "hp"); (case gl => walk_at "lk"))
  | ((with_reducible refine' g_lenS ?gh ?gk); (case gh => (have := sizeLine_eq; omega)))
  | ((with_reducible refine' ifT ?gh ?gk); (case gh => first | exact decide_eq_true (by omega) | exact nf (decide_eq_false (by omega)) | decide +kernel))
  | ((with_reducible refine' ifF ?gh ?gk); (case gh => first | exact decide_eq_false (by omega) | exact nt (decide_eq_true (by omega)) | decide +kernel)))
local macro_rules | `(tactic| walk_at "go1") => `(tactic| first
  | (with_reducible first
    | refine g_var rfl ?_
    | refine g_op ?_
    | refine g_cons ?_
    | refine g_nil ?_
    | refine g_c ?_
    | refine g_cb ?_
    | refine g_call ?_
    | refine g_seq ?_
    | refine g_asg ?_
    | refine g_name ?_
    | refine g_fld ?_
    | refine g_meth ?_
    | refine g_ifS ?_
    | refine g_if ?_
    | refine g_ret ?_
    | refine g_test ?_
    | refine g_tB ?_
    | refine g_bl ?_
    | refine g_and ?_
    | refine g_or ?_
    | refine g_not ?_
    | refine g_andV ?_
    | refine g_orV ?_
    | refine g_notV ?_
    | refine g_chain ?_
    | refine g_un ?_
    | refine g_ntup ?_
    | refine g_nlst ?_
    | refine g_drop ?_
    | refine g_next ?_
    | refine g_par ?_
    | refine g_par3 ?_
    | refine g_e2 ?_
    | refine g_e3 ?_
    | refine g_retN ?_
    | refine g_gcons ?_
    | refine g_gnil ?_
    | refine g_rI0 ?_
    | refine g_rU ?_
    | refine g_rSS ?_
    | refine g_rBB ?_
    | refine g_sib ?_
    | refine g_sii ?_
    | refine g_lc ?_
    | refine g_for ?_
    | refine g_istr ?_
    | refine g_istrv ?_
    | refine g_ilst ?_
    | refine g_itup ?_
    | refine g_irng1 ?_
    | refine g_irng2 ?_
    | refine g_ienum ?_
    | refine g_abs ?_
    | refine g_mx ?_
    | refine g_mn ?_
    | refine g_isN ?_
    | refine g_inC ?_
    | refine g_nfld ?_
    | refine g_ienT ?_
    | refine g_sl ?_
    | refine g_np ?_
    | refine g_pt ?_
    | refine g_ptv ?_
    | refine g_star ?_
    | refine g_bmL ?_)
  | walk_at "goA"
  | walk_at "goT"
  | walk_at "goB")
local macro_rules | `(tactic| walk_at "go") => `(tactic| repeat walk_at "go1")
section
variable {σ : L2.St} {H : Hp} {Q : VK} {te : TE} {K : PySem.W.Frag} {p : Addr} {ks : List Int}
theorem g_lset (h : te σ H fun x H1 => ∃ (p : Addr) (ks : List Int), x = .ref p ∧ SqT K H1 p (ks.map V.int) ∧ ks.Nodup ∧ ks.length ≤ 1000 ∧ Q (.int (ks.length : Int)) H1) : tLenSet K te σ H Q := h
theorem g_lsetv (h : SqT K H p (ks.map V.int)) (nd : ks.Nodup) (l : ks.length ≤ 1000) (q : Q (.int (ks.length : Int)) H) : ∃ (q : Addr) (ks : List Int), V.ref p = .ref q ∧ SqT K H q (ks.map V.int) ∧ ks.Nodup ∧ ks.length ≤ 1000 ∧ Q (.int (ks.length : Int)) H := ⟨p, ks, rfl, h, nd, l, q⟩
theorem g_sset (h : te σ H fun x H1 => ∃ (p : Addr) (ks : List Int), x = .ref p ∧ SqL K H1 p (ks.map V.int) ∧ ks.length < 64 ∧
  ∀ (js : List Int) (p : Addr) (H2 : Hp), js.Pairwise (· < ·) → (∀ k, k ∈ js ↔ k ∈ ks) → js.length ≤ ks.length → H1 p = none → Same H1 H2 → H2 p = some (.lst (js.map V.int)) → Q (.ref p) H2) : tSortSet K te σ H Q := h
theorem g_srt (h : SqT K H p (ks.map V.int)) (l : ks.length < 64) (q : ∀ (js : List Int) (p : Addr) (H2 : Hp), js.Perm ks → js.Pairwise (· ≤ ·) → H p = none → Same H H2 → H2 p = some (.lst (js.map V.int)) → Q (.ref p) H2) : rSrtT K [.ref p] H Q := ⟨p, ks, rfl, h, l, q⟩
end
theorem asc_of : ∀ {l : List Int}, l.Pairwise (· ≤ ·) → l.Nodup → l.Pairwise (· < ·)
  | [], _, _ => List.Pairwise.nil
  | x :: l, h, d => by
    obtain ⟨h1, h2⟩ := List.pairwise_cons.mp h
    obtain ⟨d1, d2⟩ := List.nodup_cons.mp d
    refine List.pairwise_cons.mpr ⟨fun y hy => ?_, asc_of h2 d2⟩
    have a := h1 y hy
    have b : x ≠ y := fun z => d1 (z ▸ hy)
    omega
local macro_rules | `(tactic| walk_at "goB") => `(tactic| first
  | (with_reducible refine g_lset ?_)
  | (with_reducible refine g_sset ?_)
  | (with_reducible refine u_is_whole ?_))
section
variable {P : Program} {w : World} {K : PySem.W.Frag} {mg : Str → Option Value} {base : Heap}
theorem mod_nat (i n : Nat) : ((i : Int) % (n : Int)) = ((i % n : Nat) : Int) := by norm_cast
theorem at_flag {fl : List Bool} (h : 0 < fl.length) (i : Nat) : atI (fl.map V.bl) ((i : Int) % (fl.length : Int)) = some (.bl (gF fl i)) := by
  rw [mod_nat]
  refine atI_nat ?_
  have hm := Nat.mod_lt i h
  rw [List.getElem?_map, List.getElem?_eq_getElem hm, gF, List.getD_eq_getElem?_getD, List.getElem?_eq_getElem hm]
  rfl
theorem at_flagZ {fl : List Bool} (h : 0 < fl.length) {d : Int} (hd : 0 ≤ d) : atI (fl.map V.bl) (d % (fl.length : Int)) = some (.bl (gF fl d.toNat)) := by
  obtain ⟨n, rfl⟩ := Int.eq_ofNat_of_zero_le hd
  exact at_flag h n
def sp_sums_of (K : PySem.W.Frag) : Sp := fun vs H Q _ => ∃ (a : Addr) (fl : List Bool), vs = [.ref a] ∧ SqL K H a (fl.map V.bl) ∧ 0 < fl.length ∧ fl.length ≤ 100000 ∧ ∀ (p : Addr) H', Same H H' → Q (.ref p) H'
theorem u_sums_of {a : Addr} {fl : List Bool} {H : Hp} {Q : VK} {E : XK} (h : SqL K H a (fl.map V.bl)) (h0 : 0 < fl.length) (h1 : fl.length ≤ 100000) (q : ∀ (p : Addr) H', Same H H' → Q (.ref p) H') : sp_sums_of K [.ref a] H Q E := ⟨a, fl, rfl, h, h0, h1, q⟩
theorem sc_sums_of : FnScope ["flags", "found", "place"] ["flags"] (defScope s_sums_of) := C8.fnScope_by (by decide +kernel)
theorem c_sums_of (T : Tx K mg) : C8.Cal P w K mg base 1 "sums_of" (sp_sums_of K) [] := by
  refine calD T.d_sums_of T.g_sums_of (fun _ _ _ _ _ _ us hl => match us, hl with | [_], _ => rfl) sc_sums_of (fun vs H Q E ⟨_, _, e, _⟩ => by rw [e]; rfl) fun fd cdv A outer s H vs Q E hr h => ?_
  obtain ⟨a, fl, rfl, h, h0, h1, k⟩ := h
  refine ⟨_, (pss_cons (ps_set (i := 1) sc_sums_of.nd rfl (Or.inl rfl) (pe_nlst (pa_cons pe_int pa_nil)))
      (pss_cons (ps_for PassesOwn.never rfl (pj_range2 rfl T.b_range (pa_cons pe_int (pa_cons (pe_op op_add (pe_callB call_nlen rfl T.b_len (by decide +kernel) (pa_cons (pv 0) pa_nil)) pe_int) pa_nil))) (pg_name (i := 2) sc_sums_of.nd rfl (Or.inl rfl))
        (pss_one (ps_expr (pe_bm PySem.F.plainAttrs_list PySem.F.slot_list_append PySem.F.type_list_append mt_nappend (pv 1) (pa_cons (pe_op op_add (pe_ix ix_list (pv 1) (pe_un un_neg pe_int) (fun _ _ => rfl)) (pe_callTy call_intB rfl T.b_int (by decide +kernel) (pa_cons (pe_ix ix_list (pv 0) (pe_op op_mod (pv 2) (pe_callB call_nlen rfl T.b_len (by decide +kernel) (pa_cons (pv 0) pa_nil))) (fun _ _ => rfl)) pa_nil))) pa_nil)))))
      (pss_one (ps_ret (pv 1))))), ?_⟩
  walk_at "st"
  walk_at "go"
  rename_i q H1 nq s1 hq
  rw [List.length_map]
  refine g_irng2v (by omega) ?_
  refine for_w walk_range (fun i σ' H' => Same H H' ∧ (∃ us, H' q = some (.lst (us.map V.int)) ∧ us.length = i + 1) ∧ ∃ x, σ' = [some (.ref a), some (.ref q), x]) ⟨s1, ⟨[0], hq, rfl⟩, none, rfl⟩ (fun _ _ _ _ _ => trivial) ?_ ?_
  · rintro i v σ' H2 H3 hi ⟨s2, ⟨us, hL, hul⟩, x, rfl⟩ ⟨rfl, rfl⟩
    have hsz := sizeLine_eq
    have hu : ∃ vs z, us = vs ++ [z] := by
      rcases List.eq_nil_or_concat us with e | ⟨vs, z, e⟩
      · rw [e] at hul
        cases hul
      · exact ⟨vs, z, by rw [e, List.concat_eq_append]⟩
    obtain ⟨vs, z, rfl⟩ := hu
    have hvl : vs.length = i := by simpa using hul
    have al : atI ((vs ++ [z]).map V.int) (-1) = some (.int z) := by
      rw [List.map_append]
      exact atI_last _ _
    walk_at "go"
    rw [List.length_map]
    refine g_rI (by omega) ?_
    have af := at_flag h0 (i + 1)
    rw [show ((i + 1 : Nat) : Int) = 1 + (i : Int) by omega] at af
    walk_at "go"
    intro H4 b4 h4
    refine ⟨b4.same s2 nq, ⟨vs ++ [z] ++ [z + if gF fl (i + 1) = true then 1 else 0], ?_, ?_⟩, _, rfl⟩
    · rw [h4, List.map_append (l₁ := vs ++ [z])]
      rfl
    · rw [List.length_append, hul]
      rfl
  · rintro σ' H2 ⟨s2, ⟨us, hL, hul⟩, x, rfl⟩
    walk_at "go"
    exact k q H2 s2
/-! Plainest -/
def PlnAt (K : PySem.W.Frag) (H : Hp) (p : Addr) (s : Ds) : Prop := ∃ dx a t b, H p = some (.ins (He.ga K "Plainest") dx [("period", natV s.fl.length), ("flags", .ref a), ("flipped", .ref t), ("below", .ref b)]) ∧ SqL K H a (s.fl.map V.bl) ∧ SqT K H t (s.xs.map V.int)
theorem PlnAt.mono {H H' : Hp} {p : Addr} {s : Ds} (e : Same H H') : PlnAt K H p s → PlnAt K H' p s := fun ⟨dx, a, t, b, h1, h2, h3⟩ => ⟨dx, a, t, b, e _ _ h1, Same.seq e h2, Same.seqT e h3⟩
local macro_rules | `(tactic| walk_at "lk") => `(tactic| first | rfl | exact lk_no (by decide +kernel) | (simp [List.lookup]; done))
theorem But.sqL {H H2 : Hp} {l a C dx : Addr} {fs : List (Str × V)} {xs : List V} (b : But l H H2) (hl : H l = some (.ins C dx fs)) (h : SqL K H a xs) : SqL K H2 a xs := by
  rcases h with (h | ⟨o, h⟩) | h
  · exact .inl (.inl (b a _ (ne_of h hl (by intro z; cases z)) h))
  · exact .inl (.inr ⟨o, b a _ (ne_of h hl (by intro z; cases z)) h⟩)
  · exact .inr h
theorem But.sqT {H H2 : Hp} {l a C dx : Addr} {fs : List (Str × V)} {xs : List V} (b : But l H H2) (hl : H l = some (.ins C dx fs)) (h : SqT K H a xs) : SqT K H2 a xs := by
  rcases h with (h | ⟨o, h⟩) | h
  · exact .inl (.inl (b a _ (ne_of h hl (by intro z; cases z)) h))
  · exact .inl (.inr ⟨o, b a _ (ne_of h hl (by intro z; cases z)) h⟩)
  · exact .inr h
def spI_Plainest (K : PySem.W.Frag) : Sp := fun vs H Q _ => ∃ p dx a t fl xs, vs = [.ref p, .ref a, .ref t] ∧ SqL K H a (fl.map V.bl) ∧ SqT K H t (xs.map V.int) ∧ 0 < fl.length ∧ fl.length ≤ 100000 ∧ H p = some (.ins (He.ga K "Plainest") dx []) ∧
  ∀ H' L, But p H H' → LPer fl L → PlnAt K H' p ⟨fl.take L, xs⟩ → Q .non H'
theorem sc_Plainest_init : FnScope ["self", "flags", "flipped"] ["self", "flags", "flipped"] (defScope s_Plainest_init) := C8.fnScope_by (by decide +kernel)
theorem i_Plainest (T : Tx K mg) : C8.Mak P w K mg base 3 "Plainest" (He.ga K "Plainest") (spI_Plainest K) [] := by
  refine makN (k := 2) T.d_Plainest_init T.mk_Plainest T.g_Plainest (fun _ _ _ _ _ _ us hl => match us, hl with | [_, _, _], _ => rfl) sc_Plainest_init
    (fun vs H Q E ⟨_, _, _, _, _, _, e, _⟩ => by rw [e]; rfl) fun fd cdv A outer s H vs Q E hr h => ?_
  obtain ⟨p, dx, a, t, fl, xs, rfl, ha, ht, h0, h1, hp, k⟩ := h
  refine ⟨_, (pss_cons (ps_nfld (pv 0) (C8.pe_c (c_least_period T) hr (by decide) rfl (pa_cons (pv 1) pa_nil)) rfl)
      (pss_cons (ps_nfld (pv 0) (pe_slice sl_nlst (pv 1) po_none (po_some (pe_fld (pv 0) rfl))) rfl)
      (pss_cons (ps_nfld (pv 0) (pv 2) rfl)
      (pss_one (ps_nfld (pv 0) (C8.pe_c (c_sums_of T) hr (by decide) rfl (pa_cons (pe_fld (pv 0) rfl) pa_nil)) rfl))))), ?_⟩
  walk_at "st"
  have lF := T.l_Plainest
  have nF1 := T.n_Plainest_period
  have nF2 := T.n_Plainest_flags
  have nF3 := T.n_Plainest_flipped
  have nF4 := T.n_Plainest_below
  walk_at "go"
  refine u_least_period ha h0 h1 fun L H1 s1 lp => ?_
  have hlen : (fl.take L).length = L := (cut_g lp h0).1
  have hp1 := s1 _ _ hp
  walk_at "go"
  intro H2 b2 h2
  replace h2 : H2 p = some (.ins (He.ga K "Plainest") dx [("period", natV L)]) := h2
  have ha2 := b2.sqL hp1 (Same.seq s1 ha)
  have ht2 := b2.sqT hp1 (Same.seqT s1 ht)
  walk_at "go"
  rename_i q H3 n3 s3 h3
  rw [cut_to, ← List.map_take] at h3
  have h23 := s3 _ _ h2
  walk_at "go"
  intro H4 b4 h4
  replace h4 : H4 p = some (.ins (He.ga K "Plainest") dx [("period", natV L), ("flags", .ref q)]) := h4
  have ht4 := b4.sqT h23 (Same.seqT s3 ht2)
  have hq4 := b4.sqL h23 (SqL.of (K := K) h3)
  walk_at "go"
  intro H5 b5 h5
  replace h5 : H5 p = some (.ins (He.ga K "Plainest") dx [("period", natV L), ("flags", .ref q), ("flipped", .ref t)]) := h5
  have ht5 := b5.sqT h4 ht4
  have hq5 := b5.sqL h4 hq4
  walk_at "go"
  refine u_sums_of hq5 (by rw [hlen]; exact lp.pos) (by rw [hlen]; exact Nat.le_trans (Nat.le_of_dvd h0 lp.dvd) h1) fun p6 H6 s6 => ?_
  have h56 := s6 _ _ h5
  walk_at "go"
  intro H7 b7 h7
  replace h7 : H7 p = some (.ins (He.ga K "Plainest") dx [("period", natV L), ("flags", .ref q), ("flipped", .ref t), ("below", .ref p6)]) := h7
  refine k H7 L ?_ lp ⟨dx, q, t, p6, ?_, b7.sqL h56 (Same.seq s6 hq5), b7.sqT h56 (Same.seqT s6 ht5)⟩
  · exact ((((((But.of s1).trans b2).trans (But.of s3)).trans b4).trans b5).trans (But.of s6)).trans b7
  · rw [h7, hlen]
def sp_Plainest (K : PySem.W.Frag) : Sp := fun vs H Q _ => ∃ a t fl xs, vs = [.ref a, .ref t] ∧ SqL K H a (fl.map V.bl) ∧ SqT K H t (xs.map V.int) ∧ 0 < fl.length ∧ fl.length ≤ 100000 ∧
  ∀ p H' L, Same H H' → H p = none → LPer fl L → PlnAt K H' p ⟨fl.take L, xs⟩ → Q (.ref p) H'
theorem u_Plainest {a t : Addr} {fl : List Bool} {xs : List Int} {H : Hp} {Q : VK} {E : XK} (h1 : SqL K H a (fl.map V.bl)) (h2 : SqT K H t (xs.map V.int)) (h0 : 0 < fl.length) (h3 : fl.length ≤ 100000)
    (k : ∀ p H' L, Same H H' → H p = none → LPer fl L → PlnAt K H' p ⟨fl.take L, xs⟩ → Q (.ref p) H') : sp_Plainest K [.ref a, .ref t] H Q E := ⟨a, t, fl, xs, rfl, h1, h2, h0, h3, k⟩
theorem m_Plainest (T : Tx K mg) : MkM P w K mg base 3 "Plainest" (sp_Plainest K) := by
  refine ⟨_, _, _, i_Plainest T, fun vs H Q ⟨a, t, fl, xs, e, h1, h2, h0, h3, k⟩ p dx hp hdx ne => ?_⟩
  subst e
  have s0 : Same H (upd (upd H dx (.own p)) p (.ins (He.ga K "Plainest") dx [])) := fun b o e => by rw [upd_ne (ne_of_none e hp), upd_ne (ne_of_none e hdx)]; exact e
  exact ⟨p, dx, a, t, fl, xs, rfl, Same.seq s0 h1, Same.seqT s0 h2, h0, h3, upd_same, fun H' L bt lp hP => ⟨rfl, k p H' L (bt.same s0 hp) hp lp hP⟩⟩
def sp_Plainest_is_in (K : PySem.W.Frag) : Sp := fun vs H Q _ => ∃ p s d, vs = [.ref p, .int d] ∧ PlnAt K H p s ∧ 0 < s.fl.length ∧ 0 ≤ d ∧ Q (.bl (s.mem d)) H
theorem u_Plainest_is_in {p : Addr} {s : Ds} {d : Int} {H : Hp} {Q : VK} {E : XK} (h : PlnAt K H p s) (h0 : 0 < s.fl.length) (hd : 0 ≤ d) (k : Q (.bl (s.mem d)) H) : sp_Plainest_is_in K [.ref p, .int d] H Q E := ⟨p, s, d, rfl, h, h0, hd, k⟩
theorem sc_Plainest_is_in : FnScope ["self", "distance"] ["self", "distance"] (defScope s_Plainest_is_in) := C8.fnScope_by (by decide +kernel)
theorem c_Plainest_is_in (T : Tx K mg) : C8.Met P w K mg base 1 (He.ga K "Plainest") "is_in" (sp_Plainest_is_in K) [] := by
  refine metD T.d_Plainest_is_in T.l_Plainest T.me_Plainest_is_in (fun _ _ _ _ _ _ us hl => match us, hl with | [_, _], _ => rfl) sc_Plainest_is_in (fun vs H Q E ⟨_, _, _, e, _⟩ => by rw [e]; rfl) fun fd cdv A outer s H vs Q E hr h => ?_
  obtain ⟨p, s, d, rfl, ⟨dx, a, t, b, hp, ha, ht⟩, h0, hd, k⟩ := h
  refine ⟨_, (pss_one (ps_ret (pe_cmpR op_neB (pe_ix ix_list (pe_fld (pv 0) rfl) (pe_op op_mod (pv 1) (pe_fld (pv 0) rfl)) (fun _ _ => rfl)) (pe_cmpR op_in_seq (pv 1) (pe_fld (pv 0) rfl) (by rfl)) (nomark _)))), ?_⟩
  walk_at "st"
  have lF := T.l_Plainest
  have nF1 := T.n_Plainest_period
  have nF2 := T.n_Plainest_flags
  have nF3 := T.n_Plainest_flipped
  have af := at_flagZ h0 hd
  walk_at "go"
  refine g_rI (by omega) ?_
  walk_at "go"
  refine g_inT ht rfl (flat_ints _) ?_
  walk_at "go"
  rw [inV_int]
  exact k
/-! checked -/
theorem g_allT {H : Hp} {p : Addr} {n : Nat} {Q : VK} (h : H p = some (.lst ((List.range n).map fun _ => V.bl true))) (q : Q (.bl true) H) : rAll K [.ref p] H Q := by
  refine g_all (bs := (List.range n).map fun _ => true) (SqL.of ?_) ?_
  · rw [h, List.map_map]
    rfl
  · rw [show ((List.range n).map fun _ => true).all id = true by simp]
    exact q
def ckF (m : Nat) (cs : List Int) : List Bool := (List.range m).map fun (i : Nat) => decide ((i : Int) ∈ cs)
theorem ck_g {m : Nat} (h : 0 < m) (cs : List Int) (i : Nat) : (ckF m cs).length = m ∧ gF (ckF m cs) i = decide (((i % m : Nat) : Int) ∈ cs) := by
  have hl : (ckF m cs).length = m := by unfold ckF; rw [List.length_map, List.length_range]
  refine ⟨hl, ?_⟩
  unfold gF
  rw [hl]
  unfold ckF
  rw [List.getD_eq_getElem?_getD, List.getElem?_map, List.getElem?_range (Nat.mod_lt i h)]
  rfl
def sp_checked (K : PySem.W.Frag) : Sp := fun vs H Q _ => ∃ (m : Nat) (c x : Addr) (cs xs : List Int), vs = [natV m, .ref c, .ref x] ∧ SqT K H c (cs.map V.int) ∧ SqT K H x (xs.map V.int) ∧ 1 ≤ m ∧ m ≤ 720 ∧ cs.Nodup ∧ (∀ k ∈ cs, 0 ≤ k ∧ k < (m : Int)) ∧ cs.length ≤ 1000 ∧ xs.Nodup ∧ (∀ k ∈ xs, 1 ≤ k) ∧ xs.length < 64 ∧
  ∀ p H' js L, Same H H' → H p = none → js.Perm xs → js.Pairwise (· < ·) → LPer (ckF m cs) L → PlnAt K H' p ⟨(ckF m cs).take L, js⟩ → Q (.ref p) H'
theorem sc_checked : FnScope ["modulus", "classes", "changed", "flags", "remainder", "one"] ["modulus", "classes", "changed"] (defScope s_checked) := C8.fnScope_by (by decide +kernel)
theorem c_checked (T : Tx K mg) : C8.Cal P w K mg base 5 "checked" (sp_checked K) [] := by
  refine calD T.d_checked T.g_checked (fun _ _ _ _ _ _ us hl => match us, hl with | [_, _, _], _ => rfl) sc_checked (fun vs H Q E ⟨_, _, _, _, _, e, _⟩ => by rw [e]; rfl) fun fd cdv A outer s H vs Q E hr h => ?_
  obtain ⟨m, c, x, cs, xs, rfl, hc, hx, m1, m2, nd, bc, lc, nx, bx, lx, k⟩ := h
  refine ⟨_, (pss_cons (ps_if (PW.pt (pw_or (pt_not (pt_val (C8.pe_c (c_is_whole T) hr (by decide) rfl (pa_cons (pv 0) pa_nil)))) (pw_or1 (pt_not (pt_chain op_le op_le pe_int (pv 0) (C8.pe_gc rfl T.v_MOST_MODULUS))))))
        (pss_one ps_never)
        pss_nil)
      (pss_cons (ps_if (PW.pt (pw_or (pt_not (pt_val (pe_callB call_isi rfl T.b_isinstance (by decide +kernel) (pa_cons (pv 1) (pa_cons (pe_ty (n := "tuple") rfl T.b_tuple (by decide +kernel)) pa_nil))))) (pw_or1 (pt_not (pt_val (pe_callB (cr_all rfl) rfl T.b_all (by decide +kernel) (pa_cons (pe_lc (own := [("one", 5)]) rfl sc_checked.nd (pj_tup (pv 1)) (blkOk_by (N := ["modulus", "classes", "changed", "flags", "remainder", "one"]) (sc := defScope s_checked) (by decide +kernel)) (fun _ _ _ _ _ => (pg_name (i := 5) sc_checked.nd rfl (Or.inl rfl))) (fun _ _ _ _ _ => pts_nil) (fun _ _ _ _ _ => (pe_and (C8.pe_c (c_is_whole T) hr (by decide) rfl (pa_cons (pv 5) pa_nil)) (pe_one (pe_chain op_le op_lt pe_int (pv 5) (pv 0)))))) pa_nil)))))))
        (pss_one ps_never)
        pss_nil)
      (pss_cons (ps_if (pt_cmpR op_lt (pe_lenSetT rfl rfl T.b_len rfl T.b_set (pv 1)) (pe_callB call_nlen rfl T.b_len (by decide +kernel) (pa_cons (pv 1) pa_nil)) (nomark _))
        (pss_one ps_never)
        pss_nil)
      (pss_cons (ps_if (PW.pt (pw_or (pt_not (pt_val (pe_callB call_isi rfl T.b_isinstance (by decide +kernel) (pa_cons (pv 2) (pa_cons (pe_ty (n := "tuple") rfl T.b_tuple (by decide +kernel)) pa_nil))))) (pw_or1 (pt_not (pt_val (pe_callB (cr_all rfl) rfl T.b_all (by decide +kernel) (pa_cons (pe_lc (own := [("one", 5)]) rfl sc_checked.nd (pj_tup (pv 2)) (blkOk_by (N := ["modulus", "classes", "changed", "flags", "remainder", "one"]) (sc := defScope s_checked) (by decide +kernel)) (fun _ _ _ _ _ => (pg_name (i := 5) sc_checked.nd rfl (Or.inl rfl))) (fun _ _ _ _ _ => pts_nil) (fun _ _ _ _ _ => (pe_and (C8.pe_c (c_is_whole T) hr (by decide) rfl (pa_cons (pv 5) pa_nil)) (pe_one (pe_cmpR op_ge (pv 5) pe_int (nomark _)))))) pa_nil)))))))
        (pss_one ps_never)
        pss_nil)
      (pss_cons (ps_if (pt_cmpR op_lt (pe_lenSetT rfl rfl T.b_len rfl T.b_set (pv 2)) (pe_callB call_nlen rfl T.b_len (by decide +kernel) (pa_cons (pv 2) pa_nil)) (nomark _))
        (pss_one ps_never)
        pss_nil)
      (pss_cons (ps_setLc (i := 3) (own := [("remainder", 4)]) rfl sc_checked.nd rfl rfl (sw_true rfl rfl rfl (by decide +kernel)) (pj_range1 rfl T.b_range (pa_cons (pv 0) pa_nil)) (blkOk_by (N := ["modulus", "classes", "changed", "flags", "remainder", "one"]) (sc := defScope s_checked) (by decide +kernel)) (fun _ _ _ _ _ => (pg_name (i := 4) sc_checked.nd rfl (Or.inl rfl))) (fun _ _ _ _ _ => pts_nil) (fun _ _ _ _ _ => (pe_cmpR (op_inK (K := K) rfl) (pv 4) (pv 1) (by rfl))))
      (pss_one (ps_ret (pe_cm (m_Plainest T) hr (by decide) rfl (pa_cons (pv 3) (pa_cons (pe_callTy call_ntuple rfl T.b_tuple (by decide +kernel) (pa_cons (pe_callB cr_sortedTI rfl T.b_sorted (by decide +kernel) (pa_cons (pv 2) pa_nil)) pa_nil)) pa_nil))))))))))), ?_⟩
  walk_at "st"
  walk_at "go"
  refine lc_val walk_tup (fun _ => .bl true) (by rw [List.length_map]; have := sizeLine_eq; omega) (fun H' s' => Same.seqT s' hc) ?_ ?_
  · rintro i v H2 H3 kk hi s1 ⟨rfl, hv⟩ hk
    rw [List.length_map] at hi
    rw [List.getElem?_map, List.getElem?_eq_getElem hi] at hv
    have ev := (Option.some.inj hv).symm
    subst ev
    have hb := bc _ (List.getElem_mem hi)
    refine g_name ⟨rfl, ?_⟩
    walk_at "go"
    rw [decide_eq_true hb.2]
    exact hk _ (Same.refl _)
  · intro p H2 np s2 hp
    walk_at "go"
    refine g_allT hp ?_
    walk_at "go"
    refine ⟨c, cs, rfl, Same.seqT s2 hc, nd, lc, ?_⟩
    walk_at "go"
    rw [List.length_map]
    refine ifF (decide_eq_false (by omega)) ?_
    walk_at "go"
    refine lc_val walk_tup (fun _ => .bl true) (by rw [List.length_map]; have := sizeLine_eq; omega) (fun H' s' => Same.seqT (s2.trans s') hx) ?_ ?_
    · rintro i v H3 H4 kk hi s1 ⟨rfl, hv⟩ hk
      rw [List.length_map] at hi
      rw [List.getElem?_map, List.getElem?_eq_getElem hi] at hv
      have ev := (Option.some.inj hv).symm
      subst ev
      have hb := bx _ (List.getElem_mem hi)
      refine g_name ⟨rfl, ?_⟩
      walk_at "go"
      rw [decide_eq_true (show xs[i] ≥ 1 from hb)]
      exact hk _ (Same.refl _)
    · intro p3 H3 n3 s3 hp3
      have s23 := s2.trans s3
      walk_at "go"
      refine g_allT hp3 ?_
      walk_at "go"
      refine ⟨x, xs, rfl, Same.seqT s23 hx, nx, by omega, ?_⟩
      walk_at "go"
      rw [List.length_map]
      refine ifF (decide_eq_false (by omega)) ?_
      walk_at "go"
      refine lc_val walk_range (fun i => .bl (decide ((i : Int) ∈ cs))) (by have := sizeLine_eq; omega) (fun _ _ => trivial) ?_ ?_
      · rintro i v H4 H5 kk hi s1 ⟨rfl, rfl⟩ hk
        refine g_name ⟨rfl, ?_⟩
        walk_at "go"
        refine g_inT (Same.seqT (s23.trans s1) hc) rfl (flat_ints _) ?_
        show kk (.bl (inV (.int (0 + (i : Int))) (cs.map V.int))) _
        rw [inV_int, Int.zero_add]
        exact hk _ (Same.refl _)
      · intro p4 H4 n4 s4 hp4
        have s34 := s23.trans s4
        walk_at "go"
        refine g_srt (Same.seqT s34 hx) lx fun js p5 H5 pm le n5 s5 h5 => ?_
        walk_at "go"
        rename_i q6 H6 s6 t6
        rw [show ((m : Int)).toNat = m from Int.toNat_natCast m] at hp4
        have hp6 : H6 p4 = some (.lst ((ckF m cs).map V.bl)) := by
          rw [s6 _ _ (s5 _ _ hp4)]
          unfold ckF
          rw [List.map_map]
          rfl
        have l4 := (ck_g (m := m) (by omega) cs 0).1
        refine u_Plainest (SqL.of hp6) t6 (by omega) (by omega) fun p7 H7 L s7 n7 lp hP => ?_
        have s47 := s34.trans (s5.trans (s6.trans s7))
        exact k p7 H7 js L s47 ((s34.trans (s5.trans s6)).free n7) pm (asc_of le (pm.nodup_iff.mpr nx)) lp hP
end
end RL
set_option maxHeartbeats 4000000
namespace RL
open PySem PySem.Spec PyProof.Rows L2
local macro_rules | `(tactic| walk_at "hp") => `(tactic| first
  | assumption
  | ((with_reducible refine' SqT.of ?gz); (case gz => walk_at "hp"))
  | ((with_reducible refine' SqL.of ?gz); (case gz => walk_at "hp"))
  | ((with_reducible refine' Same.seqT (by assumption) ?gz); (case gz => walk_at "hp"))
  | ((with_reducible refine' Same.seq (by assumption) ?gz); (case gz => walk_at "hp"))
  | ((with_reducible refine' s_at (by assumption) ?gz); (case gz => walk_at "hp"))
  | ((with_reducible refine' dp_mono (by assumption) ?gz); (case gz => walk_at "hp")))
local macro_rules | `(tactic| walk_at "sm") => `(tactic| first
  | assumption
  | exact Same.refl _
  | (with_reducible refine Same.trans ?_ (by assumption); walk_at "sm"))
local macro_rules | `(tactic| walk_at "st") => `(tactic| try dsimp only [cxOf, L2.Cx.nox, L2.Cx.wish])
local macro_rules | `(tactic| walk_at "sz") => `(tactic| (have := sizeLine_eq; (try simp only [List.length_append, List.length_map, List.length_take, List.length_drop, List.length_cons, List.length_nil]); omega))
local macro_rules | `(tactic| walk_at "lk") => `(tactic| fail)
local macro_rules | `(tactic| walk_at "goB") => `(tactic| fail)
local macro_rules | `(tactic| walk_at "goT") => `(tactic| fail)
local macro_rules | `(tactic| walk_at "goA") => `(tactic| first
  | (with_reducible first
    | refine ifT rfl ?_
    | refine ifF rfl ?_)
  | ((with_reducible refine' g_gtup ?gh ?gl ?gk); (case gh => walk_at "hp"); (case gl => rfl))
  | ((with_reducible refine' g_ixT ?gh ?gl ?gk); (case gh => walk_at "hp"); (case gl => first | rfl | assumption))
  | ((with_reducible refine' g_ixL ?gh ?gl ?gk); (case gh => walk_at "hp"); (case gl => first | rfl | assumption))
  | ((with_reducible refine' g_lenT ?gh ?gk); (case gh => walk_at "hp"))
  | ((with_reducible refine' g_lenL ?gh ?gk); (case gh => walk_at "hp"))
  | ((with_reducible refine' g_inT ?gh ?gf ?gl ?gk); (case gh => walk_at "hp"); (case gf => rfl); (case gl => rfl))
  | ((with_reducible refine' g_isi (d := true) ?gh ?gl ?gk); (case gh => first | exact ty_tup (by walk_at "hp") | exact .base (.int _) | exact .base (.str _)); (case gl => exact kit_ty (by decide +kernel)))
  | ((with_reducible refine' g_isi (d := false) ?gh ?gl ?gk); (case gh => first | exact ty_tup (by walk_at "hp") | exact .base (.int _) | exact .base (.str _)); (case gl => exact kit_ty (by decide +kernel)))
  | ((with_reducible refine' g_new ?gl ?gk); (case gl => first | exact Nat.le_of_ble_eq_true rfl | walk_at "sz"))
  | ((with_reducible refine' g_ilstv ?gh ?gk); (case gh => walk_at "hp"))
  | ((with_reducible refine' g_itupv ?gh ?gk); (case gh => walk_at "hp"))
  | ((with_reducible refine' g_ienumv ?gh ?gk); (case gh => walk_at "hp"))
  | ((with_reducible refine' g_ienTv ?gh ?gk); (case gh => walk_at "hp"))
  | ((with_reducible refine' g_slT ?gh ?gk); (case gh => walk_at "hp"); intro _ _ _ _)
  | ((with_reducible refine' g_slL ?gh ?gk); (case gh => walk_at "hp"))
  | ((with_reducible refine' g_catT ?gh ?gl ?gm ?gk); (case gh => walk_at "hp"); (case gl => walk_at "hp"); (case gm => walk_at "sz"); intro _ _ _ _)
  | ((with_reducible refine' g_catL ?gh ?gl ?gm ?gk); (case gh => walk_at "hp"); (case gl => walk_at "hp"); (case gm => walk_at "sz"))
  | ((with_reducible refine' g_tupL ?gh ?gk); (case gh => walk_at "hp"); intro _ _ _ _)
  | ((with_reducible refine' g_tupT ?gh ?gk); (case gh => walk_at "hp"); intro _ _ _ _)
  | ((with_reducible refine' g_starT ?gh ?gk); (case gh => walk_at "hp"))
  | ((with_reducible refine' g_starL ?gh ?gk); (case gh => walk_at "hp"))
  | ((with_reducible refine' g_tyL ?gh ?gk); (case gh => walk_at "hp"))
  | ((with_reducible refine' g_app ?gh ?gl ?gk); (case gh => walk_at "hp"); (case gl => walk_at "sz"))
  | ((with_reducible refine' g_inL ?gh ?gf ?gl ?gk); (case gh => walk_at "hp"); (case gf => rfl); (case gl => first | rfl | assumption))
  | ((with_reducible refine' g_irng1v ?gh ?gl ?gk); (case gh => omega); (case gl => omega))
  | ((with_reducible refine' g_irng2v ?gh ?gk); (case gh => omega))
  | ((with_reducible refine g_NewT ?_); intro _ _ _ _ _)
  | ((with_reducible refine' g_fldv ?gh ?gc ?gn ?gl ?gk); (case gh => walk_at "hp"); (case gc => assumption); (case gn => assumption); (case gl => first | rfl | walk_at "lk"))
  | ((with_reducible refine' g_fldw ?gh ?gc ?gn ?gl ?gk); (case gh => walk_at "hp"); (case gc => assumption); (case gn => assumption); (case gl => exact Nat.le_of_ble_eq_true rfl))
  | ((with_reducible refine' g_own2 ?gh ?gl ?gk); (case gh => walk_at "hp"); (case gl => walk_at "hp"))
  | ((with_reducible refine' g_own1 ?gh ?gk); (case gh => walk_at "hp"))
  | ((with_reducible refine' g_ownI ?gh ?gk); (case gh => walk_at "hp"))
  | ((with_reducible refine' g_recv ?gh ?gl ?gk); (case gh => walk_at "hp"); (case gl => walk_at "lk"))
  | ((with_reducible refine' g_lenS ?gh ?gk); (case gh => (have := sizeLine_eq; omega)))
  | ((with_reducible refine' ifT ?gh ?gk); (case gh => first | exact decide_eq_true (by omega) | exact nf (decide_eq_false (by omega)) | decide +kernel))
  | ((with_reducible refine' ifF ?gh ?gk); (case gh => first | exact decide_eq_false (by omega) | exact nt (decide_eq_true (by omega)) | decide +kernel)))
local macro_rules | `(tactic| walk_at "go1") => `(tactic| first
  | (with_reducible first
    | refine g_var rfl ?_
    | refine g_op ?_
    | refine g_cons ?_
    | refine g_nil ?_
    | refine g_c ?_
    | refine g_cb ?_
    | refine g_call ?_
    | refine g_seq ?_
    | refine g_asg ?_
    | refine g_name ?_
    | refine g_fld ?_
    | refine g_meth ?_
    | refine g_ifS ?_
    | refine g_if ?_
    | refine g_ret ?_
    | refine g_test ?_
    | refine g_tB ?_
    | refine g_bl ?_
    | refine g_and ?_
    | refine g_or ?_
    | refine g_not ?_
    | refine g_andV ?_
    | refine g_orV ?_
    | refine g_notV ?_
    | refine g_chain ?_
    | refine g_un ?_
    | refine g_ntup ?_
    | refine g_nlst ?_
    | refine g_drop ?_
    | refine g_next ?_
    | refine g_par ?_
    | refine g_par3 ?_
    | refine g_e2 ?_
    | refine g_e3 ?_
    | refine g_retN ?_
    | refine g_gcons ?_
    | refine g_gnil ?_
    | refine g_rI0 ?_
    | refine g_rU ?_
    | refine g_rSS ?_
    | refine g_rBB ?_
    | refine g_sib ?_
    | refine g_sii ?_
    | refine g_lc ?_
    | refine g_for ?_
    | refine g_istr ?_
    | refine g_istrv ?_
    | refine g_ilst ?_
    | refine g_itup ?_
    | refine g_irng1 ?_
    | refine g_irng2 ?_
    | refine g_ienum ?_
    | refine g_abs ?_
    | refine g_mx ?_
    | refine g_mn ?_
    | refine g_isN ?_
    | refine g_inC ?_
    | refine g_nfld ?_
    | refine g_ienT ?_
    | refine g_sl ?_
    | refine g_np ?_
    | refine g_pt ?_
    | refine g_ptv ?_
    | refine g_star ?_
    | refine g_bmL ?_)
  | walk_at "goA"
  | walk_at "goT"
  | walk_at "goB")
local macro_rules | `(tactic| walk_at "go") => `(tactic| repeat walk_at "go1")
local macro_rules | `(tactic| walk_at "goB") => `(tactic| first
  | (with_reducible refine g_lset ?_)
  | (with_reducible refine g_sset ?_)
  | (with_reducible refine u_is_whole ?_))
local macro_rules | `(tactic| walk_at "lk") => `(tactic| first | rfl | exact lk_no (by decide +kernel) | (simp [List.lookup]; done))
section
variable {P : Program} {w : World} {K : PySem.W.Frag} {mg : Str → Option Value} {base : Heap}
def tabV (f : Bool → Bool → Bool) : List V := [.bl (f false false), .bl (f false true), .bl (f true false), .bl (f true true)]
theorem tab_at (f : Bool → Bool → Bool) (a b : Bool) : atI (tabV f) (2 * (if a = true then 1 else 0) + (if b = true then 1 else 0)) = some (.bl (f a b)) := by
  cases a <;> cases b <;> rfl
theorem mul2 (a : Bool) : CMulW 2 (if a = true then 1 else 0) := wide_mul (a := 3) (b := 3) (by decide) (by cases a <;> decide) (by decide) (by decide) (by decide)
def sp_joined (K : PySem.W.Frag) : Sp := fun vs H Q _ => ∃ (p q t : Addr) (s1 s2 : Ds) (f : Bool → Bool → Bool), vs = [.ref p, .ref q, .ref t] ∧ PlnAt K H p s1 ∧ PlnAt K H q s2 ∧ SqT K H t (tabV f) ∧ s1.Ok ∧ s2.Ok ∧ s1.fl.length * s2.fl.length ≤ 100000 ∧ s1.xs.length + s2.xs.length < 64 ∧
  ∀ r H' s', Same H H' → H r = none → s'.Ok → (∀ d, s'.mem d = f (s1.mem d) (s2.mem d)) → s'.xs.length ≤ s1.xs.length + s2.xs.length → (∀ x ∈ s'.xs, x ∈ s1.xs ∨ x ∈ s2.xs) → s'.fl.length ∣ Nat.lcm s1.fl.length s2.fl.length → PlnAt K H' r s' → Q (.ref r) H'
theorem sc_joined : FnScope ["one", "other", "table", "period", "flags", "flipped", "distance", "is_there", "place"] ["one", "other", "table"] (defScope s_joined) := C8.fnScope_by (by decide +kernel)
theorem c_joined (T : Tx K mg) : C8.Cal P w K mg base 5 "joined" (sp_joined K) [] := by
  refine calD T.d_joined T.g_joined (fun _ _ _ _ _ _ us hl => match us, hl with | [_, _, _], _ => rfl) sc_joined (fun vs H Q E ⟨_, _, _, _, _, _, e, _⟩ => by rw [e]; rfl) fun fd cdv A outer s H vs Q E hr h => ?_
  obtain ⟨p, q, t, s1, s2, f, rfl, P1, P2, ht, o1, o2, lm, lx, k⟩ := h
  refine ⟨_, (pss_cons (ps_set (i := 3) sc_joined.nd rfl (Or.inl rfl) (C8.pe_c (c_common_multiple T) hr (by decide) rfl (pa_cons (pe_fld (pv 0) rfl) (pa_cons (pe_fld (pv 1) rfl) pa_nil))))
      (pss_cons (ps_setLc (i := 4) (own := [("place", 8)]) rfl sc_joined.nd rfl rfl (sw_true rfl rfl rfl (by decide +kernel)) (pj_range1 rfl T.b_range (pa_cons (pv 3) pa_nil)) (blkOk_by (N := ["one", "other", "table", "period", "flags", "flipped", "distance", "is_there", "place"]) (sc := defScope s_joined) (by decide +kernel)) (fun _ _ _ _ _ => (pg_name (i := 8) sc_joined.nd rfl (Or.inl rfl))) (fun _ _ _ _ _ => pts_nil) (fun _ _ _ _ _ => (pe_ix (ix_tupK (K := K) rfl) (pv 2) (pe_op op_add (pe_op op_mulW pe_int (pe_callTy call_intB rfl T.b_int (by decide +kernel) (pa_cons (pe_ix (ix_listK (K := K) rfl) (pe_fldK (K := K) rfl (pv 0) rfl) (pe_op op_mod (pv 8) (pe_fldK (K := K) rfl (pv 0) rfl)) (fun _ _ => rfl)) pa_nil))) (pe_callTy call_intB rfl T.b_int (by decide +kernel) (pa_cons (pe_ix (ix_listK (K := K) rfl) (pe_fldK (K := K) rfl (pv 1) rfl) (pe_op op_mod (pv 8) (pe_fldK (K := K) rfl (pv 1) rfl)) (fun _ _ => rfl)) pa_nil))) (fun _ _ => rfl))))
      (pss_cons (ps_set (i := 5) sc_joined.nd rfl (Or.inl rfl) (pe_nlst pa_nil))
      (pss_cons (ps_for PassesOwn.never rfl (pj_list (pe_sortSet rfl rfl T.b_sorted rfl T.b_set (pe_nlst (StX.pa_star (pe_fld (pv 0) rfl) (StX.pa_star (pe_fld (pv 1) rfl) pa_nil))))) (pg_name (i := 6) sc_joined.nd rfl (Or.inl rfl))
        (pss_cons (ps_set (i := 7) sc_joined.nd rfl (Or.inl rfl) (pe_ix ix_tup (pv 2) (pe_op op_add (pe_op op_mulW pe_int (pe_callTy call_intB rfl T.b_int (by decide +kernel) (pa_cons (C8.pe_mt (c_Plainest_is_in T) hr (by decide) (pv 0) (pa_cons (pv 6) pa_nil)) pa_nil))) (pe_callTy call_intB rfl T.b_int (by decide +kernel) (pa_cons (C8.pe_mt (c_Plainest_is_in T) hr (by decide) (pv 1) (pa_cons (pv 6) pa_nil)) pa_nil))) (fun _ _ => rfl)))
        (pss_one (ps_if (pt_cmpR op_neB (pv 7) (pe_ix ix_list (pv 4) (pe_op op_mod (pv 6) (pv 3)) (fun _ _ => rfl)) (nomark _))
          (pss_one (ps_expr (pe_bm PySem.F.plainAttrs_list PySem.F.slot_list_append PySem.F.type_list_append mt_nappend (pv 5) (pa_cons (pv 6) pa_nil))))
          pss_nil))))
      (pss_one (ps_ret (pe_cm (m_Plainest T) hr (by decide) rfl (pa_cons (pv 4) (pa_cons (pe_callTy call_ntuple rfl T.b_tuple (by decide +kernel) (pa_cons (pv 5) pa_nil)) pa_nil))))))))), ?_⟩
  walk_at "st"
  have lF := T.l_Plainest
  have nF1 := T.n_Plainest_period
  have nF2 := T.n_Plainest_flags
  have nF3 := T.n_Plainest_flipped
  have L1 : 0 < s1.fl.length := o1.canon.pos
  have L2 : 0 < s2.fl.length := o2.canon.pos
  have b1 : s1.fl.length ≤ s1.fl.length * s2.fl.length := Nat.le_mul_of_pos_right _ L2
  have b2 : s2.fl.length ≤ s1.fl.length * s2.fl.length := Nat.le_mul_of_pos_left _ L1
  have lp : 0 < Nat.lcm s1.fl.length s2.fl.length := Nat.lcm_pos L1 L2
  have ll : Nat.lcm s1.fl.length s2.fl.length ≤ s1.fl.length * s2.fl.length := Nat.div_le_self _ _
  obtain ⟨dx1, a1, t1, c1, hp, ha1, ht1⟩ := id P1
  obtain ⟨dx2, a2, t2, c2, hq, ha2, ht2⟩ := id P2
  have hsz := sizeLine_eq
  walk_at "go"
  refine u_common_multiple L1 L2 (by omega) (by omega) ?_
  walk_at "go"
  refine lc_val walk_range (fun i => .bl (f (gF s1.fl i) (gF s2.fl i))) (by omega) (fun _ _ => trivial) ?_ ?_
  · rintro i v H2 H3 kk hi s3 ⟨rfl, rfl⟩ hk
    refine g_name ⟨rfl, ?_⟩
    have f1 := at_flag L1 i
    have f2 := at_flag L2 i
    have ft := tab_at f (gF s1.fl i) (gF s2.fl i)
    rw [← Int.zero_add (i : Int)] at f1 f2
    walk_at "go"
    refine g_rI (by omega) ?_
    walk_at "go"
    refine g_rI (mul2 _) ?_
    walk_at "go"
    refine g_rI (by omega) ?_
    walk_at "go"
    exact hk _ (Same.refl _)
  · intro p3 H3 n3 s3 h3
    rw [show ((Nat.lcm s1.fl.length s2.fl.length : Nat) : Int).toNat = Nat.lcm s1.fl.length s2.fl.length from Int.toNat_natCast _] at h3
    have h3' : H3 p3 = some (.lst ((jnF f s1.fl s2.fl).map V.bl)) := by
      rw [h3]
      unfold jnF
      rw [List.map_map]
      rfl
    walk_at "go"
    rename_i p5 H5 n5 s5 h5 p6 H6 n6 s6 h6
    refine ⟨p6, s1.xs ++ s2.xs, rfl, SqL.of (by rw [h6, List.append_nil, List.map_append]), by rw [List.length_append]; exact lx, fun js p7 H7 asc mem jl n7 s7 h7 => ?_⟩
    rw [List.length_append] at jl
    have s57 := s6.trans s7
    have h57 := s57 _ _ h5
    have n5' : H p5 = none := s3.free n5
    have mem' : ∀ k, k ∈ js ↔ k ∈ s1.xs ∨ k ∈ s2.xs := fun k => by rw [mem k, List.mem_append]
    have s07 : Same H H7 := (s3.trans s5).trans s57
    have hflL : ∀ H', Same H7 H' → SqL K H' p3 ((jnF f s1.fl s2.fl).map V.bl) := fun H' e => SqL.of (e _ _ (s57 _ _ (s5 _ _ h3')))
    have jg := jn_g f L1 L2
    have jl0 : 0 < (jnF f s1.fl s2.fl).length := by rw [(jg 0).1]; exact lp
    walk_at "go"
    refine for_w walk_list (fun i σ' H' => But p5 H7 H' ∧ H' p5 = some (.lst ((jnX f s1 s2 (js.take i)).map V.int)) ∧ ∃ x y, σ' = [some (.ref p), some (.ref q), some (.ref t), some (natV (Nat.lcm s1.fl.length s2.fl.length)), some (.ref p3), some (.ref p5), x, y, none])
      ⟨But.refl, h57, none, none, rfl⟩ (fun i σ' H' _ z => SqL.of (z.1 p7 _ (fun e => by rw [e, s6 _ _ h5] at n7; cases n7) h7)) ?_ ?_
    · rintro i v σ' H8 H9 hi ⟨b8, h8, x, y, rfl⟩ ⟨rfl, hv⟩
      rw [List.length_map] at hi
      rw [List.getElem?_map, List.getElem?_eq_getElem hi] at hv
      have ev := (Option.some.inj hv).symm
      subst ev
      have d0 : 0 ≤ js[i] := by
        rcases (mem' _).mp (List.getElem_mem hi) with h | h
        · have := o1.pos _ h
          omega
        · have := o2.pos _ h
          omega
      have s8 : Same H H9 := b8.same s07 n5'
      have Q1 := P1.mono s8
      have Q2 := P2.mono s8
      have ht8 := Same.seqT s8 ht
      obtain ⟨dy1, e1, g1, r1, hp8, _, _⟩ := id Q1
      obtain ⟨dy2, e2, g2, r2, hq8, _, _⟩ := id Q2
      have fl8 : SqL K H9 p3 ((jnF f s1.fl s2.fl).map V.bl) := SqL.of (b8 p3 _ (fun e => by rw [← e, h3] at n5; cases n5) (s57 _ _ (s5 _ _ h3')))
      walk_at "go"
      refine u_Plainest_is_in Q1 L1 d0 ?_
      walk_at "go"
      refine g_rI (mul2 _) ?_
      walk_at "go"
      refine u_Plainest_is_in Q2 L2 d0 ?_
      have ft := tab_at f (s1.mem js[i]) (s2.mem js[i])
      walk_at "go"
      refine g_rI (by omega) ?_
      have fa := at_flagZ jl0 d0
      rw [(jg js[i].toNat).2, (jg 0).1] at fa
      walk_at "go"
      have hX : jnX f s1 s2 (js.take (i + 1)) = jnX f s1 s2 (js.take i) ++ if (f (s1.mem js[i]) (s2.mem js[i]) != f (gF s1.fl js[i].toNat) (gF s2.fl js[i].toNat)) = true then [js[i]] else [] := by
        unfold jnX
        rw [List.take_add_one, List.getElem?_eq_getElem hi, List.filter_append]
        congr 1
        show List.filter _ [js[i]] = _
        rw [List.filter_cons, List.filter_nil]
      refine if2 (fun e => ?_) (fun e => ?_)
      · have xl : (jnX f s1 s2 (js.take i)).length ≤ 64 := by
          have h1 := List.length_filter_le (fun d => f (s1.mem d) (s2.mem d) != f (gF s1.fl d.toNat) (gF s2.fl d.toNat)) (js.take i)
          have h2 : (js.take i).length ≤ js.length := by rw [List.length_take]; omega
          unfold jnX
          omega
        walk_at "go"
        intro H10 b10 h10
        refine ⟨b8.trans b10, ?_, _, _, rfl⟩
        rw [h10, hX, if_pos e, List.map_append]
        rfl
      · walk_at "go"
        refine ⟨b8, ?_, _, _, rfl⟩
        rw [hX, if_neg (by rw [e]; decide), List.append_nil]
        exact h8
    · rintro σ' H8 ⟨b8, h8, x, y, rfl⟩
      rw [List.length_map, List.take_length] at h8
      have fl8 : SqL K H8 p3 ((jnF f s1.fl s2.fl).map V.bl) := SqL.of (b8 p3 _ (fun e => by rw [← e, h3] at n5; cases n5) (s57 _ _ (s5 _ _ h3')))
      walk_at "go"
      rename_i p9 H9 s9 h9
      refine u_Plainest (Same.seq s9 fl8) h9 jl0 (by rw [(jg 0).1]; omega) fun r H10 L s10 n10 lper hP => ?_
      have s8 : Same H H8 := b8.same s07 n5'
      have jx : ∀ x ∈ jnX f s1 s2 js, x ∈ js := fun x hx => (List.mem_filter.mp hx).1
      refine k r H10 _ (s8.trans (s9.trans s10)) ((s8.trans s9).free n10) ⟨cut_canon lper jl0, ?_, fun x hx => ?_⟩ (fun d => jn_mem f o1 o2 mem' lper d) ?_ (fun x hx => (mem' x).mp (jx x hx)) ?_ hP
      · exact List.Pairwise.sublist (List.filter_sublist ..) asc
      · rcases (mem' x).mp (jx x hx) with h | h
        · exact o1.pos _ h
        · exact o2.pos _ h
      · exact Nat.le_trans (List.length_filter_le _ _) jl
      · rw [(cut_g lper jl0).1, ← (jg 0).1]
        exact lper.dvd
end
end RL
set_option maxHeartbeats 4000000
namespace RL
open PySem PySem.Spec PyProof.Rows L2
local macro_rules | `(tactic| walk_at "hp") => `(tactic| first
  | assumption
  | ((with_reducible refine' SqT.of ?gz); (case gz => walk_at "hp"))
  | ((with_reducible refine' SqL.of ?gz); (case gz => walk_at "hp"))
  | ((with_reducible refine' Same.seqT (by assumption) ?gz); (case gz => walk_at "hp"))
  | ((with_reducible refine' Same.seq (by assumption) ?gz); (case gz => walk_at "hp"))
  | ((with_reducible refine' s_at (by assumption) ?gz); (case gz => walk_at "hp"))
  | ((with_reducible refine' dp_mono (by assumption) ?gz); (case gz => walk_at "hp")))
local macro_rules | `(tactic| walk_at "sm") => `(tactic| first
  | assumption
  | exact Same.refl _
  | (with_reducible refine Same.trans ?_ (by assumption); walk_at "sm"))
local macro_rules | `(tactic| walk_at "st") => `(tactic| try dsimp only [cxOf, L2.Cx.nox, L2.Cx.wish])
local macro_rules | `(tactic| walk_at "sz") => `(tactic| (have := sizeLine_eq; (try simp only [List.length_append, List.length_map, List.length_take, List.length_drop, List.length_cons, List.length_nil]); omega))
local macro_rules | `(tactic| walk_at "lk") => `(tactic| fail)
local macro_rules | `(tactic| walk_at "goB") => `(tactic| fail)
local macro_rules | `(tactic| walk_at "goT") => `(tactic| fail)
local macro_rules | `(tactic| walk_at "goA") => `(tactic| first
  | (with_reducible first
    | refine ifT rfl ?_
    | refine ifF rfl ?_)
  | ((with_reducible refine' g_gtup ?gh ?gl ?gk); (case gh => walk_at "hp"); (case gl => rfl))
  | ((with_reducible refine' g_ixT ?gh ?gl ?gk); (case gh => walk_at "hp"); (case gl => first | rfl | assumption))
  | ((with_reducible refine' g_ixL ?gh ?gl ?gk); (case gh => walk_at "hp"); (case gl => first | rfl | assumption))
  | ((with_reducible refine' g_lenT ?gh ?gk); (case gh => walk_at "hp"))
  | ((with_reducible refine' g_lenL ?gh ?gk); (case gh => walk_at "hp"))
  | ((with_reducible refine' g_inT ?gh ?gf ?gl ?gk); (case gh => walk_at "hp"); (case gf => rfl); (case gl => rfl))
  | ((with_reducible refine' g_isi (d := true) ?gh ?gl ?gk); (case gh => first | exact ty_tup (by walk_at "hp") | exact .base (.int _) | exact .base (.str _)); (case gl => exact kit_ty (by decide +kernel)))
  | ((with_reducible refine' g_isi (d := false) ?gh ?gl ?gk); (case gh => first | exact ty_tup (by walk_at "hp") | exact .base (.int _) | exact .base (.str _)); (case gl => exact kit_ty (by decide +kernel)))
  | ((with_reducible refine' g_new ?gl ?gk); (case gl => first | exact Nat.le_of_ble_eq_true rfl | walk_at "sz"))
  | ((with_reducible refine' g_ilstv ?gh ?gk); (case gh => walk_at "hp"))
  | ((with_reducible refine' g_itupv ?gh ?gk); (case gh => walk_at "hp"))
  | ((with_reducible refine' g_ienumv ?gh ?gk); (case gh => walk_at "hp"))
  | ((with_reducible refine' g_ienTv ?gh ?gk); (case gh => walk_at "hp"))
  | ((with_reducible refine' g_slT ?gh ?gk); (case gh => walk_at "hp"); intro _ _ _ _)
  | ((with_reducible refine' g_slL ?gh ?gk); (case gh => walk_at "hp"))
  | ((with_reducible refine' g_catT ?gh ?gl ?gm ?gk); (case gh => walk_at "hp"); (case gl => walk_at "hp"); (case gm => walk_at "sz"); intro _ _ _ _)
  | ((with_reducible refine' g_catL ?gh ?gl ?gm ?gk); (case gh => walk_at "hp"); (case gl => walk_at "hp"); (case gm => walk_at "sz"))
  | ((with_reducible refine' g_tupL ?gh ?gk); (case gh => walk_at "hp"); intro _ _ _ _)
  | ((with_reducible refine' g_tupT ?gh ?gk); (case gh => walk_at "hp"); intro _ _ _ _)
  | ((with_reducible refine' g_starT ?gh ?gk); (case gh => walk_at "hp"))
  | ((with_reducible refine' g_starL ?gh ?gk); (case gh => walk_at "hp"))
  | ((with_reducible refine' g_tyL ?gh ?gk); (case gh => walk_at "hp"))
  | ((with_reducible refine' g_app ?gh ?gl ?gk); (case gh => walk_at "hp"); (case gl => walk_at "sz"))
  | ((with_reducible refine' g_inL ?gh ?gf ?gl ?gk); (case gh => walk_at "hp"); (case gf => rfl); (case gl => first | rfl | assumption))
  | ((with_reducible refine' g_irng1v ?gh ?gl ?gk); (case gh => omega); (case gl => omega))
  | ((with_reducible refine' g_irng2v ?gh ?gk); (case gh => omega))
  | ((with_reducible refine g_NewT ?_); intro _ _ _ _ _)
  | ((with_reducible refine' g_fldv ?gh ?gc ?gn ?gl ?gk); (case gh => walk_at "hp"); (case gc => assumption); (case gn => assumption); (case gl => first | rfl | walk_at "lk"))
  | ((with_reducible refine' g_fldw ?gh ?gc ?gn ?gl ?gk); (case gh => walk_at "hp"); (case gc => assumption); (case gn => assumption); (case gl => exact Nat.le_of_ble_eq_true rfl))
  | ((with_reducible refine' g_own2 ?gh ?gl ?gk); (case gh => walk_at "hp"); (case gl => walk_at "hp"))
  | ((with_reducible refine' g_own1 ?gh ?gk); (case gh => walk_at "hp"))
  | ((with_reducible refine' g_ownI ?gh ?gk); (case gh => walk_at "hp"))
  | ((with_reducible refine' g_recv ?gh ?gl ?gk); (case gh => walk_at "hp"); (case gl => walk_at "lk"))
  | ((with_reducible refine' g_lenS ?gh ?gk); (case gh => (have := sizeLine_eq; omega)))
  | ((with_reducible refine' ifT ?gh ?gk); (case gh => first | exact decide_eq_true (by omega) | exact nf (decide_eq_false (by omega)) | decide +kernel))
  | ((with_reducible refine' ifF ?gh ?gk); (case gh => first | exact decide_eq_false (by omega) | exact nt (decide_eq_true (by omega)) | decide +kernel)))
local macro_rules | `(tactic| walk_at "go1") => `(tactic| first
  | (with_reducible first
    | refine g_var rfl ?_
    | refine g_op ?_
    | refine g_cons ?_
    | refine g_nil ?_
    | refine g_c ?_
    | refine g_cb ?_
    | refine g_call ?_
    | refine g_seq ?_
    | refine g_asg ?_
    | refine g_name ?_
    | refine g_fld ?_
    | refine g_meth ?_
    | refine g_ifS ?_
    | refine g_if ?_
    | refine g_ret ?_
    | refine g_test ?_
    | refine g_tB ?_
    | refine g_bl ?_
    | refine g_and ?_
    | refine g_or ?_
    | refine g_not ?_
    | refine g_andV ?_
    | refine g_orV ?_
    | refine g_notV ?_
    | refine g_chain ?_
    | refine g_un ?_
    | refine g_ntup ?_
    | refine g_nlst ?_
    | refine g_drop ?_
    | refine g_next ?_
    | refine g_par ?_
    | refine g_par3 ?_
    | refine g_e2 ?_
    | refine g_e3 ?_
    | refine g_retN ?_
    | refine g_gcons ?_
    | refine g_gnil ?_
    | refine g_rI0 ?_
    | refine g_rU ?_
    | refine g_rSS ?_
    | refine g_rBB ?_
    | refine g_sib ?_
    | refine g_sii ?_
    | refine g_lc ?_
    | refine g_for ?_
    | refine g_istr ?_
    | refine g_istrv ?_
    | refine g_ilst ?_
    | refine g_itup ?_
    | refine g_irng1 ?_
    | refine g_irng2 ?_
    | refine g_ienum ?_
    | refine g_abs ?_
    | refine g_mx ?_
    | refine g_mn ?_
    | refine g_isN ?_
    | refine g_inC ?_
    | refine g_nfld ?_
    | refine g_ienT ?_
    | refine g_sl ?_
    | refine g_np ?_
    | refine g_pt ?_
    | refine g_ptv ?_
    | refine g_star ?_
    | refine g_bmL ?_)
  | walk_at "goA"
  | walk_at "goT"
  | walk_at "goB")
local macro_rules | `(tactic| walk_at "go") => `(tactic| repeat walk_at "go1")
local macro_rules | `(tactic| walk_at "lk") => `(tactic| first | rfl | exact lk_no (by decide +kernel) | (simp [List.lookup]; done))
section
variable {P : Program} {w : World} {K : PySem.W.Frag} {mg : Str → Option Value} {base : Heap}
def DstAt (K : PySem.W.Frag) (H : Hp) (p : Addr) (s : Ds) : Prop := ∃ dx q, H p = some (.ins (He.ga K "Distances") dx [("plain", .ref q)]) ∧ PlnAt K H q s
theorem DstAt.mono {H H' : Hp} {p : Addr} {s : Ds} (e : Same H H') : DstAt K H p s → DstAt K H' p s := fun ⟨dx, q, h1, h2⟩ => ⟨dx, q, e _ _ h1, h2.mono e⟩
theorem PlnAt.but {H H2 : Hp} {l p C dx : Addr} {fs : List (Str × V)} {s : Ds} (b : But l H H2) (hl : H l = some (.ins C dx fs)) (ne : p ≠ l) : PlnAt K H p s → PlnAt K H2 p s := fun ⟨dx, a, t, c, h1, h2, h3⟩ => ⟨dx, a, t, c, b p _ ne h1, b.sqL hl h2, b.sqT hl h3⟩
/-- what a modulus, classes and changed give -/
def Made (m : Nat) (cs xs : List Int) (s : Ds) : Prop := ∃ js L, js.Perm xs ∧ js.Pairwise (· < ·) ∧ LPer (ckF m cs) L ∧ s = ⟨(ckF m cs).take L, js⟩
structure Arg3 (m : Nat) (cs xs : List Int) : Prop where
  m1 : 1 ≤ m
  m2 : m ≤ 720
  nd : cs.Nodup
  bc : ∀ k ∈ cs, 0 ≤ k ∧ k < (m : Int)
  lc : cs.length ≤ 1000
  nx : xs.Nodup
  bx : ∀ k ∈ xs, 1 ≤ k
  lx : xs.length < 64
theorem u_checked {m : Nat} {c x : Addr} {cs xs : List Int} {H : Hp} {Q : VK} {E : XK} (h1 : SqT K H c (cs.map V.int)) (h2 : SqT K H x (xs.map V.int)) (a : Arg3 m cs xs) (k : ∀ p H' s, Same H H' → H p = none → Made m cs xs s → PlnAt K H' p s → Q (.ref p) H') : sp_checked K [natV m, .ref c, .ref x] H Q E :=
  ⟨m, c, x, cs, xs, rfl, h1, h2, a.m1, a.m2, a.nd, a.bc, a.lc, a.nx, a.bx, a.lx, fun p H' js L s' n' pm asc lp hP => k p H' _ s' n' ⟨js, L, pm, asc, lp, rfl⟩ hP⟩
def spI_Distances (K : PySem.W.Frag) : Sp := fun vs H Q _ => ∃ p dx v c x, vs = [.ref p, v, .ref c, .ref x] ∧ H p = some (.ins (He.ga K "Distances") dx []) ∧
  ((∃ q s, v = .ref q ∧ PlnAt K H q s ∧ ∀ H', But p H H' → DstAt K H' p s → Q .non H') ∨
   (∃ m cs xs, v = natV m ∧ SqT K H c (cs.map V.int) ∧ SqT K H x (xs.map V.int) ∧ Arg3 m cs xs ∧ ∀ H' s, But p H H' → Made m cs xs s → DstAt K H' p s → Q .non H'))
theorem sc_Distances_init : FnScope ["self", "modulus", "classes", "changed"] ["self", "modulus", "classes", "changed"] (defScope s_Distances_init) := C8.fnScope_by (by decide +kernel)
theorem i_Distances (T : Tx K mg) (n j : Nat) (hn : n + (3 - j) = 4) (hb : ∀ (T : Addr) (kV doc pm : Value) (an : Option Addr) (cdv ct : Value) (us its : List Value), us.length = n → its.length = 3 →
      ∃ k, bindArgs (PySem.W.fnOf "__init__" "Distances.__init__" (defArgs s_Distances_init) (defBody s_Distances_init) (defScope s_Distances_init) (.ref T) kV doc pm an cdv ct) ⟨us, []⟩ = seqItems? (.ref T) >>= k ∧ k (some its.toArray) = pure ((["self", "modulus", "classes", "changed"] : List Str).zip (us ++ its.drop j))) :
    C8.Mak P w K mg base 7 "Distances" (He.ga K "Distances") (spI_Distances K) (([.int 1, .ref (He.dflAt ("Distances", some "__init__") 1 K), .ref (He.dflAt ("Distances", some "__init__") 2 K)] : List V).drop j) := by
  refine makD (k := 6) (ps := ["self", "modulus", "classes", "changed"]) T.d_Distances_init T.mk_Distances T.g_Distances n j (by simp) hn hb sc_Distances_init (fun vs H Q E ⟨_, _, _, _, _, e, _⟩ => by rw [e]; rfl) fun fd cdv A outer s H vs Q E hr h => ?_
  obtain ⟨p, dx, v, c, x, rfl, hp, h⟩ := h
  refine ⟨_, (pss_one (ps_nfld (pv 0) (pe_ifExp (pt_val (pe_callB call_isi rfl T.b_isinstance (by decide +kernel) (pa_cons (pv 1) (pa_cons (C8.pe_gc (v := .ref (He.ga K "Plainest")) rfl ⟨_, T.g_Plainest, rfl⟩) pa_nil)))) (pv 1) (C8.pe_c (c_checked T) hr (by decide) rfl (pa_cons (pv 1) (pa_cons (pv 2) (pa_cons (pv 3) pa_nil))))) rfl)), ?_⟩
  walk_at "st"
  have lF := T.l_Distances
  have nF := T.n_Distances_plain
  walk_at "go"
  rcases h with ⟨q, s, rfl, hP, k⟩ | ⟨m, cs, xs, rfl, hc, hx, a, k⟩
  · obtain ⟨dq, qa, qt, qb, hq, _, _⟩ := id hP
    walk_at "go"
    refine g_isiC (ty_ins T.is_Plainest hq) T.is_Plainest.me ?_
    walk_at "go"
    intro H2 b2 h2
    replace h2 : H2 p = some (.ins (He.ga K "Distances") dx [("plain", .ref q)]) := h2
    exact k H2 b2 ⟨dx, q, h2, hP.but b2 hp (fun e => by
      rw [e, hp] at hq
      injection (Option.some.inj hq) with _ _ z
      cases z)⟩
  · walk_at "go"
    refine g_isiC (.base (.int _)) T.i_pln ?_
    walk_at "go"
    refine u_checked hc hx a fun q H1 s s1 n1 md hP => ?_
    have hp1 := s1 _ _ hp
    walk_at "go"
    intro H2 b2 h2
    replace h2 : H2 p = some (.ins (He.ga K "Distances") dx [("plain", .ref q)]) := h2
    exact k H2 s ((But.of s1).trans b2) md ⟨dx, q, h2, hP.but b2 hp1 (fun e => by rw [e, hp] at n1; cases n1)⟩
def sp_Distances (K : PySem.W.Frag) : Sp := fun vs H Q _ => ∃ m c x cs xs, vs = [natV m, .ref c, .ref x] ∧ SqT K H c (cs.map V.int) ∧ SqT K H x (xs.map V.int) ∧ Arg3 m cs xs ∧ ∀ p H' s, Same H H' → H p = none → Made m cs xs s → DstAt K H' p s → Q (.ref p) H'
theorem u_Distances {m : Nat} {c x : Addr} {cs xs : List Int} {H : Hp} {Q : VK} {E : XK} (h1 : SqT K H c (cs.map V.int)) (h2 : SqT K H x (xs.map V.int)) (a : Arg3 m cs xs) (k : ∀ p H' s, Same H H' → H p = none → Made m cs xs s → DstAt K H' p s → Q (.ref p) H') : sp_Distances K [.int (m : Int), .ref c, .ref x] H Q E :=
  ⟨m, c, x, cs, xs, rfl, h1, h2, a, k⟩
theorem m_Distances (T : Tx K mg) : MkM P w K mg base 7 "Distances" (sp_Distances K) := by
  refine ⟨_, _, _, i_Distances T 4 3 rfl (fun T kV doc pm an cdv ct us its hu hi => match us, hu, its, hi with | [_, _, _, _], _, [_, _, _], _ => ⟨_, rfl, rfl⟩), fun vs H Q ⟨m, c, x, cs, xs, e, h1, h2, a, k⟩ p dx hp hdx ne => ?_⟩
  subst e
  have s0 : Same H (upd (upd H dx (.own p)) p (.ins (He.ga K "Distances") dx [])) := fun b o e => by rw [upd_ne (ne_of_none e hp), upd_ne (ne_of_none e hdx)]; exact e
  exact ⟨p, dx, _, c, x, rfl, upd_same, .inr ⟨m, cs, xs, rfl, Same.seqT s0 h1, Same.seqT s0 h2, a, fun H' s bt md hP => ⟨rfl, k p H' s (bt.same s0 hp) hp md hP⟩⟩⟩
def sp_Distances1 (K : PySem.W.Frag) : Sp := fun vs H Q _ => ∃ q s, vs = [.ref q] ∧ PlnAt K H q s ∧ ∀ p H', Same H H' → H p = none → DstAt K H' p s → Q (.ref p) H'
theorem u_Distances1 {q : Addr} {s : Ds} {H : Hp} {Q : VK} {E : XK} (h : PlnAt K H q s) (k : ∀ p H', Same H H' → H p = none → DstAt K H' p s → Q (.ref p) H') : sp_Distances1 K [.ref q] H Q E := ⟨q, s, rfl, h, k⟩
theorem m_Distances1 (T : Tx K mg) : MkM P w K mg base 7 "Distances" (sp_Distances1 K) := by
  refine ⟨_, _, _, i_Distances T 2 1 rfl (fun T kV doc pm an cdv ct us its hu hi => match us, hu, its, hi with | [_, _], _, [_, _, _], _ => ⟨_, rfl, rfl⟩), fun vs H Q ⟨q, s, e, h, k⟩ p dx hp hdx ne => ?_⟩
  subst e
  have s0 : Same H (upd (upd H dx (.own p)) p (.ins (He.ga K "Distances") dx [])) := fun b o e => by rw [upd_ne (ne_of_none e hp), upd_ne (ne_of_none e hdx)]; exact e
  exact ⟨p, dx, _, _, _, rfl, upd_same, .inl ⟨q, s, rfl, h.mono s0, fun H' bt hP => ⟨rfl, k p H' (bt.same s0 hp) hp hP⟩⟩⟩
/-! its methods -/
def sp_Distances_eq (K : PySem.W.Frag) : Sp := fun vs H Q _ => ∃ p q s, vs = [.ref p, .ref q] ∧ DstAt K H p s ∧ DstAt K H q s ∧ Q (.bl true) H
theorem u_Distances_eq {p q : Addr} {s : Ds} {H : Hp} {Q : VK} {E : XK} (h1 : DstAt K H p s) (h2 : DstAt K H q s) (k : Q (.bl true) H) : sp_Distances_eq K [.ref p, .ref q] H Q E := ⟨p, q, s, rfl, h1, h2, k⟩
theorem sc_Distances_eq : FnScope ["self", "other"] ["self", "other"] (defScope s_Distances_eq) := C8.fnScope_by (by decide +kernel)
theorem c_Distances_eq (T : Tx K mg) : C8.Met P w K mg base 1 (He.ga K "Distances") "__eq__" (sp_Distances_eq K) [] := by
  refine metD T.d_Distances_eq T.l_Distances T.me_Distances_eq (fun _ _ _ _ _ _ us hl => match us, hl with | [_, _], _ => rfl) sc_Distances_eq (fun vs H Q E ⟨_, _, _, e, _⟩ => by rw [e]; rfl) fun fd cdv A outer s H vs Q E hr h => ?_
  obtain ⟨p, q, s, rfl, ⟨dx, u, hp, ⟨d1, a1, t1, b1, hu, ha1, ht1⟩⟩, ⟨dy, v, hq, ⟨d2, a2, t2, b2, hv, ha2, ht2⟩⟩, k⟩ := h
  refine ⟨_, (pss_cons (ps_if (pt_not (pt_val (pe_callB call_isi rfl T.b_isinstance (by decide +kernel) (pa_cons (pv 1) (pa_cons (C8.pe_gc (v := .ref (He.ga K "Distances")) rfl ⟨_, T.g_Distances, rfl⟩) pa_nil)))))
        (pss_one (ps_ret pe_bl))
        pss_nil)
      (pss_one (ps_ret (pe_and (pe_cmpR (op_eqD hr.units) (pe_fld (pe_fld (pv 0) rfl) rfl) (pe_fld (pe_fld (pv 1) rfl) rfl) (nomark _)) (pe_one (pe_cmpR (op_eqD hr.units) (pe_fld (pe_fld (pv 0) rfl) rfl) (pe_fld (pe_fld (pv 1) rfl) rfl) (nomark _))))))), ?_⟩
  walk_at "st"
  have lF := T.l_Distances
  have nF := T.n_Distances_plain
  have lG := T.l_Plainest
  have nG := T.n_Plainest_flags
  have nG2 := T.n_Plainest_flipped
  walk_at "go"
  refine g_isiC (ty_ins T.is_Distances hq) T.is_Distances.me ?_
  walk_at "go"
  refine g_eqBs ha1 ha2 ?_
  rw [decide_eq_true rfl]
  walk_at "go"
  refine g_eqIs ht1 ht2 ?_
  rw [decide_eq_true rfl]
  walk_at "go"
  exact k
theorem o_Distances_eq {X : Cx} {j : Nat} (T : Tx X.K X.mg) (hr : Room j X.A) (hk : 1 ≤ j) : OpR X (compareOp .Eq) (rOwn2 (He.ga X.K "Distances") (sp_Distances_eq X.K)) := op_eq2 (c_Distances_eq T) T.nf_Distances hr hk
/-- two sets joined by a table -/
def spJ (K : PySem.W.Frag) (f : Bool → Bool → Bool) : Sp := fun vs H Q _ => ∃ (p q : Addr) (s1 s2 : Ds), vs = [.ref p, .ref q] ∧ DstAt K H p s1 ∧ DstAt K H q s2 ∧ s1.Ok ∧ s2.Ok ∧ s1.fl.length * s2.fl.length ≤ 100000 ∧ s1.xs.length + s2.xs.length < 64 ∧
  ∀ r H' s', Same H H' → H r = none → s'.Ok → (∀ d, s'.mem d = f (s1.mem d) (s2.mem d)) → s'.xs.length ≤ s1.xs.length + s2.xs.length → (∀ x ∈ s'.xs, x ∈ s1.xs ∨ x ∈ s2.xs) → s'.fl.length ∣ Nat.lcm s1.fl.length s2.fl.length → DstAt K H' r s' → Q (.ref r) H'
theorem u_J {f : Bool → Bool → Bool} {p q : Addr} {s1 s2 : Ds} {H : Hp} {Q : VK} {E : XK} (h1 : DstAt K H p s1) (h2 : DstAt K H q s2) (o1 : s1.Ok) (o2 : s2.Ok) (l : s1.fl.length * s2.fl.length ≤ 100000) (lx : s1.xs.length + s2.xs.length < 64)
    (k : ∀ r H' s', Same H H' → H r = none → s'.Ok → (∀ d, s'.mem d = f (s1.mem d) (s2.mem d)) → s'.xs.length ≤ s1.xs.length + s2.xs.length → (∀ x ∈ s'.xs, x ∈ s1.xs ∨ x ∈ s2.xs) → s'.fl.length ∣ Nat.lcm s1.fl.length s2.fl.length → DstAt K H' r s' → Q (.ref r) H') :
    spJ K f [.ref p, .ref q] H Q E := ⟨p, q, s1, s2, rfl, h1, h2, o1, o2, l, lx, k⟩
theorem sc_Distances_or : FnScope ["self", "other"] ["self", "other"] (defScope s_Distances_or) := C8.fnScope_by (by decide +kernel)
theorem c_Distances_or (T : Tx K mg) : C8.Met P w K mg base 9 (He.ga K "Distances") "__or__" (spJ K or) [] := by
  refine metD T.d_Distances_or T.l_Distances T.me_Distances_or (fun _ _ _ _ _ _ us hl => match us, hl with | [_, _], _ => rfl) sc_Distances_or (fun vs H Q E ⟨_, _, _, _, e, _⟩ => by rw [e]; rfl) fun fd cdv A outer s H vs Q E hr h => ?_
  obtain ⟨p, q, s1, s2, rfl, ⟨dx, u, hp, hu⟩, ⟨dy, v, hq, hv⟩, o1, o2, l, lx, k⟩ := h
  refine ⟨_, (pss_one (ps_ret (pe_cm (m_Distances1 T) hr (by decide) rfl (pa_cons (C8.pe_c (c_joined T) hr (by decide) rfl (pa_cons (pe_fld (pv 0) rfl) (pa_cons (pe_fld (pv 1) rfl) (pa_cons (C8.pe_gc rfl T.v_UNION) pa_nil)))) pa_nil)))), ?_⟩
  walk_at "st"
  have lF := T.l_Distances
  have nF := T.n_Distances_plain
  walk_at "go"
  refine ⟨u, v, _, s1, s2, or, rfl, hu, hv, T.t_UNION _, o1, o2, l, lx, fun r H1 s' e1 n1 ok mem xl xs fl hP => ?_⟩
  walk_at "go"
  exact u_Distances1 hP fun r2 H2 e2 n2 hD => k r2 H2 s' (e1.trans e2) (e1.free n2) ok mem xl xs fl hD
theorem sc_Distances_sub : FnScope ["self", "other"] ["self", "other"] (defScope s_Distances_sub) := C8.fnScope_by (by decide +kernel)
theorem c_Distances_sub (T : Tx K mg) : C8.Met P w K mg base 9 (He.ga K "Distances") "__sub__" (spJ K fun a b => a && !b) [] := by
  refine metD T.d_Distances_sub T.l_Distances T.me_Distances_sub (fun _ _ _ _ _ _ us hl => match us, hl with | [_, _], _ => rfl) sc_Distances_sub (fun vs H Q E ⟨_, _, _, _, e, _⟩ => by rw [e]; rfl) fun fd cdv A outer s H vs Q E hr h => ?_
  obtain ⟨p, q, s1, s2, rfl, ⟨dx, u, hp, hu⟩, ⟨dy, v, hq, hv⟩, o1, o2, l, lx, k⟩ := h
  refine ⟨_, (pss_one (ps_ret (pe_cm (m_Distances1 T) hr (by decide) rfl (pa_cons (C8.pe_c (c_joined T) hr (by decide) rfl (pa_cons (pe_fld (pv 0) rfl) (pa_cons (pe_fld (pv 1) rfl) (pa_cons (C8.pe_gc rfl T.v_WITHOUT) pa_nil)))) pa_nil)))), ?_⟩
  walk_at "st"
  have lF := T.l_Distances
  have nF := T.n_Distances_plain
  walk_at "go"
  refine ⟨u, v, _, s1, s2, fun a b => a && !b, rfl, hu, hv, T.t_WITHOUT _, o1, o2, l, lx, fun r H1 s' e1 n1 ok mem xl xs fl hP => ?_⟩
  walk_at "go"
  exact u_Distances1 hP fun r2 H2 e2 n2 hD => k r2 H2 s' (e1.trans e2) (e1.free n2) ok mem xl xs fl hD
theorem sc_Distances_xor : FnScope ["self", "other"] ["self", "other"] (defScope s_Distances_xor) := C8.fnScope_by (by decide +kernel)
theorem c_Distances_xor (T : Tx K mg) : C8.Met P w K mg base 9 (He.ga K "Distances") "__xor__" (spJ K bne) [] := by
  refine metD T.d_Distances_xor T.l_Distances T.me_Distances_xor (fun _ _ _ _ _ _ us hl => match us, hl with | [_, _], _ => rfl) sc_Distances_xor (fun vs H Q E ⟨_, _, _, _, e, _⟩ => by rw [e]; rfl) fun fd cdv A outer s H vs Q E hr h => ?_
  obtain ⟨p, q, s1, s2, rfl, ⟨dx, u, hp, hu⟩, ⟨dy, v, hq, hv⟩, o1, o2, l, lx, k⟩ := h
  refine ⟨_, (pss_one (ps_ret (pe_cm (m_Distances1 T) hr (by decide) rfl (pa_cons (C8.pe_c (c_joined T) hr (by decide) rfl (pa_cons (pe_fld (pv 0) rfl) (pa_cons (pe_fld (pv 1) rfl) (pa_cons (C8.pe_gc rfl T.v_IN_ONE) pa_nil)))) pa_nil)))), ?_⟩
  walk_at "st"
  have lF := T.l_Distances
  have nF := T.n_Distances_plain
  walk_at "go"
  refine ⟨u, v, _, s1, s2, bne, rfl, hu, hv, T.t_IN_ONE _, o1, o2, l, lx, fun r H1 s' e1 n1 ok mem xl xs fl hP => ?_⟩
  walk_at "go"
  exact u_Distances1 hP fun r2 H2 e2 n2 hD => k r2 H2 s' (e1.trans e2) (e1.free n2) ok mem xl xs fl hD
theorem o_Distances_BitOr {X : Cx} {j : Nat} (T : Tx X.K X.mg) (hr : Room j X.A) (hk : 9 ≤ j) : OpR X (binaryOp .BitOr) (rOwn2 (He.ga X.K "Distances") (spJ X.K or)) := op_own2 (c_Distances_or T) T.sf_Distances hr hk
theorem o_Distances_Sub {X : Cx} {j : Nat} (T : Tx X.K X.mg) (hr : Room j X.A) (hk : 9 ≤ j) : OpR X (binaryOp .Sub) (rOwn2 (He.ga X.K "Distances") (spJ X.K fun a b => a && !b)) := op_own2 (c_Distances_sub T) T.sf_Distances hr hk
theorem o_Distances_BitXor {X : Cx} {j : Nat} (T : Tx X.K X.mg) (hr : Room j X.A) (hk : 9 ≤ j) : OpR X (binaryOp .BitXor) (rOwn2 (He.ga X.K "Distances") (spJ X.K bne)) := op_own2 (c_Distances_xor T) T.sf_Distances hr hk
def sp_Distances_modulus (K : PySem.W.Frag) : Sp := fun vs H Q _ => ∃ p s, vs = [.ref p] ∧ DstAt K H p s ∧ Q (natV s.fl.length) H
theorem u_Distances_modulus {p : Addr} {s : Ds} {H : Hp} {Q : VK} {E : XK} (h : DstAt K H p s) (k : Q (natV s.fl.length) H) : sp_Distances_modulus K [.ref p] H Q E := ⟨p, s, rfl, h, k⟩
theorem sc_Distances_modulus : FnScope ["self"] ["self"] (defScope s_Distances_modulus) := C8.fnScope_by (by decide +kernel)
theorem c_Distances_modulus (T : Tx K mg) : C8.Met P w K mg base 1 (He.ga K "Distances") "modulus" (sp_Distances_modulus K) [] := by
  refine metD T.d_Distances_modulus T.l_Distances T.me_Distances_modulus (fun _ _ _ _ _ _ us hl => match us, hl with | [_], _ => rfl) sc_Distances_modulus (fun vs H Q E ⟨_, _, e, _⟩ => by rw [e]; rfl) fun fd cdv A outer s H vs Q E hr h => ?_
  obtain ⟨p, s, rfl, ⟨dx, u, hp, ⟨d1, a1, t1, b1, hu, ha1, ht1⟩⟩, k⟩ := h
  refine ⟨_, (pss_one (ps_ret (pe_fld (pe_fld (pv 0) rfl) rfl))), ?_⟩
  walk_at "st"
  have lF := T.l_Distances
  have nF := T.n_Distances_plain
  have lG := T.l_Plainest
  have nG := T.n_Plainest_period
  walk_at "go"
  exact k
def sp_Distances_changed (K : PySem.W.Frag) : Sp := fun vs H Q _ => ∃ p s, vs = [.ref p] ∧ DstAt K H p s ∧ ∀ t, SqT K H t (s.xs.map V.int) → Q (.ref t) H
theorem u_Distances_changed {p : Addr} {s : Ds} {H : Hp} {Q : VK} {E : XK} (h : DstAt K H p s) (k : ∀ t, SqT K H t (s.xs.map V.int) → Q (.ref t) H) : sp_Distances_changed K [.ref p] H Q E := ⟨p, s, rfl, h, k⟩
theorem sc_Distances_changed : FnScope ["self"] ["self"] (defScope s_Distances_changed) := C8.fnScope_by (by decide +kernel)
theorem c_Distances_changed (T : Tx K mg) : C8.Met P w K mg base 1 (He.ga K "Distances") "changed" (sp_Distances_changed K) [] := by
  refine metD T.d_Distances_changed T.l_Distances T.me_Distances_changed (fun _ _ _ _ _ _ us hl => match us, hl with | [_], _ => rfl) sc_Distances_changed (fun vs H Q E ⟨_, _, e, _⟩ => by rw [e]; rfl) fun fd cdv A outer s H vs Q E hr h => ?_
  obtain ⟨p, s, rfl, ⟨dx, u, hp, ⟨d1, a1, t1, b1, hu, ha1, ht1⟩⟩, k⟩ := h
  refine ⟨_, (pss_one (ps_ret (pe_fld (pe_fld (pv 0) rfl) rfl))), ?_⟩
  walk_at "st"
  have lF := T.l_Distances
  have nF := T.n_Distances_plain
  have lG := T.l_Plainest
  have nG := T.n_Plainest_flipped
  walk_at "go"
  exact k _ ht1
/-- the places of the flags that hold -/
def onF (fl : List Bool) : List Int := ((List.range fl.length).filter fun i => fl.getD i false).map fun (i : Nat) => (i : Int)
def sp_Distances_classes (K : PySem.W.Frag) : Sp := fun vs H Q _ => ∃ p s, vs = [.ref p] ∧ DstAt K H p s ∧ s.fl.length ≤ 100000 ∧ ∀ t H', Same H H' → SqT K H' t ((onF s.fl).map V.int) → Q (.ref t) H'
theorem u_Distances_classes {p : Addr} {s : Ds} {H : Hp} {Q : VK} {E : XK} (h : DstAt K H p s) (l : s.fl.length ≤ 100000) (k : ∀ t H', Same H H' → SqT K H' t ((onF s.fl).map V.int) → Q (.ref t) H') : sp_Distances_classes K [.ref p] H Q E := ⟨p, s, rfl, h, l, k⟩
theorem sc_Distances_classes : FnScope ["self", "remainder", "flag"] ["self"] (defScope s_Distances_classes) := C8.fnScope_by (by decide +kernel)
theorem c_Distances_classes (T : Tx K mg) : C8.Met P w K mg base 1 (He.ga K "Distances") "classes" (sp_Distances_classes K) [] := by
  refine metD T.d_Distances_classes T.l_Distances T.me_Distances_classes (fun _ _ _ _ _ _ us hl => match us, hl with | [_], _ => rfl) sc_Distances_classes (fun vs H Q E ⟨_, _, e, _⟩ => by rw [e]; rfl) fun fd cdv A outer s H vs Q E hr h => ?_
  obtain ⟨p, s, rfl, ⟨dx, u, hp, ⟨d1, a1, t1, b1, hu, ha1, ht1⟩⟩, l, k⟩ := h
  refine ⟨_, (pss_one (ps_ret (pe_callTy call_ntuple rfl T.b_tuple (by decide +kernel) (pa_cons (pe_lc (own := [("remainder", 1), ("flag", 2)]) rfl sc_Distances_classes.nd (pj_enum rfl T.b_enumerate (pa_cons (pe_fld (pe_fld (pv 0) rfl) rfl) pa_nil)) (blkOk_by (N := ["self", "remainder", "flag"]) (sc := defScope s_Distances_classes) (by decide +kernel)) (fun _ _ _ _ _ => (pg_tupK (K := K) 2 rfl rfl (pgs_cons (pg_name (i := 1) sc_Distances_classes.nd rfl (Or.inl rfl)) (pgs_cons (pg_name (i := 2) sc_Distances_classes.nd rfl (Or.inl rfl)) pgs_nil)))) (fun _ _ _ _ _ => (pts_one (pt_val (pv 2)))) (fun _ _ _ _ _ => (pv 1))) pa_nil)))), ?_⟩
  walk_at "st"
  have lF := T.l_Distances
  have nF := T.n_Distances_plain
  have lG := T.l_Plainest
  have nG := T.n_Plainest_flags
  have hsz := sizeLine_eq
  walk_at "go"
  refine lc_fil walk_en (fun i => s.fl.getD i false) (fun i => .int (i : Nat)) (by rw [List.length_map]; omega) (fun H' s' => Same.seq s' ha1) ?_ ?_
  · rintro i v H3 H4 k1 k2 hi s3 ⟨U, z, rfl, nU, s4, hU, hz⟩ h1 h2
    rw [List.length_map] at hi
    rw [List.getElem?_map, List.getElem?_eq_getElem hi] at hz
    have ez := (Option.some.inj hz).symm
    subst ez
    walk_at "go"
    refine ⟨rfl, ?_⟩
    walk_at "go"
    have eg : s.fl.getD i false = s.fl[i] := by rw [List.getD_eq_getElem?_getD, List.getElem?_eq_getElem hi]; rfl
    rw [eg] at h1 h2
    refine if2 (fun e => ?_) (fun e => ?_)
    · walk_at "go"
      exact h1 e _ s4
    · exact h2 e _ s4
  · walk_at "go"
    rename_i t1' H1 s1' n1' h1' t2' H2 s2' h2'
    refine k _ H2 (by walk_at "sm") ?_
    rw [List.length_map] at h2'
    unfold onF
    rw [List.map_map]
    exact h2'
end
end RL
set_option maxHeartbeats 2000000
/-! roundline: texts -/
namespace RL
open PySem PySem.Spec PyProof.Rows L2
abbrev tx (l : List Nat) : Str := ⟨l.toArray⟩
abbrev lt (s : String) : List Nat := (Str.ofString s).cps.toList
theorem tx_lt (s : String) : Str.ofString s = tx (lt s) := rfl
theorem tx_rfl (l : List Nat) : tx l = tx l := rfl
theorem tx_len (l : List Nat) : (tx l).length = l.length := by simp [Str.length]
theorem tx_cat (a b : List Nat) : tx a ++ tx b = tx (a ++ b) := SX.S_cat a b
theorem tx_inj {a b : List Nat} (h : tx a = tx b) : a = b := congrArg (fun x : Str => x.cps.toList) h
theorem tx_eq {a b : List Nat} : decide (tx a = tx b) = decide (a = b) := by
  by_cases h : a = b
  · subst h
    rw [decide_eq_true rfl, decide_eq_true rfl]
  · rw [decide_eq_false h, decide_eq_false fun e => h (tx_inj e)]
theorem starts1 (l : List Nat) (c : Nat) : Txt.startswith (tx l) (tx [c]) = (l.head? == some c) := by
  unfold Txt.startswith
  rw [StrLaws.subAt_eq, tx_len, tx_len]
  cases l with
  | nil => rfl
  | cons a r =>
    show (decide (0 + 1 ≤ r.length + 1) && ([a] == [c])) = (some a == some c)
    rw [decide_eq_true (by omega), Bool.true_and]
    by_cases h : a = c <;> simp [h]
theorem ends1 (l : List Nat) (c d : Nat) : Txt.endswith (tx (l ++ [d])) (tx [c]) = decide (d = c) := by
  unfold Txt.endswith
  rw [StrLaws.subAt_eq, tx_len, tx_len, List.length_append]
  show (decide (0 + 1 ≤ l.length + 1) && (((l ++ [d]).drop (l.length + 1 - 1)).take (tx [c]).length == [c])) = _
  rw [tx_len, Nat.add_sub_cancel, List.drop_left, decide_eq_true (by omega), Bool.true_and]
  show ([d] == [c]) = _
  by_cases h : d = c <;> simp [h]
theorem isdig (l : List Nat) : Txt.isdigit (tx l) = (!l.isEmpty && l.all Unicode.isDigit) := by
  unfold Txt.isdigit
  rw [tx_len]
  cases l with
  | nil => rfl
  | cons a r => simp
theorem dig_num (n : Nat) : Txt.isdigit (tx (TL.numL n)) = true := by
  rw [isdig]
  have h1 : (TL.numL n).isEmpty = false := by
    cases h : TL.numL n with
    | nil => exact absurd h (TL.numL_ne n)
    | cons a r => rfl
  rw [h1, Bool.not_false, Bool.true_and, List.all_eq_true]
  intro c hc
  have := TL.numL_digits n c hc
  have k : ∀ c : Nat, c < 58 → 48 ≤ c → Unicode.isDigit c = true := by decide +kernel
  exact k c (by omega) this.1
theorem num_head : ∀ n : Nat, 0 < n → (TL.numL n).head? ≠ some 48 := fun n => by
  induction n using Nat.strongRecOn with
  | _ n ih =>
    intro h0
    rcases Nat.lt_or_ge n 10 with h | h
    · rw [TL.numL_lt h]
      simp
      omega
    · rw [TL.numL_step h]
      have := ih (n / 10) (by omega) (by omega)
      cases e : TL.numL (n / 10) with
      | nil => exact absurd e (TL.numL_ne _)
      | cons a r =>
        rw [e] at this
        exact this
/-- the signs of an int -/
def numZ (i : Int) : List Nat := if i < 0 then 45 :: TL.numL i.natAbs else TL.numL i.natAbs
theorem numZ_nat (n : Nat) : numZ (n : Int) = TL.numL n := by
  unfold numZ
  rw [if_neg (by omega)]
  rfl
theorem numZ_neg {i : Int} (h : i < 0) : numZ i = 45 :: TL.numL i.natAbs := if_pos h
theorem numZ_pos {i : Int} (h : 0 ≤ i) : numZ i = TL.numL i.natAbs := if_neg (by omega)
theorem str_num (i : Int) : Str.ofString (toString i) = tx (numZ i) := by
  rcases Int.lt_or_le i 0 with h | h
  · rw [numZ_neg h]
    have e : toString i = "-" ++ toString i.natAbs := by
      match i, h with
      | .negSucc n, _ => rfl
    rw [e]
    refine TL.ext_tl ?_
    rw [TL.tl_ofString, String.toList_append, List.map_append]
    have e2 := TL.tl_num i.natAbs
    rw [TL.tl_ofString] at e2
    rw [show toString i.natAbs = toString ((i.natAbs : Nat) : Int) from rfl, e2]
    rfl
  · obtain ⟨n, rfl⟩ := Int.eq_ofNat_of_zero_le h
    rw [numZ_nat]
    exact SX.num_S n
theorem numZ_sign {i : Int} {c : Nat} (h : c ∈ numZ i) : c = 45 ∨ (48 ≤ c ∧ c ≤ 57) := by
  unfold numZ at h
  split at h
  · rcases List.mem_cons.mp h with h | h
    · exact .inl h
    · exact .inr (TL.numL_digits _ _ h)
  · exact .inr (TL.numL_digits _ _ h)
theorem numZ_free {i : Int} {c : Nat} (h : c ≠ 45) (h2 : c < 48 ∨ 57 < c) : c ∉ numZ i := fun z => by
  rcases numZ_sign z with e | e
  · exact h e
  · omega
theorem numZ_ne (i : Int) : numZ i ≠ [] := by
  unfold numZ
  split
  · simp
  · exact TL.numL_ne _
theorem numZ_len {i : Int} {k : Nat} (hk : 0 < k) (h : i.natAbs < 10 ^ k) : (numZ i).length ≤ k + 1 := by
  have := TL.numL_len hk h
  unfold numZ
  split
  · rw [List.length_cons]
    omega
  · omega
theorem int_back {i : Int} (h : (numZ i).length ≤ 4300) : intText? (tx (numZ i)) = some i := by
  rcases Int.lt_or_le i 0 with h0 | h0
  · rw [numZ_neg h0] at h ⊢
    rw [intText_neg (x := tx (45 :: TL.numL i.natAbs)) (cs := TL.numL i.natAbs) rfl (TL.numL_digits _) (TL.numL_ne _) (by rw [tx_len]; exact h), TL.numL_val]
    congr 1
    omega
  · obtain ⟨n, rfl⟩ := Int.eq_ofNat_of_zero_le h0
    rw [numZ_nat] at h ⊢
    have := TL.int_num h
    rwa [SX.num_S] at this
theorem numZ_inj {i j : Int} (h : numZ i = numZ j) : i = j := by
  unfold numZ at h
  have hd : ∀ n m, TL.numL n ≠ 45 :: TL.numL m := fun n m e => by
    have := TL.numL_digits n 45 (by rw [e]; exact List.mem_cons_self ..)
    omega
  split at h <;> split at h
  · have := TL.numL_inj (List.cons.inj h).2
    omega
  · exact absurd h.symm (hd _ _)
  · exact absurd h (hd _ _)
  · have := TL.numL_inj h
    omega
theorem lt_sp : lt " " = [32] := by decide +kernel
theorem lt_nl : lt "\n" = [10] := by decide +kernel
/-! rules, told by lists -/
section
variable {X : Cx} {o e : Expr} {to te : TE} {apos pos : Pos}
def rSpl : V → List V → Hp → VK → Prop := fun x xs H Q => ∃ a b : List Nat, x = .str (tx a) ∧ xs = [.str (tx b)] ∧ b ≠ [] ∧ b.all (· < 256) = true ∧ a.length + 2 ≤ sizeLine ∧ NewT H (.lst ((TL.spl b 0 [] a).map fun l => V.str (tx l))) Q
theorem ne_len {b : List Nat} (h : b ≠ []) : ((tx b).length == 0) = false := by
  rw [tx_len]
  cases b with
  | nil => exact absurd rfl h
  | cons a r => rfl
theorem pe_nsplit (ho : PE X o to) (he : PE X e te) (hs : starEach [e] X.env = [(false, eval e X.env)] := by rfl) (hbase : attributeBase o "split" X.env (eval o X.env) = eval o X.env := by rfl) (hline : (apos.endLine == pos.line) = true := by rfl) :
    PE X (.Call (.Attribute o "split" apos) [e] [] pos) (tM1 rSpl to te) :=
  pe_m1 F.slot_str_split F.type_str_split (MtI mt_split fun x xs H Q ⟨a, b, h1, h2, h3, h4, h5, k⟩ => ⟨tx a, tx b, h1, h2, ne_len h3, by rw [tx_len]; exact h5, fun p hp => by
    have e : (Txt.split (tx a) (tx b)).map V.str = (TL.spl b 0 [] a).map fun l => V.str (tx l) := by
      rw [show Txt.split (tx a) (tx b) = (TL.spl b 0 [] a).map SX.S from SX.split_S h3 h4, List.map_map]
      rfl
    rw [e]
    exact k.old p hp⟩) ho he hs hbase hline
def rPar : V → List V → Hp → VK → Prop := fun x xs H Q => ∃ (a b p m q : Str), x = .str a ∧ xs = [.str b] ∧ (b.length == 0) = false ∧ a.length ≤ sizeLine ∧ Txt.partition a b = (p, m, q) ∧ NewT H (.tup [.str p, .str m, .str q]) Q
theorem pe_npart (ho : PE X o to) (he : PE X e te) (hs : starEach [e] X.env = [(false, eval e X.env)] := by rfl) (hbase : attributeBase o "partition" X.env (eval o X.env) = eval o X.env := by rfl) (hline : (apos.endLine == pos.line) = true := by rfl) :
    PE X (.Call (.Attribute o "partition" apos) [e] [] pos) (tM1 rPar to te) :=
  pe_m1 F.slot_str_partition F.type_str_partition (MtI mt_partition fun x xs H Q ⟨a, b, p, m, q, h1, h2, h3, h4, h5, k⟩ => ⟨a, b, h1, h2, h3, h4, fun r hr => by rw [h5]; exact k.old r hr⟩) ho he hs hbase hline
def rJn (K : PySem.W.Frag) : V → List V → Hp → VK → Prop := fun x xs H Q => ∃ (a : List Nat) (p : Addr) (ys : List (List Nat)), x = .str (tx a) ∧ xs = [.ref p] ∧ SqL K H p (ys.map fun l => V.str (tx l)) ∧ (ys.map (·.length)).sum + ys.length * a.length ≤ 16777216 ∧ Q (.str (tx (TL.joinL a ys))) H
theorem pe_njoin (ho : PE X o to) (he : PE X e te) (hs : starEach [e] X.env = [(false, eval e X.env)] := by rfl) (hbase : attributeBase o "join" X.env (eval o X.env) = eval o X.env := by rfl) (hline : (apos.endLine == pos.line) = true := by rfl) :
    PE X (.Call (.Attribute o "join" apos) [e] [] pos) (tM1 (rJn X.K) to te) :=
  pe_m1 F.slot_str_join F.type_str_join (MtI mt_join fun x xs H Q ⟨a, p, ys, h1, h2, h3, h4, k⟩ => ⟨tx a, p, ys.map SX.S, h1, h2, .inl (by rw [List.map_map]; exact h3), by
    rw [tx_len, List.length_map, SX.lens]
    exact h4, by
    rw [show Txt.join (tx a) (ys.map SX.S) = tx (TL.joinL a ys) from SX.join_S a ys]
    exact k⟩) ho he hs hbase hline
end
section
variable {X : Cx}
def rSt : V → List V → Hp → VK → Prop := fun x xs H Q => ∃ a b, x = .str a ∧ xs = [.str b] ∧ Q (.bl (Txt.startswith a b)) H
theorem mt_nstartswith : MtR X "str.startswith" rSt := mt_startswith
def rEs : V → List V → Hp → VK → Prop := fun x xs H Q => ∃ a b, x = .str a ∧ xs = [.str b] ∧ Q (.bl (Txt.endswith a b)) H
theorem mt_nendswith : MtR X "str.endswith" rEs := mt_endswith
def rIsd : V → List V → Hp → VK → Prop := fun x xs H Q => ∃ a, x = .str a ∧ xs = [] ∧ True ∧ Q (.bl (Txt.isdigit a)) H
theorem mt_nisdigit : MtR X "str.isdigit" rIsd := mt_isdigit
def rAdS : R2 := fun x y H Q => ∃ i j, x = .str i ∧ y = .str j ∧ i.length + j.length ≤ sizeLine ∧ Q (.str (i ++ j)) H
theorem op_naddS : OpR X (binaryOp .Add) rAdS := op_add_str
def nJs (ts : List TE) : TE := fun σ H Q => tJs ts (tx []) σ H fun out H1 => Q (.str out) H1
theorem pe_njoined {v1 v2 : Expr} {rest : List Expr} {ts : List TE} {pos : Pos} (h : PJ X (v1 :: v2 :: rest) ts) : PE X (.JoinedStr (v1 :: v2 :: rest) pos) (nJs ts) := pe_joined h
def nTru (K : PySem.W.Frag) (ta : TE) : TT := fun σ H Q => ta σ H fun x H' => ∃ k, TruV K x H' k ∧ Q k H'
theorem pt_ntruth {a : Expr} {ta : TE} (ha : PE X a ta) (he : ∀ whole, isTrue a X.env whole = (do let v ← whole; standAt a.pos; holding [v] (truthy v))) : PT X a (nTru X.K ta) := pt_truth ha he
end
/-! steps -/
section
variable {σ : L2.St} {H : Hp} {Q : VK} {to te : TE} {t : TE} {ts : List TE} {r : V → List V → Hp → VK → Prop} {a b z : Str} {K : PySem.W.Frag} {lo hi : Option Int} {acc : Str} {R : Str → Hp → Prop} {A C : Prop}
theorem g_m0 (h : to σ H fun x H1 => (∃ a, x = .str a) ∧ r x [] H1 Q) : tM0 r to σ H Q := h
theorem g_m1 (h : to σ H fun x H1 => (∃ a, x = .str a) ∧ te σ H1 fun y H2 => r x [y] H2 Q) : tM1 r to te σ H Q := h
theorem g_str (h : A) : (∃ a', V.str a = .str a') ∧ A := ⟨⟨a, rfl⟩, h⟩
theorem g_starts (q : Q (.bl (Txt.startswith a b)) H) : rSt (.str a) [.str b] H Q := ⟨a, b, rfl, rfl, q⟩
theorem g_ends (q : Q (.bl (Txt.endswith a b)) H) : rEs (.str a) [.str b] H Q := ⟨a, b, rfl, rfl, q⟩
theorem g_isdig (q : Q (.bl (Txt.isdigit a)) H) : rIsd (.str a) [] H Q := ⟨a, rfl, rfl, trivial, q⟩
theorem g_slS (l : z.length ≤ sizeLine) (q : Q (.str (Txt.slice z lo hi)) H) : C8.rSlX (.str z) lo hi H Q := ⟨z, rfl, l, q⟩
theorem g_spl {u v : List Nat} (h1 : a = tx u) (h2 : b = tx v) (h3 : v ≠ []) (h4 : v.all (· < 256) = true) (l : u.length + 2 ≤ sizeLine) (k : NewT H (.lst ((TL.spl v 0 [] u).map fun l => V.str (tx l))) Q) : rSpl (.str a) [.str b] H Q := ⟨u, v, by rw [h1], by rw [h2], h3, h4, l, k⟩
theorem g_part {p m q : Str} (h3 : (b.length == 0) = false) (l : a.length ≤ sizeLine) (e : Txt.partition a b = (p, m, q)) (k : NewT H (.tup [.str p, .str m, .str q]) Q) : rPar (.str a) [.str b] H Q := ⟨a, b, p, m, q, rfl, rfl, h3, l, e, k⟩
theorem g_jn {u : List Nat} {p : Addr} {ys : List (List Nat)} (h1 : a = tx u) (h : SqL K H p (ys.map fun l => V.str (tx l))) (l : (ys.map (·.length)).sum + ys.length * u.length ≤ 16777216) (k : Q (.str (tx (TL.joinL u ys))) H) : rJn K (.str a) [.ref p] H Q := ⟨u, p, ys, by rw [h1], rfl, h, l, k⟩
theorem g_js (h : tJs ts (tx []) σ H fun out H1 => Q (.str out) H1) : nJs ts σ H Q := h
def vTru (K : PySem.W.Frag) (B : Bool → Hp → Prop) (x : V) (H : Hp) : Prop := ∃ k, TruV K x H k ∧ B k H
theorem g_nt {B : Bool → Hp → Prop} (h : te σ H (vTru K B)) : nTru K te σ H B := h
theorem g_tru {B : Bool → Hp → Prop} (l : a.length ≤ sizeLine) (q : B ((a.length : Int) != 0) H) : vTru K B (.str a) H := ⟨_, ⟨l, rfl⟩, q⟩
theorem g_truT {B : Bool → Hp → Prop} {p : Addr} {xs : List V} (h : SqT K H p xs) (q : B (!xs.isEmpty) H) : vTru K B (.ref p) H := ⟨_, .inr (.inl ⟨xs, h, rfl⟩), q⟩
theorem g_jsn (h : R acc H) : tJs [] acc σ H R := h
def vJs (ts : List TE) (acc : Str) (σ : L2.St) (R : Str → Hp → Prop) (x : V) (H : Hp) : Prop := ∃ y : Str, x = .str y ∧ (acc ++ y).length ≤ sizeLine ∧ tJs ts (acc ++ y) σ H R
theorem g_jsc (h : t σ H (vJs ts acc σ R)) : tJs (t :: ts) acc σ H R := h
theorem g_jsv {l m : List Nat} (e : a = tx m) (n : (l ++ m).length ≤ sizeLine) (k : tJs ts (tx (l ++ m)) σ H R) : vJs ts (tx l) σ R (.str a) H := by
  refine ⟨a, rfl, ?_, ?_⟩
  · rw [e, tx_cat, tx_len]
    exact n
  · rw [e, tx_cat]
    exact k
def vFmt (Q : VK) (x : V) (H : Hp) : Prop := (∃ y : Str, x = .str y ∧ y.length ≤ sizeLine ∧ Q (.str y) H) ∨ ∃ i : Int, x = .int i ∧ i.natAbs.log2 < 1920 ∧ Q (.str (toString i)) H
theorem g_fmt (h : te σ H (vFmt Q)) : tFmt te σ H Q := h
theorem g_fmtS (l : a.length ≤ sizeLine) (q : Q (.str a) H) : vFmt Q (.str a) H := .inl ⟨a, rfl, l, q⟩
theorem g_fmtI {i : Int} (l : i.natAbs.log2 < 1920) (q : Q (.str (tx (numZ i))) H) : vFmt Q (.int i) H := .inr ⟨i, rfl, l, by
  rw [show ((toString i : String) : Str) = tx (numZ i) from str_num i]
  exact q⟩
theorem g_strX {v : V} (o : StrOk v) (q : Q (.str (strV v)) H) : rStrX [v] H Q := ⟨v, rfl, o, q⟩
theorem g_ints {n : Int} (e : PySem.intText? a = some n) (l : a.length ≤ 640) (q : Q (.int n) H) : rIntS [.str a] H Q := ⟨a, n, rfl, e, l, q⟩
theorem g_unl {k : Nat} {gs : TGs} {n : L2.St → Hp → Prop} {p : Addr} {xs : List V} (h : SqL K H p xs) (l : xs.length = k) (q : gs xs σ H n) : gUnl K k gs (.ref p) σ H n := ⟨p, xs, rfl, h, l, q⟩
theorem g_addS {l m : List Nat} (e1 : a = tx l) (e2 : b = tx m) (n : l.length + m.length ≤ sizeLine) (q : Q (.str (tx (l ++ m))) H) : rAdS (.str a) (.str b) H Q := ⟨a, b, rfl, rfl, by
  rw [e1, e2, tx_len, tx_len]
  exact n, by
  rw [e1, e2, tx_cat]
  exact q⟩
end
end RL
set_option maxHeartbeats 4000000
namespace RL
open PySem PySem.Spec PyProof.Rows L2
local macro_rules | `(tactic| walk_at "hp") => `(tactic| first
  | assumption
  | ((with_reducible refine' SqT.of ?gz); (case gz => walk_at "hp"))
  | ((with_reducible refine' SqL.of ?gz); (case gz => walk_at "hp"))
  | ((with_reducible refine' Same.seqT (by assumption) ?gz); (case gz => walk_at "hp"))
  | ((with_reducible refine' Same.seq (by assumption) ?gz); (case gz => walk_at "hp"))
  | ((with_reducible refine' s_at (by assumption) ?gz); (case gz => walk_at "hp"))
  | ((with_reducible refine' dp_mono (by assumption) ?gz); (case gz => walk_at "hp")))
local macro_rules | `(tactic| walk_at "sm") => `(tactic| first
  | assumption
  | exact Same.refl _
  | (with_reducible refine Same.trans ?_ (by assumption); walk_at "sm"))
local macro_rules | `(tactic| walk_at "st") => `(tactic| try dsimp only [cxOf, L2.Cx.nox, L2.Cx.wish])
local macro_rules | `(tactic| walk_at "sz") => `(tactic| (have := sizeLine_eq; (try simp only [List.length_append, List.length_map, List.length_take, List.length_drop, List.length_cons, List.length_nil]); omega))
local macro_rules | `(tactic| walk_at "lk") => `(tactic| fail)
local macro_rules | `(tactic| walk_at "goB") => `(tactic| fail)
local macro_rules | `(tactic| walk_at "goT") => `(tactic| fail)
local macro_rules | `(tactic| walk_at "goA") => `(tactic| first
  | (with_reducible first
    | refine ifT rfl ?_
    | refine ifF rfl ?_)
  | ((with_reducible refine' g_gtup ?gh ?gl ?gk); (case gh => walk_at "hp"); (case gl => rfl))
  | ((with_reducible refine' g_ixT ?gh ?gl ?gk); (case gh => walk_at "hp"); (case gl => first | rfl | assumption))
  | ((with_reducible refine' g_ixL ?gh ?gl ?gk); (case gh => walk_at "hp"); (case gl => first | rfl | assumption))
  | ((with_reducible refine' g_lenT ?gh ?gk); (case gh => walk_at "hp"))
  | ((with_reducible refine' g_lenL ?gh ?gk); (case gh => walk_at "hp"))
  | ((with_reducible refine' g_inT ?gh ?gf ?gl ?gk); (case gh => walk_at "hp"); (case gf => rfl); (case gl => rfl))
  | ((with_reducible refine' g_isi (d := true) ?gh ?gl ?gk); (case gh => first | exact ty_tup (by walk_at "hp") | exact .base (.int _) | exact .base (.str _)); (case gl => exact kit_ty (by decide +kernel)))
  | ((with_reducible refine' g_isi (d := false) ?gh ?gl ?gk); (case gh => first | exact ty_tup (by walk_at "hp") | exact .base (.int _) | exact .base (.str _)); (case gl => exact kit_ty (by decide +kernel)))
  | ((with_reducible refine' g_new ?gl ?gk); (case gl => first | exact Nat.le_of_ble_eq_true rfl | walk_at "sz"))
  | ((with_reducible refine' g_ilstv ?gh ?gk); (case gh => walk_at "hp"))
  | ((with_reducible refine' g_itupv ?gh ?gk); (case gh => walk_at "hp"))
  | ((with_reducible refine' g_ienumv ?gh ?gk); (case gh => walk_at "hp"))
  | ((with_reducible refine' g_ienTv ?gh ?gk); (case gh => walk_at "hp"))
  | ((with_reducible refine' g_slT ?gh ?gk); (case gh => walk_at "hp"); intro _ _ _ _)
  | ((with_reducible refine' g_slL ?gh ?gk); (case gh => walk_at "hp"))
  | ((with_reducible refine' g_catT ?gh ?gl ?gm ?gk); (case gh => walk_at "hp"); (case gl => walk_at "hp"); (case gm => walk_at "sz"); intro _ _ _ _)
  | ((with_reducible refine' g_catL ?gh ?gl ?gm ?gk); (case gh => walk_at "hp"); (case gl => walk_at "hp"); (case gm => walk_at "sz"))
  | ((with_reducible refine' g_tupL ?gh ?gk); (case gh => walk_at "hp"); intro _ _ _ _)
  | ((with_reducible refine' g_tupT ?gh ?gk); (case gh => walk_at "hp"); intro _ _ _ _)
  | ((with_reducible refine' g_starT ?gh ?gk); (case gh => walk_at "hp"))
  | ((with_reducible refine' g_starL ?gh ?gk); (case gh => walk_at "hp"))
  | ((with_reducible refine' g_tyL ?gh ?gk); (case gh => walk_at "hp"))
  | ((with_reducible refine' g_app ?gh ?gl ?gk); (case gh => walk_at "hp"); (case gl => walk_at "sz"))
  | ((with_reducible refine' g_inL ?gh ?gf ?gl ?gk); (case gh => walk_at "hp"); (case gf => rfl); (case gl => first | rfl | assumption))
  | ((with_reducible refine' g_irng1v ?gh ?gl ?gk); (case gh => omega); (case gl => omega))
  | ((with_reducible refine' g_irng2v ?gh ?gk); (case gh => omega))
  | ((with_reducible refine g_NewT ?_); intro _ _ _ _ _)
  | ((with_reducible refine' g_fldv ?gh ?gc ?gn ?gl ?gk); (case gh => walk_at "hp"); (case gc => assumption); (case gn => assumption); (case gl => first | rfl | walk_at "lk"))
  | ((with_reducible refine' g_fldw ?gh ?gc ?gn ?gl ?gk); (case gh => walk_at "hp"); (case gc => assumption); (case gn => assumption); (case gl => exact Nat.le_of_ble_eq_true rfl))
  | ((with_reducible refine' g_own2 ?gh ?gl ?gk); (case gh => walk_at "hp"); (case gl => walk_at "hp"))
  | ((with_reducible refine' g_own1 ?gh ?gk); (case gh => walk_at "hp"))
  | ((with_reducible refine' g_ownI ?gh ?gk); (case gh => walk_at "hp"))
  | ((with_reducible refine' g_recv ?gh ?gl ?gk); (case gh => walk_at "hp"); (case gl => walk_at "lk"))
  | ((with_reducible refine' g_lenS ?gh ?gk); (case gh => (have := sizeLine_eq; omega)))
  | ((with_reducible refine' ifT ?gh ?gk); (case gh => first | exact decide_eq_true (by omega) | exact nf (decide_eq_false (by omega)) | decide +kernel))
  | ((with_reducible refine' ifF ?gh ?gk); (case gh => first | exact decide_eq_false (by omega) | exact nt (decide_eq_true (by omega)) | decide +kernel)))
local macro_rules | `(tactic| walk_at "go1") => `(tactic| first
  | (with_reducible first
    | refine g_var rfl ?_
    | refine g_op ?_
    | refine g_cons ?_
    | refine g_nil ?_
    | refine g_c ?_
    | refine g_cb ?_
    | refine g_call ?_
    | refine g_seq ?_
    | refine g_asg ?_
    | refine g_name ?_
    | refine g_fld ?_
    | refine g_meth ?_
    | refine g_ifS ?_
    | refine g_if ?_
    | refine g_ret ?_
    | refine g_test ?_
    | refine g_tB ?_
    | refine g_bl ?_
    | refine g_and ?_
    | refine g_or ?_
    | refine g_not ?_
    | refine g_andV ?_
    | refine g_orV ?_
    | refine g_notV ?_
    | refine g_chain ?_
    | refine g_un ?_
    | refine g_ntup ?_
    | refine g_nlst ?_
    | refine g_drop ?_
    | refine g_next ?_
    | refine g_par ?_
    | refine g_par3 ?_
    | refine g_e2 ?_
    | refine g_e3 ?_
    | refine g_retN ?_
    | refine g_gcons ?_
    | refine g_gnil ?_
    | refine g_rI0 ?_
    | refine g_rU ?_
    | refine g_rSS ?_
    | refine g_rBB ?_
    | refine g_sib ?_
    | refine g_sii ?_
    | refine g_lc ?_
    | refine g_for ?_
    | refine g_istr ?_
    | refine g_istrv ?_
    | refine g_ilst ?_
    | refine g_itup ?_
    | refine g_irng1 ?_
    | refine g_irng2 ?_
    | refine g_ienum ?_
    | refine g_abs ?_
    | refine g_mx ?_
    | refine g_mn ?_
    | refine g_isN ?_
    | refine g_inC ?_
    | refine g_nfld ?_
    | refine g_ienT ?_
    | refine g_sl ?_
    | refine g_np ?_
    | refine g_pt ?_
    | refine g_ptv ?_
    | refine g_star ?_
    | refine g_bmL ?_)
  | walk_at "goA"
  | walk_at "goT"
  | walk_at "goB")
local macro_rules | `(tactic| walk_at "go") => `(tactic| repeat walk_at "go1")
local macro_rules | `(tactic| walk_at "tl") => `(tactic| first | (with_reducible exact tx_lt _) | exact (SX.S_tl _).symm | exact rfl)
local macro_rules | `(tactic| walk_at "ts") => `(tactic| (have := sizeLine_eq; (try simp only [tx_len, List.length_append, List.length_cons, List.length_nil]); first | omega | (decide +kernel)))
local macro_rules | `(tactic| walk_at "goT") => `(tactic| first
  | (with_reducible first
    | refine g_m0 ?_
    | refine g_m1 ?_
    | refine g_str ?_
    | refine g_starts ?_
    | refine g_ends ?_
    | refine g_isdig ?_
    | refine g_js ?_
    | refine g_nt ?_
    | refine g_jsn ?_
    | refine g_jsc ?_
    | refine g_fmt ?_)
  | ((with_reducible refine' g_slS ?gh ?gk); (case gh => walk_at "ts"))
  | ((with_reducible refine' g_jsv ?ge ?gn ?gk); (case ge => walk_at "tl"); (case gn => walk_at "ts"))
  | ((with_reducible refine' g_fmtS ?gn ?gk); (case gn => walk_at "ts"))
  | ((with_reducible refine' g_addS ?ge ?gf ?gn ?gk); (case ge => walk_at "tl"); (case gf => walk_at "tl"); (case gn => walk_at "ts"))
  | ((with_reducible refine' g_tru ?gn ?gk); (case gn => walk_at "ts"))
  | ((with_reducible refine' g_truT ?gh ?gk); (case gh => walk_at "hp"))
  | ((with_reducible refine' g_unl ?gh ?gl ?gk); (case gh => walk_at "hp"); (case gl => rfl)))
section
variable {P : Program} {w : World} {K : PySem.W.Frag} {mg : Str → Option Value} {base : Heap}
/-! read_number -/
def NumOk (i : Int) : Prop := i.natAbs < 10 ^ 600
theorem NumOk.len {i : Int} (h : NumOk i) : (numZ i).length ≤ 601 := numZ_len (by decide) h
theorem NumOk.log {i : Int} (h : NumOk i) : i.natAbs.log2 < 2000 := PySem.Flt.log2_lt_of (by decide) (Nat.lt_of_lt_of_le h (by decide +kernel))
def RdN (l : List Nat) (v : V) : Prop := (∃ i, l = numZ i ∧ (numZ i).length ≤ 640 ∧ v = .int i) ∨ ((l = [] ∨ l = [45]) ∧ v = .non)
def sp_read_number : Sp := fun vs H Q _ => ∃ l v, vs = [.str (tx l)] ∧ RdN l v ∧ Q v H
theorem u_read_number {l : List Nat} {v : V} {H : Hp} {Q : VK} {E : XK} (h : RdN l v) (k : Q v H) : sp_read_number [.str (tx l)] H Q E := ⟨l, v, rfl, h, k⟩
theorem slice1 (c : Nat) (l : List Nat) : Txt.slice (tx (c :: l)) (some 1) none = tx l := by
  rw [SX.slice_from (by decide)]
  rfl
theorem sc_read_number : FnScope ["word", "digits"] ["word"] (defScope s_read_number) := C8.fnScope_by (by decide +kernel)
theorem c_read_number (T : Tx K mg) : C8.Cal P w K mg base 1 "read_number" sp_read_number [] := by
  refine calD T.d_read_number T.g_read_number (fun _ _ _ _ _ _ us hl => match us, hl with | [_], _ => rfl) sc_read_number (fun vs H Q E ⟨_, _, e, _⟩ => by rw [e]; rfl) fun fd cdv A outer s H vs Q E hr h => ?_
  obtain ⟨l, v, rfl, h, k⟩ := h
  refine ⟨_, (pss_cons (ps_set (i := 1) sc_read_number.nd rfl (Or.inl rfl) (pe_ifExp (pt_val (pe_m1 PySem.F.slot_str_startswith PySem.F.type_str_startswith mt_nstartswith (pv 0) pe_str)) (pe_slice C8.sl_txt (pv 0) (po_some pe_int) po_none) (pv 0)))
      (pss_cons (ps_if (PW.pt (pw_or (pt_not (pt_val (pe_m0 PySem.F.slot_str_isdigit PySem.F.type_str_isdigit mt_nisdigit (pv 1)))) (pw_or1 (PW.pt (pw_and (pt_val (pe_m1 PySem.F.slot_str_startswith PySem.F.type_str_startswith mt_nstartswith (pv 1) pe_str)) (pw_and1 (pt_cmpR op_neS (pv 0) pe_str (nomark _))))))))
        (pss_one (ps_ret pe_non))
        pss_nil)
      (pss_one (ps_ret (pe_callTy call_nints rfl T.b_int (by decide +kernel) (pa_cons (pv 0) pa_nil)))))), ?_⟩
  walk_at "st"
  have hsz := sizeLine_eq
  have e45 : Str.ofString "-" = tx [45] := by decide +kernel
  have e48 : Str.ofString "0" = tx [48] := by decide +kernel
  rcases h with ⟨i, rfl, hl, rfl⟩ | ⟨hl, rfl⟩
  · rcases Int.lt_or_le i 0 with h0 | h0
    · have hb := int_back (i := i) (by omega)
      rw [numZ_neg h0] at hl hb ⊢
      have hl2 : (TL.numL i.natAbs).length ≤ 640 := by rw [List.length_cons] at hl; omega
      walk_at "go"
      rw [e45, starts1]
      refine ifT (by simp) ?_
      walk_at "go"
      rw [slice1]
      walk_at "go"
      rw [dig_num]
      walk_at "go"
      rw [e48, starts1]
      refine ifF (by have := num_head i.natAbs (by omega); simpa using this) ?_
      walk_at "go"
      refine g_ints hb (by rw [tx_len]; exact hl) ?_
      walk_at "go"
      exact k
    · have hb := int_back (i := i) (by omega)
      rw [numZ_pos h0] at hl hb ⊢
      have nh : (TL.numL i.natAbs).head? ≠ some 45 := fun e => by
        cases z : TL.numL i.natAbs with
        | nil => exact TL.numL_ne _ z
        | cons a r =>
          rw [z] at e
          have := TL.numL_digits i.natAbs a (by rw [z]; exact List.mem_cons_self ..)
          have : a = 45 := by simpa using e
          omega
      walk_at "go"
      rw [e45, starts1]
      refine ifF (by simpa using nh) ?_
      walk_at "go"
      rw [dig_num]
      walk_at "go"
      rw [e48, starts1]
      refine if2 (fun e => ?_) (fun e => ?_)
      · have z : i.natAbs = 0 := by
          rcases Nat.eq_zero_or_pos i.natAbs with z | z
          · exact z
          · exact absurd (by simpa using e) (num_head i.natAbs z)
        have e0 : TL.numL i.natAbs = [48] := by rw [z]; decide +kernel
        rw [e0] at hb hl ⊢
        walk_at "go"
        refine g_ints hb (by rw [tx_len]; exact hl) ?_
        walk_at "go"
        exact k
      · walk_at "go"
        refine g_ints hb (by rw [tx_len]; exact hl) ?_
        walk_at "go"
        exact k
  · rcases hl with rfl | rfl
    · walk_at "go"
      exact k
    · walk_at "go"
      exact k
/-! rows of numbers -/
theorem sum_le {b : Nat} : ∀ {l : List Nat}, (∀ x ∈ l, x ≤ b) → l.sum ≤ l.length * b
  | [], _ => by simp
  | x :: l, h => by
    have := sum_le (l := l) fun y hy => h y (List.mem_cons_of_mem _ hy)
    have h1 := h x (List.mem_cons_self ..)
    rw [List.sum_cons, List.length_cons, Nat.succ_mul]
    omega
def numsL (ks : List Int) : List Nat := TL.joinL [32] (ks.map numZ)
def sp_numbers_text (K : PySem.W.Frag) : Sp := fun vs H Q _ => ∃ p ks, vs = [.ref p] ∧ SqT K H p (ks.map V.int) ∧ ks.length ≤ 1000 ∧ (∀ k ∈ ks, k.natAbs < 10 ^ 500) ∧ ∀ H', Same H H' → Q (.str (tx (numsL ks))) H'
theorem u_numbers_text {p : Addr} {ks : List Int} {H : Hp} {Q : VK} {E : XK} (h : SqT K H p (ks.map V.int)) (l : ks.length ≤ 1000) (b : ∀ k ∈ ks, k.natAbs < 10 ^ 500) (k : ∀ H', Same H H' → Q (.str (tx (numsL ks))) H') : sp_numbers_text K [.ref p] H Q E := ⟨p, ks, rfl, h, l, b, k⟩
theorem log500 {k : Int} (h : k.natAbs < 10 ^ 500) : k.natAbs.log2 < 1920 := PySem.Flt.log2_lt_of (by decide) (Nat.lt_of_lt_of_le h (by decide +kernel))
theorem sc_numbers_text : FnScope ["numbers", "number"] ["numbers"] (defScope s_numbers_text) := C8.fnScope_by (by decide +kernel)
theorem c_numbers_text (T : Tx K mg) : C8.Cal P w K mg base 1 "numbers_text" (sp_numbers_text K) [] := by
  refine calD T.d_numbers_text T.g_numbers_text (fun _ _ _ _ _ _ us hl => match us, hl with | [_], _ => rfl) sc_numbers_text (fun vs H Q E ⟨_, _, e, _⟩ => by rw [e]; rfl) fun fd cdv A outer s H vs Q E hr h => ?_
  obtain ⟨p, ks, rfl, hp, hl, hb, k⟩ := h
  refine ⟨_, (pss_one (ps_ret (pe_njoin pe_str (pe_lc (own := [("number", 1)]) rfl sc_numbers_text.nd (pj_tup (pv 0)) (blkOk_by (N := ["numbers", "number"]) (sc := defScope s_numbers_text) (by decide +kernel)) (fun _ _ _ _ _ => (pg_name (i := 1) sc_numbers_text.nd rfl (Or.inl rfl))) (fun _ _ _ _ _ => pts_nil) (fun _ _ _ _ _ => (pe_callTy call_strX rfl T.b_str (by decide +kernel) (pa_cons (pv 1) pa_nil))))))), ?_⟩
  walk_at "st"
  have hsz := sizeLine_eq
  walk_at "go"
  refine lc_val walk_tup (fun i => .str (tx (numZ (ks.getD i 0)))) (by rw [List.length_map]; omega) (fun H' s' => Same.seqT s' hp) ?_ ?_
  · rintro i v H2 H3 kk hi s1 ⟨rfl, hv⟩ hk
    rw [List.length_map] at hi
    rw [List.getElem?_map, List.getElem?_eq_getElem hi] at hv
    have ev := (Option.some.inj hv).symm
    subst ev
    have hd : ks.getD i 0 = ks[i] := by rw [List.getD_eq_getElem?_getD, List.getElem?_eq_getElem hi]; rfl
    rw [hd] at hk
    refine g_name ⟨rfl, ?_⟩
    walk_at "go"
    refine g_strX (log500 (hb _ (List.getElem_mem hi))) ?_
    show kk (.str (Str.ofString (toString ks[i]))) _
    rw [str_num]
    exact hk _ (Same.refl _)
  · intro p2 H2 n2 s2 h2
    rw [List.length_map] at h2
    have h2' : SqL K H2 p2 ((ks.map numZ).map fun l => V.str (tx l)) := by
      refine SqL.of ?_
      rw [h2, List.map_map]
      congr 2
      refine List.ext_getElem? fun j => ?_
      rw [List.getElem?_map, List.getElem?_map]
      rcases Nat.lt_or_ge j ks.length with hj | hj
      · rw [List.getElem?_range hj, List.getElem?_eq_getElem hj]
        show some (V.str (tx (numZ (ks.getD j 0)))) = some (V.str (tx (numZ ks[j])))
        rw [List.getD_eq_getElem?_getD, List.getElem?_eq_getElem hj]
        rfl
      · rw [List.getElem?_eq_none (by rw [List.length_range]; exact hj), List.getElem?_eq_none hj]
        rfl
    refine g_jn (u := [32]) (by decide +kernel) h2' ?_ ?_
    · have h3 := sum_le (b := 501) (l := ((ks.map numZ).map (·.length))) fun x hx => by
        obtain ⟨l, hl2, rfl⟩ := List.mem_map.mp hx
        obtain ⟨y, hy, rfl⟩ := List.mem_map.mp hl2
        exact numZ_len (by decide) (hb y hy)
      rw [List.length_map, List.length_map] at h3
      rw [List.length_map]
      have h4 : ks.length * 501 ≤ 1000 * 501 := Nat.mul_le_mul_right _ hl
      show _ + ks.length * 1 ≤ _
      omega
    · walk_at "go"
      exact k H2 s2
def sp_read_numbers (K : PySem.W.Frag) : Sp := fun vs H Q _ => ∃ ks, vs = [.str (tx (numsL ks))] ∧ ks ≠ [] ∧ ks.length ≤ 1000 ∧ (∀ k ∈ ks, k.natAbs < 10 ^ 500) ∧ ∀ p H', Same H H' → SqT K H' p (ks.map V.int) → Q (.ref p) H'
theorem u_read_numbers {ks : List Int} {H : Hp} {Q : VK} {E : XK} (h0 : ks ≠ []) (l : ks.length ≤ 1000) (b : ∀ k ∈ ks, k.natAbs < 10 ^ 500) (k : ∀ p H', Same H H' → SqT K H' p (ks.map V.int) → Q (.ref p) H') : sp_read_numbers K [.str (tx (numsL ks))] H Q E := ⟨ks, rfl, h0, l, b, k⟩
theorem joinL_len (S : List Nat) {b : Nat} : ∀ {ps : List (List Nat)}, (∀ p ∈ ps, p.length ≤ b) → (TL.joinL S ps).length ≤ ps.length * (b + S.length)
  | [], _ => by simp [TL.joinL]
  | [p], h => by
    have := h p (List.mem_cons_self ..)
    show p.length ≤ 1 * (b + S.length)
    omega
  | p :: q :: r, h => by
    have h1 := h p (List.mem_cons_self ..)
    have h2 := joinL_len S (b := b) (ps := q :: r) fun x hx => h x (List.mem_cons_of_mem _ hx)
    show (p ++ (S ++ TL.joinL S (q :: r))).length ≤ _
    rw [List.length_append, List.length_append, List.length_cons (a := p), Nat.succ_mul]
    omega
theorem numsL_len {ks : List Int} (l : ks.length ≤ 1000) (b : ∀ k ∈ ks, k.natAbs < 10 ^ 500) : (numsL ks).length ≤ 600000 := by
  have := joinL_len [32] (b := 501) (ps := ks.map numZ) fun x hx => by
    obtain ⟨y, hy, rfl⟩ := List.mem_map.mp hx
    exact numZ_len (by decide) (b y hy)
  rw [List.length_map] at this
  have h4 : ks.length * (501 + 1) ≤ 1000 * 502 := Nat.mul_le_mul_right _ l
  unfold numsL
  have e : ([32] : List Nat).length = 1 := rfl
  rw [e] at this
  omega
theorem sc_read_numbers : FnScope ["words", "word"] ["words"] (defScope s_read_numbers) := C8.fnScope_by (by decide +kernel)
theorem c_read_numbers (T : Tx K mg) : C8.Cal P w K mg base 2 "read_numbers" (sp_read_numbers K) [] := by
  refine calD T.d_read_numbers T.g_read_numbers (fun _ _ _ _ _ _ us hl => match us, hl with | [_], _ => rfl) sc_read_numbers (fun vs H Q E ⟨_, e, _⟩ => by rw [e]; rfl) fun fd cdv A outer s H vs Q E hr h => ?_
  obtain ⟨ks, rfl, h0, hl, hb, k⟩ := h
  refine ⟨_, (pss_one (ps_ret (pe_callTy call_ntuple rfl T.b_tuple (by decide +kernel) (pa_cons (pe_lc (own := [("word", 1)]) rfl sc_read_numbers.nd (pj_list (pe_nsplit (pv 0) pe_str)) (blkOk_by (N := ["words", "word"]) (sc := defScope s_read_numbers) (by decide +kernel)) (fun _ _ _ _ _ => (pg_name (i := 1) sc_read_numbers.nd rfl (Or.inl rfl))) (fun _ _ _ _ _ => pts_nil) (fun _ _ _ _ _ => (C8.pe_c (c_read_number T) hr (by decide) rfl (pa_cons (pv 1) pa_nil)))) pa_nil)))), ?_⟩
  walk_at "st"
  have hsz := sizeLine_eq
  have nl := numsL_len hl hb
  walk_at "go"
  refine g_spl (u := numsL ks) (v := [32]) rfl (by decide +kernel) (by simp) (by decide) (by omega) ?_
  unfold numsL
  rw [TL.spl_join (by simpa using h0) (by
    intro p hp
    obtain ⟨y, hy, rfl⟩ := List.mem_map.mp hp
    exact numZ_free (by decide) (by decide))]
  walk_at "go"
  rename_i p1 H1 n1 s1 h1
  refine lc_val walk_list (fun i => .int (ks.getD i 0)) (by rw [List.length_map, List.length_map]; omega) (fun H' s' => SqL.of (s' _ _ h1)) ?_ ?_
  · rintro i v H2 H3 kk hi s2 ⟨rfl, hv⟩ hk
    rw [List.length_map, List.length_map] at hi
    rw [List.getElem?_map, List.getElem?_map, List.getElem?_eq_getElem hi] at hv
    have ev := (Option.some.inj hv).symm
    subst ev
    have hd : ks.getD i 0 = ks[i] := by rw [List.getD_eq_getElem?_getD, List.getElem?_eq_getElem hi]; rfl
    rw [hd] at hk
    refine g_name ⟨rfl, ?_⟩
    walk_at "go"
    have := numZ_len (i := ks[i]) (k := 500) (by decide) (hb _ (List.getElem_mem hi))
    exact u_read_number (.inl ⟨_, rfl, by omega, rfl⟩) (hk _ (Same.refl _))
  · intro p2 H2 n2 s2 h2
    rw [List.length_map, List.length_map] at h2
    have e : (List.range ks.length).map (fun i => V.int (ks.getD i 0)) = ks.map V.int := by
      refine List.ext_getElem? fun j => ?_
      rw [List.getElem?_map, List.getElem?_map]
      rcases Nat.lt_or_ge j ks.length with hj | hj
      · rw [List.getElem?_range hj, List.getElem?_eq_getElem hj]
        show some (V.int (ks.getD j 0)) = some (V.int ks[j])
        rw [List.getD_eq_getElem?_getD, List.getElem?_eq_getElem hj]
        rfl
      · rw [List.getElem?_eq_none (by rw [List.length_range]; exact hj), List.getElem?_eq_none hj]
        rfl
    rw [e] at h2
    walk_at "go"
    rename_i p3 H3 s3 h3
    exact k p3 H3 ((s1.trans s2).trans s3) h3
end
end RL
set_option maxHeartbeats 4000000
namespace RL
open PySem PySem.Spec PyProof.Rows L2
local macro_rules | `(tactic| walk_at "hp") => `(tactic| first
  | assumption
  | ((with_reducible refine' SqT.of ?gz); (case gz => walk_at "hp"))
  | ((with_reducible refine' SqL.of ?gz); (case gz => walk_at "hp"))
  | ((with_reducible refine' Same.seqT (by assumption) ?gz); (case gz => walk_at "hp"))
  | ((with_reducible refine' Same.seq (by assumption) ?gz); (case gz => walk_at "hp"))
  | ((with_reducible refine' s_at (by assumption) ?gz); (case gz => walk_at "hp"))
  | ((with_reducible refine' dp_mono (by assumption) ?gz); (case gz => walk_at "hp")))
local macro_rules | `(tactic| walk_at "sm") => `(tactic| first
  | assumption
  | exact Same.refl _
  | (with_reducible refine Same.trans ?_ (by assumption); walk_at "sm"))
local macro_rules | `(tactic| walk_at "st") => `(tactic| try dsimp only [cxOf, L2.Cx.nox, L2.Cx.wish])
local macro_rules | `(tactic| walk_at "sz") => `(tactic| (have := sizeLine_eq; (try simp only [List.length_append, List.length_map, List.length_take, List.length_drop, List.length_cons, List.length_nil]); omega))
local macro_rules | `(tactic| walk_at "lk") => `(tactic| fail)
local macro_rules | `(tactic| walk_at "goB") => `(tactic| fail)
local macro_rules | `(tactic| walk_at "goT") => `(tactic| fail)
local macro_rules | `(tactic| walk_at "goA") => `(tactic| first
  | (with_reducible first
    | refine ifT rfl ?_
    | refine ifF rfl ?_)
  | ((with_reducible refine' g_gtup ?gh ?gl ?gk); (case gh => walk_at "hp"); (case gl => rfl))
  | ((with_reducible refine' g_ixT ?gh ?gl ?gk); (case gh => walk_at "hp"); (case gl => first | rfl | assumption))
  | ((with_reducible refine' g_ixL ?gh ?gl ?gk); (case gh => walk_at "hp"); (case gl => first | rfl | assumption))
  | ((with_reducible refine' g_lenT ?gh ?gk); (case gh => walk_at "hp"))
  | ((with_reducible refine' g_lenL ?gh ?gk); (case gh => walk_at "hp"))
  | ((with_reducible refine' g_inT ?gh ?gf ?gl ?gk); (case gh => walk_at "hp"); (case gf => rfl); (case gl => rfl))
  | ((with_reducible refine' g_isi (d := true) ?gh ?gl ?gk); (case gh => first | exact ty_tup (by walk_at "hp") | exact .base (.int _) | exact .base (.str _)); (case gl => exact kit_ty (by decide +kernel)))
  | ((with_reducible refine' g_isi (d := false) ?gh ?gl ?gk); (case gh => first | exact ty_tup (by walk_at "hp") | exact .base (.int _) | exact .base (.str _)); (case gl => exact kit_ty (by decide +kernel)))
  | ((with_reducible refine' g_new ?gl ?gk); (case gl => first | exact Nat.le_of_ble_eq_true rfl | walk_at "sz"))
  | ((with_reducible refine' g_ilstv ?gh ?gk); (case gh => walk_at "hp"))
  | ((with_reducible refine' g_itupv ?gh ?gk); (case gh => walk_at "hp"))
  | ((with_reducible refine' g_ienumv ?gh ?gk); (case gh => walk_at "hp"))
  | ((with_reducible refine' g_ienTv ?gh ?gk); (case gh => walk_at "hp"))
  | ((with_reducible refine' g_slT ?gh ?gk); (case gh => walk_at "hp"); intro _ _ _ _)
  | ((with_reducible refine' g_slL ?gh ?gk); (case gh => walk_at "hp"))
  | ((with_reducible refine' g_catT ?gh ?gl ?gm ?gk); (case gh => walk_at "hp"); (case gl => walk_at "hp"); (case gm => walk_at "sz"); intro _ _ _ _)
  | ((with_reducible refine' g_catL ?gh ?gl ?gm ?gk); (case gh => walk_at "hp"); (case gl => walk_at "hp"); (case gm => walk_at "sz"))
  | ((with_reducible refine' g_tupL ?gh ?gk); (case gh => walk_at "hp"); intro _ _ _ _)
  | ((with_reducible refine' g_tupT ?gh ?gk); (case gh => walk_at "hp"); intro _ _ _ _)
  | ((with_reducible refine' g_starT ?gh ?gk); (case gh => walk_at "hp"))
  | ((with_reducible refine' g_starL ?gh ?gk); (case gh => walk_at "hp"))
  | ((with_reducible refine' g_tyL ?gh ?gk); (case gh => walk_at "hp"))
  | ((with_reducible refine' g_app ?gh ?gl ?gk); (case gh => walk_at "hp"); (case gl => walk_at "sz"))
  | ((with_reducible refine' g_inL ?gh ?gf ?gl ?gk); (case gh => walk_at "hp"); (case gf => rfl); (case gl => first | rfl | assumption))
  | ((with_reducible refine' g_irng1v ?gh ?gl ?gk); (case gh => omega); (case gl => omega))
  | ((with_reducible refine' g_irng2v ?gh ?gk); (case gh => omega))
  | ((with_reducible refine g_NewT ?_); intro _ _ _ _ _)
  | ((with_reducible refine' g_fldv ?gh ?gc ?gn ?gl ?gk); (case gh => walk_at "hp"); (case gc => assumption); (case gn => assumption); (case gl => first | rfl | walk_at "lk"))
  | ((with_reducible refine' g_fldw ?gh ?gc ?gn ?gl ?gk); (case gh => walk_at "hp"); (case gc => assumption); (case gn => assumption); (case gl => exact Nat.le_of_ble_eq_true rfl))
  | ((with_reducible refine' g_own2 ?gh ?gl ?gk); (case gh => walk_at "hp"); (case gl => walk_at "hp"))
  | ((with_reducible refine' g_own1 ?gh ?gk); (case gh => walk_at "hp"))
  | ((with_reducible refine' g_ownI ?gh ?gk); (case gh => walk_at "hp"))
  | ((with_reducible refine' g_recv ?gh ?gl ?gk); (case gh => walk_at "hp"); (case gl => walk_at "lk"))
  | ((with_reducible refine' g_lenS ?gh ?gk); (case gh => (have := sizeLine_eq; omega)))
  | ((with_reducible refine' ifT ?gh ?gk); (case gh => first | exact decide_eq_true (by omega) | exact nf (decide_eq_false (by omega)) | decide +kernel))
  | ((with_reducible refine' ifF ?gh ?gk); (case gh => first | exact decide_eq_false (by omega) | exact nt (decide_eq_true (by omega)) | decide +kernel)))
local macro_rules | `(tactic| walk_at "go1") => `(tactic| first
  | (with_reducible first
    | refine g_var rfl ?_
    | refine g_op ?_
    | refine g_cons ?_
    | refine g_nil ?_
    | refine g_c ?_
    | refine g_cb ?_
    | refine g_call ?_
    | refine g_seq ?_
    | refine g_asg ?_
    | refine g_name ?_
    | refine g_fld ?_
    | refine g_meth ?_
    | refine g_ifS ?_
    | refine g_if ?_
    | refine g_ret ?_
    | refine g_test ?_
    | refine g_tB ?_
    | refine g_bl ?_
    | refine g_and ?_
    | refine g_or ?_
    | refine g_not ?_
    | refine g_andV ?_
    | refine g_orV ?_
    | refine g_notV ?_
    | refine g_chain ?_
    | refine g_un ?_
    | refine g_ntup ?_
    | refine g_nlst ?_
    | refine g_drop ?_
    | refine g_next ?_
    | refine g_par ?_
    | refine g_par3 ?_
    | refine g_e2 ?_
    | refine g_e3 ?_
    | refine g_retN ?_
    | refine g_gcons ?_
    | refine g_gnil ?_
    | refine g_rI0 ?_
    | refine g_rU ?_
    | refine g_rSS ?_
    | refine g_rBB ?_
    | refine g_sib ?_
    | refine g_sii ?_
    | refine g_lc ?_
    | refine g_for ?_
    | refine g_istr ?_
    | refine g_istrv ?_
    | refine g_ilst ?_
    | refine g_itup ?_
    | refine g_irng1 ?_
    | refine g_irng2 ?_
    | refine g_ienum ?_
    | refine g_abs ?_
    | refine g_mx ?_
    | refine g_mn ?_
    | refine g_isN ?_
    | refine g_inC ?_
    | refine g_nfld ?_
    | refine g_ienT ?_
    | refine g_sl ?_
    | refine g_np ?_
    | refine g_pt ?_
    | refine g_ptv ?_
    | refine g_star ?_
    | refine g_bmL ?_)
  | walk_at "goA"
  | walk_at "goT"
  | walk_at "goB")
local macro_rules | `(tactic| walk_at "go") => `(tactic| repeat walk_at "go1")
local macro_rules | `(tactic| walk_at "tl") => `(tactic| first | (with_reducible exact tx_lt _) | exact (SX.S_tl _).symm | exact rfl)
local macro_rules | `(tactic| walk_at "ts") => `(tactic| (have := sizeLine_eq; (try simp only [tx_len, List.length_append, List.length_cons, List.length_nil]); first | omega | (decide +kernel)))
local macro_rules | `(tactic| walk_at "goT") => `(tactic| first
  | (with_reducible first
    | refine g_m0 ?_
    | refine g_m1 ?_
    | refine g_str ?_
    | refine g_starts ?_
    | refine g_ends ?_
    | refine g_isdig ?_
    | refine g_js ?_
    | refine g_nt ?_
    | refine g_jsn ?_
    | refine g_jsc ?_
    | refine g_fmt ?_)
  | ((with_reducible refine' g_slS ?gh ?gk); (case gh => walk_at "ts"))
  | ((with_reducible refine' g_jsv ?ge ?gn ?gk); (case ge => walk_at "tl"); (case gn => walk_at "ts"))
  | ((with_reducible refine' g_fmtS ?gn ?gk); (case gn => walk_at "ts"))
  | ((with_reducible refine' g_addS ?ge ?gf ?gn ?gk); (case ge => walk_at "tl"); (case gf => walk_at "tl"); (case gn => walk_at "ts"))
  | ((with_reducible refine' g_tru ?gn ?gk); (case gn => walk_at "ts"))
  | ((with_reducible refine' g_truT ?gh ?gk); (case gh => walk_at "hp"))
  | ((with_reducible refine' g_unl ?gh ?gl ?gk); (case gh => walk_at "hp"); (case gl => rfl)))
def tokL : V → List Nat
  | .str z => z.cps.toList
  | .int i => numZ i
  | _ => []
def plL (xs : List V) : List Nat := TL.joinL [32] (xs.map tokL)
def oL : Option Str → List Nat
  | none => lt "."
  | some t => t.cps.toList
def hdL (w : Str) (o : Option Str) : List Nat := lt "when " ++ w.cps.toList ++ lt " " ++ oL o
def ddL : Dd → List Nat
  | .pl xs => plL xs
  | .whn w o xs => hdL w o ++ lt ": " ++ plL xs
def planL (ds : List Dd) : List Nat := TL.joinL [10] (ds.map ddL)
def TokC (c : Nat) : Prop := c = 45 ∨ (48 ≤ c ∧ c ≤ 57) ∨ (97 ≤ c ∧ c ≤ 122)
theorem lit_tok {z : Str} (h : (z.cps.toList.all fun c => decide (97 ≤ c ∧ c ≤ 122)) = true) : ∀ c ∈ z.cps.toList, TokC c := fun c hc => .inr (.inr (of_decide_eq_true (List.all_eq_true.mp h c hc)))
theorem num_tok (i : Int) : ∀ c ∈ numZ i, TokC c := fun c hc => (numZ_sign hc).imp id .inl
theorem win_tok {w : Str} (h : WinOk w) : (∀ c ∈ w.cps.toList, TokC c) ∧ w.cps.toList.length ≤ 8 := by
  rcases h with rfl | rfl <;> exact ⟨lit_tok (by decide +kernel), by decide +kernel⟩
theorem thing_tok {t : Str} (h : ThingOk t) : (∀ c ∈ t.cps.toList, TokC c) ∧ t.cps.toList.length ≤ 8 := ⟨fun c hc => .inr (.inr (h.az c hc)), by
  have := h.hi
  rw [Array.length_toList]
  exact this⟩
theorem int_tok {i : Int} (h1 : -40 ≤ i) (h2 : i ≤ 40) : (∀ c ∈ numZ i, TokC c) ∧ (numZ i).length ≤ 8 := ⟨num_tok i, by
  have := numZ_len (i := i) (k := 2) (by decide) (by omega)
  omega⟩
theorem PlainOk.toks {xs : List V} (h : PlainOk xs) : ∀ x ∈ xs, (∀ c ∈ tokL x, TokC c) ∧ (tokL x).length ≤ 8 := by
  have lit : ∀ z : Str, (z.cps.toList.all fun c => decide (97 ≤ c ∧ c ≤ 122)) = true → z.cps.toList.length ≤ 8 → (∀ c ∈ tokL (.str z), TokC c) ∧ (tokL (.str z)).length ≤ 8 := fun z h1 h2 => ⟨lit_tok h1, h2⟩
  intro x hx
  cases h with
  | thing k w t hk hw ht =>
    rcases List.mem_cons.mp hx with rfl | hx
    · rcases hk with rfl | rfl | rfl <;> exact lit _ (by decide +kernel) (by decide +kernel)
    · rcases List.mem_cons.mp hx with rfl | hx
      · exact win_tok hw
      · rw [List.mem_singleton.mp hx]
        exact thing_tok ht
  | pull n h0 h1 h2 =>
    rcases List.mem_cons.mp hx with rfl | hx
    · exact lit _ (by decide +kernel) (by decide +kernel)
    · rw [List.mem_singleton.mp hx]
      exact int_tok (by omega) (by omega)
  | walk w n hw h0 h1 h2 =>
    rcases List.mem_cons.mp hx with rfl | hx
    · exact lit _ (by decide +kernel) (by decide +kernel)
    · rcases List.mem_cons.mp hx with rfl | hx
      · exact win_tok hw
      · rw [List.mem_singleton.mp hx]
        exact int_tok (by omega) (by omega)
  | spot k w hk hw =>
    rcases List.mem_cons.mp hx with rfl | hx
    · rcases hk with rfl | rfl <;> exact lit _ (by decide +kernel) (by decide +kernel)
    · rw [List.mem_singleton.mp hx]
      exact win_tok hw
theorem PlainOk.strs {xs : List V} (h : PlainOk xs) : ∀ x ∈ xs, StrOk x ∧ strV x = tx (tokL x) := by
  have si : ∀ i : Int, -40 ≤ i → i ≤ 40 → StrOk (.int i) ∧ strV (.int i) = tx (tokL (.int i)) := fun i h1 h2 => ⟨PySem.Flt.log2_lt_of (by decide) (Nat.lt_of_le_of_lt (show i.natAbs ≤ 40 by omega) (by decide +kernel)), str_num i⟩
  have ss : ∀ z : Str, StrOk (.str z) ∧ strV (.str z) = tx (tokL (.str z)) := fun z => ⟨trivial, (SX.S_tl z).symm⟩
  intro x hx
  cases h with
  | thing k w t hk hw ht =>
    rcases List.mem_cons.mp hx with rfl | hx
    · exact ss _
    · rcases List.mem_cons.mp hx with rfl | hx
      · exact ss _
      · rw [List.mem_singleton.mp hx]
        exact ss _
  | pull n h0 h1 h2 =>
    rcases List.mem_cons.mp hx with rfl | hx
    · exact ss _
    · rw [List.mem_singleton.mp hx]
      exact si n (by omega) (by omega)
  | walk w n hw h0 h1 h2 =>
    rcases List.mem_cons.mp hx with rfl | hx
    · exact ss _
    · rcases List.mem_cons.mp hx with rfl | hx
      · exact ss _
      · rw [List.mem_singleton.mp hx]
        exact si n (by omega) (by omega)
  | spot k w hk hw =>
    rcases List.mem_cons.mp hx with rfl | hx
    · exact ss _
    · rw [List.mem_singleton.mp hx]
      exact ss _
theorem PlainOk.len {xs : List V} (h : PlainOk xs) : 2 ≤ xs.length ∧ xs.length ≤ 3 := by
  cases h <;> exact ⟨by simp, by simp⟩
theorem joinL_mem {S : List Nat} {c : Nat} : ∀ {ps : List (List Nat)}, c ∈ TL.joinL S ps → c ∈ S ∨ ∃ p ∈ ps, c ∈ p
  | [], h => nomatch h
  | [p], h => .inr ⟨p, List.mem_cons_self .., h⟩
  | p :: q :: r, h => by
    rcases List.mem_append.mp (show c ∈ p ++ (S ++ TL.joinL S (q :: r)) from h) with h | h
    · exact .inr ⟨p, List.mem_cons_self .., h⟩
    · rcases List.mem_append.mp h with h | h
      · exact .inl h
      · rcases joinL_mem h with h | ⟨x, hx, h⟩
        · exact .inl h
        · exact .inr ⟨x, List.mem_cons_of_mem _ hx, h⟩
theorem PlainOk.sign {xs : List V} (h : PlainOk xs) : ∀ c ∈ plL xs, c = 32 ∨ TokC c := fun c hc => by
  rcases joinL_mem hc with hc | ⟨p, hp, hc⟩
  · exact .inl (List.mem_singleton.mp hc)
  · obtain ⟨x, hx, rfl⟩ := List.mem_map.mp hp
    exact .inr ((h.toks x hx).1 c hc)
theorem PlainOk.plen {xs : List V} (h : PlainOk xs) : (plL xs).length ≤ 27 := by
  have := joinL_len [32] (b := 8) (ps := xs.map tokL) fun p hp => by
    obtain ⟨x, hx, rfl⟩ := List.mem_map.mp hp
    exact (h.toks x hx).2
  have l := h.len
  rw [List.length_map] at this
  have e : xs.length * (8 + [32].length) ≤ 3 * 9 := Nat.mul_le_mul_right _ l.2
  unfold plL
  omega
theorem o_tok {o : Option Str} (ho : ∀ t, o = some t → ThingOk t) : (∀ c ∈ oL o, c = 46 ∨ TokC c) ∧ (oL o).length ≤ 8 := by
  cases o with
  | none => exact ⟨fun c hc => .inl (List.mem_singleton.mp (show c ∈ [46] from hc)), by decide +kernel⟩
  | some t => exact ⟨fun c hc => .inr ((thing_tok (ho t rfl)).1 c hc), (thing_tok (ho t rfl)).2⟩
theorem hd_sign {w : Str} {o : Option Str} (hw : WinOk w) (ho : ∀ t, o = some t → ThingOk t) : (∀ c ∈ hdL w o, c = 32 ∨ c = 46 ∨ TokC c) ∧ (hdL w o).length ≤ 22 := by
  have h1 := win_tok hw
  have h2 := o_tok ho
  have l1 : (lt "when ").length = 5 := by decide +kernel
  have l2 : (lt " ").length = 1 := by decide +kernel
  have s1 : ∀ c ∈ lt "when ", c = 32 ∨ (97 ≤ c ∧ c ≤ 122) := by decide +kernel
  have s2 : ∀ c ∈ lt " ", c = 32 := by decide +kernel
  unfold hdL
  refine ⟨fun c hc => ?_, by simp only [List.length_append]; omega⟩
  rcases List.mem_append.mp hc with hc | hc
  · rcases List.mem_append.mp hc with hc | hc
    · rcases List.mem_append.mp hc with hc | hc
      · exact (s1 c hc).imp id fun h => .inr (.inr (.inr h))
      · exact .inr (.inr (h1.1 c hc))
    · exact .inl (s2 c hc)
  · exact .inr (h2.1 c hc)
theorem DdOk.sign {d : Dd} (h : DdOk d) : (∀ c ∈ ddL d, c ≠ 10) ∧ (ddL d).length ≤ 60 ∧ ddL d ≠ [] := by
  have k : ∀ c, TokC c → c ≠ 10 := fun c h e => by
    subst e
    rcases h with h | h | h <;> omega
  cases h with
  | @pl xs h =>
    refine ⟨fun c hc => ?_, ?_, ?_⟩
    · rcases h.sign c hc with rfl | h
      · decide
      · exact k c h
    · have := h.plen
      show (plL xs).length ≤ 60
      omega
    · intro e
      cases h with
      | thing k w t hk hw ht => rcases hk with rfl | rfl | rfl <;> exact absurd e (by unfold ddL plL TL.joinL; exact fun z => by cases z)
      | pull n h0 h1 h2 => exact absurd e (by unfold ddL plL TL.joinL; exact fun z => by cases z)
      | walk w n hw h0 h1 h2 => exact absurd e (by unfold ddL plL TL.joinL; exact fun z => by cases z)
      | spot k w hk hw => rcases hk with rfl | rfl <;> exact absurd e (by unfold ddL plL TL.joinL; exact fun z => by cases z)
  | @whn w o xs hw ho h =>
    have h1 := hd_sign hw ho
    have s2 : ∀ c ∈ lt ": ", c ≠ 10 := by decide +kernel
    have l2 : (lt ": ").length = 2 := by decide +kernel
    have l3 := h.plen
    refine ⟨fun c hc => ?_, ?_, ?_⟩
    · rcases List.mem_append.mp hc with hc | hc
      · rcases List.mem_append.mp hc with hc | hc
        · rcases h1.1 c hc with rfl | rfl | h
          · decide
          · decide
          · exact k c h
        · exact s2 c hc
      · rcases h.sign c hc with rfl | h
        · decide
        · exact k c h
    · show (hdL w o ++ lt ": " ++ plL xs).length ≤ 60
      simp only [List.length_append]
      omega
    · intro e
      have := congrArg List.length e
      simp only [ddL, List.length_append, l2, List.length_nil] at this
      omega
section
variable {P : Program} {w : World} {K : PySem.W.Frag} {mg : Str → Option Value} {base : Heap}
/-! deed_text -/
def sp_deed_text0 (K : PySem.W.Frag) : Sp := fun vs H Q _ => ∃ a xs, vs = [.ref a] ∧ SqT K H a xs ∧ PlainOk xs ∧ ∀ H', Same H H' → Q (.str (tx (plL xs))) H'
theorem u_deed_text0 {a : Addr} {xs : List V} {H : Hp} {Q : VK} {E : XK} (h : SqT K H a xs) (o : PlainOk xs) (k : ∀ H', Same H H' → Q (.str (tx (plL xs))) H') : sp_deed_text0 K [.ref a] H Q E := ⟨a, xs, rfl, h, o, k⟩
theorem sc_deed_text : FnScope ["deed", "part"] ["deed"] (defScope s_deed_text) := C8.fnScope_by (by decide +kernel)
theorem join_plain {σ : L2.St} {vs : List Nat} {H : Hp} {Q : VK} {a : Addr} {xs : List V} (ha : SqT K H a xs) (o : PlainOk xs) (hw : ∀ v, wipe ((wipe σ vs).set 1 (some v)) vs = wipe σ vs) (hv1 : ∀ v, ((wipe σ vs).set 1 (some v))[1]? = some (some v))
    (k : ∀ H', Same H H' → Q (.str (tx (plL xs))) H') : LcT (Itt K a) (gName 1) tYes (tCB rStrX (tCons (tVar 1) tNil)) vs σ H fun y H2 => rJn K (.str (Str.ofString " ")) [y] H2 Q := by
  have hsz := sizeLine_eq
  have hln := o.len
  refine lc_val walk_tup (fun i => .str (tx (tokL (xs.getD i .non)))) (by omega) (fun H' s' => Same.seqT s' ha) ?_ ?_
  · rintro i v H2 H3 kk hi s1 ⟨rfl, hv⟩ hk
    rw [List.getElem?_eq_getElem hi] at hv
    have ev := (Option.some.inj hv).symm
    subst ev
    have hd : xs.getD i .non = xs[i] := by rw [List.getD_eq_getElem?_getD, List.getElem?_eq_getElem hi]; rfl
    rw [hd] at hk
    refine g_name ⟨hw _, ?_⟩
    refine g_cb (g_cons (g_var (hv1 _) (g_nil ?_)))
    have h2 := o.strs _ (List.getElem_mem hi)
    refine g_strX h2.1 ?_
    rw [h2.2]
    exact hk _ (Same.refl _)
  · intro p2 H2 n2 s2 h2
    have h2' : SqL K H2 p2 ((xs.map tokL).map fun l => V.str (tx l)) := by
      refine SqL.of ?_
      rw [h2, List.map_map]
      congr 2
      refine List.ext_getElem? fun j => ?_
      rw [List.getElem?_map, List.getElem?_map]
      rcases Nat.lt_or_ge j xs.length with hj | hj
      · rw [List.getElem?_range hj, List.getElem?_eq_getElem hj]
        show some (V.str (tx (tokL (xs.getD j .non)))) = some (V.str (tx (tokL xs[j])))
        rw [List.getD_eq_getElem?_getD, List.getElem?_eq_getElem hj]
        rfl
      · rw [List.getElem?_eq_none (by rw [List.length_range]; exact hj), List.getElem?_eq_none hj]
        rfl
    refine g_jn (u := [32]) (by decide +kernel) h2' ?_ ?_
    · have h3 := sum_le (b := 8) (l := ((xs.map tokL).map (·.length))) fun x hx => by
        obtain ⟨l, hl2, rfl⟩ := List.mem_map.mp hx
        obtain ⟨y, hy, rfl⟩ := List.mem_map.mp hl2
        exact (o.toks y hy).2
      rw [List.length_map, List.length_map] at h3
      rw [List.length_map]
      show _ + xs.length * 1 ≤ _
      omega
    · exact k H2 s2
theorem PlainOk.head {xs : List V} (o : PlainOk xs) : ∃ k : Str, atI xs 0 = some (.str k) ∧ decide (k = Str.ofString "when") = false := by
  cases o with
  | thing k w t hk hw ht => rcases hk with rfl | rfl | rfl <;> exact ⟨_, rfl, by decide +kernel⟩
  | pull n h0 h1 h2 => exact ⟨_, rfl, by decide +kernel⟩
  | walk w n hw h0 h1 h2 => exact ⟨_, rfl, by decide +kernel⟩
  | spot k w hk hw => rcases hk with rfl | rfl <;> exact ⟨_, rfl, by decide +kernel⟩
theorem c_deed_text0 (T : Tx K mg) : C8.Cal P w K mg base 1 "deed_text" (sp_deed_text0 K) [] := by
  refine calD T.d_deed_text T.g_deed_text (fun _ _ _ _ _ _ us hl => match us, hl with | [_], _ => rfl) sc_deed_text (fun vs H Q E ⟨_, _, e, _⟩ => by rw [e]; rfl) fun fd cdv A outer s H vs Q E hr h => ?_
  obtain ⟨a, xs, rfl, ha, o, k⟩ := h
  refine ⟨_, (pss_cons (ps_if (pt_cmpR op_eqS (pe_ix ix_tup (pv 0) pe_int (fun _ _ => rfl)) pe_str (nomark _))
        (pss_one (ps_ret (pe_njoined (.cons pe_str (.cons (pe_fmt (pe_ix ix_tup (pv 0) pe_int (fun _ _ => rfl))) (.cons pe_str (.cons (pe_fmt (pe_ifExp (pt_cmpR op_nisN (pe_ix ix_tup (pv 0) pe_int (fun _ _ => rfl)) pe_non (nomark _)) pe_str (pe_ix ix_tup (pv 0) pe_int (fun _ _ => rfl)))) (.cons pe_str (.cons (pe_fmt pe_nev) .nil)))))))))
        pss_nil)
      (pss_one (ps_ret (pe_njoin pe_str (pe_lc (own := [("part", 1)]) rfl sc_deed_text.nd (pj_tup (pv 0)) (blkOk_by (N := ["deed", "part"]) (sc := defScope s_deed_text) (by decide +kernel)) (fun _ _ _ _ _ => (pg_name (i := 1) sc_deed_text.nd rfl (Or.inl rfl))) (fun _ _ _ _ _ => pts_nil) (fun _ _ _ _ _ => (pe_callTy call_strX rfl T.b_str (by decide +kernel) (pa_cons (pv 1) pa_nil)))))))), ?_⟩
  walk_at "st"
  have hsz := sizeLine_eq
  obtain ⟨kk, hk, hk2⟩ := o.head
  have hln := o.len
  walk_at "go"
  rw [hk2]
  walk_at "go"
  exact join_plain ha o (fun _ => rfl) (fun _ => rfl) fun H2 s2 => k H2 s2
local macro_rules | `(tactic| walk_at "goB") => `(tactic| ((with_reducible refine' u_deed_text0 ?gh ?go ?gk); (case gh => walk_at "hp"); (case go => assumption); intro _ _))
def sp_deed_text (K : PySem.W.Frag) : Sp := fun vs H Q _ => ∃ v d, vs = [v] ∧ DeedAt K H v d ∧ DdOk d ∧ ∀ H', Same H H' → Q (.str (tx (ddL d))) H'
theorem u_deed_text {v : V} {d : Dd} {H : Hp} {Q : VK} {E : XK} (h : DeedAt K H v d) (o : DdOk d) (k : ∀ H', Same H H' → Q (.str (tx (ddL d))) H') : sp_deed_text K [v] H Q E := ⟨v, d, rfl, h, o, k⟩
theorem c_deed_text (T : Tx K mg) : C8.Cal P w K mg base 2 "deed_text" (sp_deed_text K) [] := by
  refine calD T.d_deed_text T.g_deed_text (fun _ _ _ _ _ _ us hl => match us, hl with | [_], _ => rfl) sc_deed_text (fun vs H Q E ⟨_, _, e, _⟩ => by rw [e]; rfl) fun fd cdv A outer s H vs Q E hr h => ?_
  obtain ⟨v, d, rfl, h, o, k⟩ := h
  refine ⟨_, (pss_cons (ps_if (pt_cmpR op_eqS (pe_ix ix_tup (pv 0) pe_int (fun _ _ => rfl)) pe_str (nomark _))
        (pss_one (ps_ret (pe_njoined (.cons pe_str (.cons (pe_fmt (pe_ix ix_tup (pv 0) pe_int (fun _ _ => rfl))) (.cons pe_str (.cons (pe_fmt (pe_ifExp (pt_cmpR op_nisN (pe_ix ix_tup (pv 0) pe_int (fun _ _ => rfl)) pe_non (nomark _)) pe_str (pe_ix ix_tup (pv 0) pe_int (fun _ _ => rfl)))) (.cons pe_str (.cons (pe_fmt (C8.pe_c (c_deed_text0 T) hr (by decide) rfl (pa_cons (pe_ix ix_tup (pv 0) pe_int (fun _ _ => rfl)) pa_nil))) .nil)))))))))
        pss_nil)
      (pss_one (ps_ret (pe_njoin pe_str (pe_lc (own := [("part", 1)]) rfl sc_deed_text.nd (pj_tup (pv 0)) (blkOk_by (N := ["deed", "part"]) (sc := defScope s_deed_text) (by decide +kernel)) (fun _ _ _ _ _ => (pg_name (i := 1) sc_deed_text.nd rfl (Or.inl rfl))) (fun _ _ _ _ _ => pts_nil) (fun _ _ _ _ _ => (pe_callTy call_strX rfl T.b_str (by decide +kernel) (pa_cons (pv 1) pa_nil)))))))), ?_⟩
  walk_at "st"
  have hsz := sizeLine_eq
  cases o with
  | @pl xs o =>
    obtain ⟨a, rfl, ha⟩ := h
    obtain ⟨kk, hk, hk2⟩ := o.head
    have hln := o.len
    walk_at "go"
    rw [hk2]
    walk_at "go"
    exact join_plain ha o (fun _ => rfl) (fun _ => rfl) fun H2 s2 => k H2 s2
  | @whn w o xs hw ho ok =>
    obtain ⟨a, b, rfl, h1, h2⟩ := h
    have l1 : (lt "when ").length = 5 := by decide +kernel
    have l2 : (lt " ").length = 1 := by decide +kernel
    have l3 : (lt ": ").length = 2 := by decide +kernel
    have lw := win_tok hw
    have lo := o_tok ho
    have lp := ok.plen
    have ew : w = tx w.cps.toList := (SX.S_tl w).symm
    have lwl : w.length = w.cps.toList.length := by rw [Array.length_toList]; rfl
    have l4 : (lt ".").length = 1 := by decide +kernel
    cases o with
    | none =>
      walk_at "go"
      rw [List.nil_append]
      exact k _ (by assumption)
    | some t =>
      have ht := thing_tok (ho t rfl)
      have htl : t.length = t.cps.toList.length := by rw [Array.length_toList]; rfl
      replace h1 : SqT K H a [.str (Str.ofString "when"), .str w, .str t, .ref b] := h1
      walk_at "go"
      rw [List.nil_append]
      exact k _ (by assumption)
/-! plan_text -/
theorem planL_len {ds : List Dd} (o : ∀ d ∈ ds, DdOk d) (l : ds.length ≤ 12) : (planL ds).length ≤ 800 := by
  have := joinL_len [10] (b := 60) (ps := ds.map ddL) fun p hp => by
    obtain ⟨x, hx, rfl⟩ := List.mem_map.mp hp
    exact (o x hx).sign.2.1
  rw [List.length_map] at this
  have e : ds.length * (60 + [10].length) ≤ 12 * 61 := Nat.mul_le_mul_right _ l
  unfold planL
  omega
def sp_plan_text (K : PySem.W.Frag) : Sp := fun vs H Q _ => ∃ p ds, vs = [.ref p] ∧ PlanAt K H p ds ∧ (∀ d ∈ ds, DdOk d) ∧ ds.length ≤ 12 ∧ ∀ H', Same H H' → Q (.str (tx (planL ds))) H'
theorem u_plan_text {p : Addr} {ds : List Dd} {H : Hp} {Q : VK} {E : XK} (h : PlanAt K H p ds) (o : ∀ d ∈ ds, DdOk d) (l : ds.length ≤ 12) (k : ∀ H', Same H H' → Q (.str (tx (planL ds))) H') : sp_plan_text K [.ref p] H Q E := ⟨p, ds, rfl, h, o, l, k⟩
local macro_rules | `(tactic| walk_at "lk") => `(tactic| exact lk_no (by decide +kernel))
local macro_rules | `(tactic| walk_at "lk") => `(tactic| exact lk_kept)
theorem sc_plan_text : FnScope ["plan", "deed"] ["plan"] (defScope s_plan_text) := C8.fnScope_by (by decide +kernel)
theorem c_plan_text (T : Tx K mg) : C8.Cal P w K mg base 3 "plan_text" (sp_plan_text K) [] := by
  refine calD T.d_plan_text T.g_plan_text (fun _ _ _ _ _ _ us hl => match us, hl with | [_], _ => rfl) sc_plan_text (fun vs H Q E ⟨_, _, e, _⟩ => by rw [e]; rfl) fun fd cdv A outer s H vs Q E hr h => ?_
  obtain ⟨p, ds, rfl, hP, o, hl, k⟩ := h
  refine ⟨_, (pss_one (ps_ret (pe_njoin pe_str (pe_lc (own := [("deed", 1)]) rfl sc_plan_text.nd (pj_tup (C8.pe_mt0 (c_Plan_deeds T) hr (by decide) (pv 0))) (blkOk_by (N := ["plan", "deed"]) (sc := defScope s_plan_text) (by decide +kernel)) (fun _ _ _ _ _ => (pg_name (i := 1) sc_plan_text.nd rfl (Or.inl rfl))) (fun _ _ _ _ _ => pts_nil) (fun _ _ _ _ _ => (C8.pe_c (c_deed_text T) hr (by decide) rfl (pa_cons (pv 1) pa_nil))))))), ?_⟩
  walk_at "st"
  have hsz := sizeLine_eq
  obtain ⟨dx, u, hp, _⟩ := id hP
  have pl := planL_len o hl
  walk_at "go"
  refine u_Plan_deeds hP fun t ⟨as, hu, p1⟩ => ?_
  have l1 := p1.length
  walk_at "go"
  refine lc_val walk_tup (fun i => .str (tx (ddL (ds[i]?.getD (.pl []))))) (by omega) (fun H' s' => Same.seqT s' hu) ?_ ?_
  · rintro i v H2 H3 kk hi s1 ⟨rfl, hv⟩ hk
    obtain ⟨d, hd, hdd⟩ := pr_get p1 hv
    rw [hd] at hk
    refine g_name ⟨rfl, ?_⟩
    walk_at "go"
    exact u_deed_text (hdd.mono s1) (o d (List.mem_of_getElem? hd)) fun H' s' => hk H' s'
  · intro p2 H2 n2 s2 h2
    have h2' : SqL K H2 p2 ((ds.map ddL).map fun l => V.str (tx l)) := by
      refine SqL.of ?_
      rw [h2, List.map_map]
      congr 2
      refine List.ext_getElem? fun j => ?_
      rw [List.getElem?_map, List.getElem?_map]
      rcases Nat.lt_or_ge j ds.length with hj | hj
      · rw [List.getElem?_range (by omega), List.getElem?_eq_getElem hj]
        show some (V.str (tx (ddL (ds[j]?.getD (.pl []))))) = some (V.str (tx (ddL ds[j])))
        rw [List.getElem?_eq_getElem hj]
        rfl
      · rw [List.getElem?_eq_none (by rw [List.length_range]; omega), List.getElem?_eq_none hj]
        rfl
    refine g_jn (u := [10]) (by decide +kernel) h2' ?_ ?_
    · have h3 := sum_le (b := 60) (l := ((ds.map ddL).map (·.length))) fun x hx => by
        obtain ⟨l, hl2, rfl⟩ := List.mem_map.mp hx
        obtain ⟨y, hy, rfl⟩ := List.mem_map.mp hl2
        exact (o y hy).sign.2.1
      rw [List.length_map, List.length_map] at h3
      rw [List.length_map]
      show _ + ds.length * 1 ≤ _
      omega
    · walk_at "go"
      exact k H2 s2
/-! read_plain -/
def sp_read_plain (K : PySem.W.Frag) : Sp := fun vs H Q _ => ∃ xs, vs = [.str (tx (plL xs))] ∧ PlainOk xs ∧ ∀ p H', Same H H' → SqT K H' p xs → Q (.ref p) H'
theorem u_read_plain {xs : List V} {H : Hp} {Q : VK} {E : XK} (o : PlainOk xs) (k : ∀ p H', Same H H' → SqT K H' p xs → Q (.ref p) H') : sp_read_plain K [.str (tx (plL xs))] H Q E := ⟨xs, rfl, o, k⟩
theorem spl_pl {xs : List V} (o : PlainOk xs) : (TL.spl [32] 0 [] (plL xs)).map (fun l => V.str (tx l)) = xs.map fun x => V.str (tx (tokL x)) := by
  unfold plL
  rw [TL.spl_join (by
    have := o.len
    intro e
    rw [List.map_eq_nil_iff.mp e] at this
    exact absurd this.1 (by decide)) (by
    intro p hp
    obtain ⟨y, hy, rfl⟩ := List.mem_map.mp hp
    intro z
    rcases (o.toks y hy).1 32 z with h | h | h <;> omega), List.map_map]
  rfl
theorem sc_read_plain : FnScope ["line", "words"] ["line"] (defScope s_read_plain) := C8.fnScope_by (by decide +kernel)
theorem c_read_plain (T : Tx K mg) : C8.Cal P w K mg base 2 "read_plain" (sp_read_plain K) [] := by
  refine calD T.d_read_plain T.g_read_plain (fun _ _ _ _ _ _ us hl => match us, hl with | [_], _ => rfl) sc_read_plain (fun vs H Q E ⟨_, e, _⟩ => by rw [e]; rfl) fun fd cdv A outer s H vs Q E hr h => ?_
  obtain ⟨xs, rfl, o, k⟩ := h
  refine ⟨_, (pss_cons (ps_set (i := 1) sc_read_plain.nd rfl (Or.inl rfl) (pe_nsplit (pv 0) pe_str))
      (pss_cons (ps_if (pt_cmpR op_in_seq (pe_ix ix_list (pv 1) pe_int (fun _ _ => rfl)) (pe_ntup (pa_cons pe_str (pa_cons pe_str pa_nil))) (by rfl))
        (pss_one (ps_ret (pe_ntup (StX.pa_star (pe_slice sl_nlst (pv 1) po_none (po_some (pe_un un_neg pe_int))) (pa_cons (C8.pe_c (c_read_number T) hr (by decide) rfl (pa_cons (pe_ix ix_list (pv 1) (pe_un un_neg pe_int) (fun _ _ => rfl)) pa_nil)) pa_nil)))))
        pss_nil)
      (pss_one (ps_ret (pe_callTy call_ntuple rfl T.b_tuple (by decide +kernel) (pa_cons (pv 1) pa_nil)))))), ?_⟩
  walk_at "st"
  have hsz := sizeLine_eq
  have pl := o.plen
  walk_at "go"
  refine g_spl (u := plL xs) (v := [32]) rfl (by decide +kernel) (by simp) (by decide) (by omega) ?_
  rw [spl_pl o]
  have cut2 : ∀ a b : V, cutV [a, b] none (some (-1)) = [a] := fun a b => cut_but [a, b] 1 (by simp) (by decide)
  have cut3 : ∀ a b c : V, cutV [a, b, c] none (some (-1)) = [a, b] := fun a b c => cut_but [a, b, c] 1 (by simp) (by decide)
  cases o with
  | thing t w z hk hw ht =>
    rcases hk with rfl | rfl | rfl
    · walk_at "go"
      rename_i q H' s' h'
      exact k _ _ (by walk_at "sm") h'
    · walk_at "go"
      rename_i q H' s' h'
      exact k _ _ (by walk_at "sm") h'
    · walk_at "go"
      rename_i q H' s' h'
      exact k _ _ (by walk_at "sm") h'
  | pull n h0 h1 h2 =>
    walk_at "go"
    rw [List.map_cons, List.map_cons, List.map_nil, cut2]
    refine u_read_number (l := numZ n) (.inl ⟨n, rfl, ?_, rfl⟩) ?_
    · have := numZ_len (i := n) (k := 2) (by decide) (by omega)
      omega
    walk_at "go"
    rename_i q H' n' s' h'
    exact k _ _ (by walk_at "sm") (SqT.of h')
  | walk w n hw h0 h1 h2 =>
    walk_at "go"
    rw [List.map_cons, List.map_cons, List.map_cons, List.map_nil, cut3]
    refine u_read_number (l := numZ n) (.inl ⟨n, rfl, ?_, rfl⟩) ?_
    · have := numZ_len (i := n) (k := 2) (by decide) (by omega)
      omega
    walk_at "go"
    rename_i q H' n' s' h'
    exact k _ _ (by walk_at "sm") (SqT.of h')
  | spot t w hk hw =>
    rcases hk with rfl | rfl
    · walk_at "go"
      rename_i q H' s' h'
      exact k _ _ (by walk_at "sm") h'
    · walk_at "go"
      rename_i q H' s' h'
      exact k _ _ (by walk_at "sm") h'
/-! read_deed -/
local macro_rules | `(tactic| walk_at "goB") => `(tactic| ((with_reducible refine' u_read_plain ?go ?gk); (case go => assumption); intro _ _ _ _))
def sp_read_deed (K : PySem.W.Frag) : Sp := fun vs H Q _ => ∃ d, vs = [.str (tx (ddL d))] ∧ DdOk d ∧ ∀ v H', Same H H' → DeedAt K H' v d → Q v H'
theorem u_read_deed {d : Dd} {H : Hp} {Q : VK} {E : XK} (o : DdOk d) (k : ∀ v H', Same H H' → DeedAt K H' v d → Q v H') : sp_read_deed K [.str (tx (ddL d))] H Q E := ⟨d, rfl, o, k⟩
theorem sc_read_deed : FnScope ["line", "head", "parted", "rest", "words", "first", "window", "what"] ["line"] (defScope s_read_deed) := C8.fnScope_by (by decide +kernel)
theorem c_read_deed (T : Tx K mg) : C8.Cal P w K mg base 3 "read_deed" (sp_read_deed K) [] := by
  refine calD T.d_read_deed T.g_read_deed (fun _ _ _ _ _ _ us hl => match us, hl with | [_], _ => rfl) sc_read_deed (fun vs H Q E ⟨_, e, _⟩ => by rw [e]; rfl) fun fd cdv A outer s H vs Q E hr h => ?_
  obtain ⟨d, rfl, o, k⟩ := h
  refine ⟨_, (pss_cons (ps_asg (pe_npart (pv 0) pe_str) (pg_tup rfl (pgs_cons (pg_name (i := 1) sc_read_deed.nd rfl (Or.inl rfl)) (pgs_cons (pg_name (i := 2) sc_read_deed.nd rfl (Or.inl rfl)) (pgs_cons (pg_name (i := 3) sc_read_deed.nd rfl (Or.inl rfl)) pgs_nil)))))
      (pss_cons (ps_if (pt_not (pt_ntruth (pv 2) (by intro _; rfl)))
        (pss_one (ps_ret (C8.pe_c (c_read_plain T) hr (by decide) rfl (pa_cons (pv 0) pa_nil))))
        pss_nil)
      (pss_cons (ps_set (i := 4) sc_read_deed.nd rfl (Or.inl rfl) (pe_nsplit (pv 1) pe_str))
      (pss_cons (ps_if (pt_cmpR op_neI (pe_callB call_nlen rfl T.b_len (by decide +kernel) (pa_cons (pv 4) pa_nil)) pe_int (nomark _))
        (pss_one (ps_ret pe_non))
        pss_nil)
      (pss_cons (ps_asg (pv 4) (pg_unl rfl (pgs_cons (pg_name (i := 5) sc_read_deed.nd rfl (Or.inl rfl)) (pgs_cons (pg_name (i := 6) sc_read_deed.nd rfl (Or.inl rfl)) (pgs_cons (pg_name (i := 7) sc_read_deed.nd rfl (Or.inl rfl)) pgs_nil)))))
      (pss_one (ps_ret (pe_ntup (pa_cons (pv 5) (pa_cons (pv 6) (pa_cons (pe_ifExp (pt_cmpR op_eqS (pv 7) pe_str (nomark _)) pe_non (pv 7)) (pa_cons (C8.pe_c (c_read_plain T) hr (by decide) rfl (pa_cons (pv 3) pa_nil)) pa_nil)))))))))))), ?_⟩
  walk_at "st"
  have hsz := sizeLine_eq
  have dl := o.sign.2.1
  cases o with
  | @pl xs o =>
    have hp : Txt.partition (tx (ddL (.pl xs))) (Str.ofString ": ") = (tx (plL xs), Str.empty, Str.empty) := TL.partition_none (y := Str.ofString ": ") (s := 58) (S := [32]) (by decide +kernel) fun z => by
      rcases o.sign 58 z with h | h | h | h <;> omega
    walk_at "go"
    refine g_part (by decide +kernel) (by rw [tx_len]; omega) hp ?_
    walk_at "go"
    exact u_read_plain (xs := xs) o fun p1 H1 s1 h1 => k _ _ (by walk_at "sm") ⟨_, rfl, h1⟩
  | @whn w o xs hw ho ok =>
    have hd := hd_sign hw ho
    have hp : Txt.partition (tx (ddL (.whn w o xs))) (Str.ofString ": ") = (tx (hdL w o), Str.ofString ": ", tx (plL xs)) := by
      have := TL.partition_app (y := Str.ofString ": ") (s := 58) (S := [32]) (by decide +kernel) (a := tx (hdL w o)) (b := tx (plL xs)) fun z => by
        rcases hd.1 58 z with h | h | h | h | h <;> omega
      rw [tx_lt, tx_cat, tx_cat] at this
      exact this
    walk_at "go"
    refine g_part (by decide +kernel) (by rw [tx_len]; omega) hp ?_
    walk_at "go"
    refine g_spl (u := hdL w o) (v := [32]) rfl (by decide +kernel) (by simp) (by decide) (by have := hd.2; omega) ?_
    have hs : TL.spl [32] 0 [] (hdL w o) = [lt "when", w.cps.toList, oL o] := by
      have e : hdL w o = TL.joinL [32] [lt "when", w.cps.toList, oL o] := by
        show lt "when " ++ w.cps.toList ++ lt " " ++ oL o = lt "when" ++ ([32] ++ (w.cps.toList ++ ([32] ++ oL o)))
        rw [show lt "when " = lt "when" ++ [32] by decide +kernel, lt_sp]
        simp only [List.append_assoc]
      rw [e]
      refine TL.spl_join (by simp) fun p hp => ?_
      rcases List.mem_cons.mp hp with rfl | hp
      · decide +kernel
      · rcases List.mem_cons.mp hp with rfl | hp
        · intro z
          rcases (win_tok hw).1 32 z with h | h | h <;> omega
        · rw [List.mem_singleton.mp hp]
          intro z
          rcases (o_tok ho).1 32 z with h | h | h | h <;> omega
    have hs' : (TL.spl [32] 0 [] (hdL w o)).map (fun l => V.str (tx l)) = [.str (Str.ofString "when"), .str w, .str (tx (oL o))] := by
      rw [hs]
      rfl
    rw [hs']
    cases o with
    | none =>
      walk_at "go"
      rename_i q5 H5 s5 h5 q6 H6 n6 s6 h6
      exact k _ _ (by walk_at "sm") ⟨q6, q5, rfl, SqT.of h6, Same.seqT s6 h5⟩
    | some t =>
      have ht := ho t rfl
      have nd : decide (tx (oL (some t)) = Str.ofString ".") = false := decide_eq_false fun e => by
        have e2 : oL (some t) = [46] := tx_inj e
        have := ht.az 46 (by rw [show t.cps.toList = [46] from e2]; exact List.mem_cons_self ..)
        omega
      walk_at "go"
      rw [nd]
      walk_at "go"
      rename_i q5 H5 s5 h5 q6 H6 n6 s6 h6
      exact k _ _ (by walk_at "sm") ⟨q6, q5, rfl, SqT.of h6, Same.seqT s6 h5⟩
/-! read_plan -/
def sp_read_plan (K : PySem.W.Frag) : Sp := fun vs H Q _ => ∃ ds, vs = [.str (tx (planL ds))] ∧ (∀ d ∈ ds, DdOk d) ∧ ds.length ≤ 12 ∧ ∀ p H', Same H H' → H p = none → PlanAt K H' p ds → Q (.ref p) H'
theorem u_read_plan {ds : List Dd} {H : Hp} {Q : VK} {E : XK} (o : ∀ d ∈ ds, DdOk d) (l : ds.length ≤ 12) (k : ∀ p H', Same H H' → H p = none → PlanAt K H' p ds → Q (.ref p) H') : sp_read_plan K [.str (tx (planL ds))] H Q E := ⟨ds, rfl, o, l, k⟩
theorem sc_read_plan : FnScope ["text", "line", "deeds", "deed"] ["text"] (defScope s_read_plan) := C8.fnScope_by (by decide +kernel)
theorem c_read_plan (T : Tx K mg) : C8.Cal P w K mg base 7 "read_plan" (sp_read_plan K) [] := by
  refine calD T.d_read_plan T.g_read_plan (fun _ _ _ _ _ _ us hl => match us, hl with | [_], _ => rfl) sc_read_plan (fun vs H Q E ⟨_, e, _⟩ => by rw [e]; rfl) fun fd cdv A outer s H vs Q E hr h => ?_
  obtain ⟨ds, rfl, o, hl, k⟩ := h
  refine ⟨_, (pss_cons (ps_if (pt_not (pt_val (pe_callB call_isi rfl T.b_isinstance (by decide +kernel) (pa_cons (pv 0) (pa_cons (pe_ty (n := "str") rfl T.b_str (by decide +kernel)) pa_nil)))))
        (pss_one ps_never)
        pss_nil)
      (pss_cons (ps_if (pt_cmpR op_eqS (pv 0) pe_str (nomark _))
        (pss_one (ps_ret (pe_cm0 (m_Plan0 T) hr (by decide) rfl)))
        pss_nil)
      (pss_cons (ps_setLc (i := 2) (own := [("line", 1)]) rfl sc_read_plan.nd rfl rfl (sw_true rfl rfl rfl (by decide +kernel)) (pj_list (pe_nsplit (pv 0) pe_str)) (blkOk_by (N := ["text", "line", "deeds", "deed"]) (sc := defScope s_read_plan) (by decide +kernel)) (fun _ _ _ _ _ => (pg_name (i := 1) sc_read_plan.nd rfl (Or.inl rfl))) (fun _ _ _ _ _ => pts_nil) (fun _ _ _ _ _ => (C8.pe_c (c_read_deed T) hr (by decide) rfl (pa_cons (pv 1) pa_nil))))
      (pss_cons (ps_for PassesOwn.never rfl (pj_enum rfl T.b_enumerate (pa_cons (pv 2) pa_nil)) (pg_tup rfl (pgs_cons (pg_name (i := 1) sc_read_plan.nd rfl (Or.inl rfl)) (pgs_cons (pg_name (i := 3) sc_read_plan.nd rfl (Or.inl rfl)) pgs_nil)))
        (pss_one (ps_if (pt_not (pt_val (C8.pe_c (c_is_deed T) hr (by decide) rfl (pa_cons (pv 3) pa_nil))))
          (pss_one ps_never)
          pss_nil)))
      (pss_cons (ps_if (pt_cmpR op_gt (pe_callB call_nlen rfl T.b_len (by decide +kernel) (pa_cons (pv 2) pa_nil)) (C8.pe_gc rfl T.v_MOST_DEEDS) (nomark _))
        (pss_one ps_never)
        pss_nil)
      (pss_one (ps_ret (pe_cm (m_Plan T) hr (by decide) rfl (pa_cons (pe_callTy call_ntuple rfl T.b_tuple (by decide +kernel) (pa_cons (pv 2) pa_nil)) pa_nil))))))))), ?_⟩
  walk_at "st"
  have hsz := sizeLine_eq
  have pl := planL_len o hl
  have hem : decide (tx (planL ds) = Str.ofString "") = decide (ds = []) := by
    rw [show Str.ofString "" = tx [] from rfl, tx_eq]
    rcases ds with _ | ⟨d, ds⟩
    · rfl
    · refine (decide_eq_false fun e => ?_).trans (decide_eq_false (by simp)).symm
      have hn := (o d (List.mem_cons_self ..)).sign.2.2
      rcases ds with _ | ⟨d2, ds⟩
      · exact hn e
      · exact hn (List.append_eq_nil_iff.mp e).1
  walk_at "go"
  rw [hem]
  refine if2 (fun e => ?_) (fun e => ?_)
  · have e := of_decide_eq_true e
    subst e
    walk_at "go"
    exact ⟨rfl, fun p H' s' n' hP => k p H' s' n' hP⟩
  · have hne := of_decide_eq_false e
    walk_at "go"
    refine g_spl (u := planL ds) (v := [10]) rfl (by decide +kernel) (by simp) (by decide) (by omega) ?_
    have hs : TL.spl [10] 0 [] (planL ds) = ds.map ddL := TL.spl_join (by simpa using hne) fun p hp => by
      obtain ⟨y, hy, rfl⟩ := List.mem_map.mp hp
      exact fun z => (o y hy).sign.1 10 z rfl
    rw [hs]
    walk_at "go"
    rename_i p1 H1 n1 s1 h1
    refine lc_ref walk_list (fun i v H => ∃ d, ds[i]? = some d ∧ DeedAt K H v d) (fun i y H H' e ⟨d, h1, h2⟩ => ⟨d, h1, h2.mono e⟩) (fun i y H H' D xs hD b ⟨d, h1, h2⟩ => ⟨d, h1, DeedAt.but b hD h2⟩) (by simp only [List.length_map]; omega) (fun H' s' => SqL.of (s' _ _ h1)) ?_ ?_
    · rintro i v H2 H3 kk hi s2 ⟨rfl, hv⟩ hk
      rw [List.length_map, List.length_map] at hi
      rw [List.getElem?_map, List.getElem?_map, List.getElem?_eq_getElem hi] at hv
      have ev := (Option.some.inj hv).symm
      subst ev
      refine g_name ⟨rfl, ?_⟩
      walk_at "go"
      exact u_read_deed (o _ (List.getElem_mem hi)) fun v H' s' hd => hk v H' s' ⟨_, List.getElem?_eq_getElem hi, hd⟩
    · intro p2 H2 ys n2 s2 h2 ly hy
      rw [List.length_map, List.length_map] at ly
      have pr : Paired (DeedAt K H2) ys ds := pr_of ly fun i a b h1 h2 => by
        obtain ⟨d, h3, h4⟩ := hy i a h1
        rw [h2] at h3
        cases h3
        exact h4
      walk_at "go"
      refine for_w walk_en (fun i σ' H' => Same H2 H' ∧ ∃ x y, σ' = [some (.str (tx (planL ds))), x, some (.ref p2), y]) ⟨Same.refl _, none, none, rfl⟩ (fun i σ' H' _ z => SqL.of (z.1 _ _ h2)) ?_ ?_
      · rintro i v σ' H3 H4 hi ⟨s3, x, y, rfl⟩ ⟨U, z, rfl, nU, s4, hU, hz⟩
        obtain ⟨d, hd, hdd⟩ := pr_get pr hz
        walk_at "go"
        refine u_is_deed (hdd.mono (s3.trans s4)) (o d (List.mem_of_getElem? hd)) fun H5 s5 => ?_
        walk_at "go"
        exact ⟨(s3.trans s4).trans s5, _, _, rfl⟩
      · rintro σ' H3 ⟨s3, x, y, rfl⟩
        have h3 := s3 _ _ h2
        walk_at "go"
        rename_i q H5 s5 h5
        exact u_Plan ⟨ys, h5, PySem.Paired.mono (fun _ _ h => DeedAt.mono (s3.trans s5) h) pr⟩ hl o fun p H' s' n' hP => k p H' ((((s1.trans s2).trans s3).trans s5).trans s') ((((s1.trans s2).trans s3).trans s5).free n') hP
end
end RL
set_option maxHeartbeats 2000000
/-! roundline: {..}.get(k, x); try with several classes where nothing is raised; xs[::k] -/
namespace RL
open PySem PySem.Spec PyProof.Rows L2
section
variable {X : Cx} {e f : Expr} {ty tx : TE} {apos cpos dpos : Pos} {keys : List (Option Expr)} {values : List Expr} {trs : List (TE × TE)}
def nDG (kvs : List (Key × V)) (ty tx : TE) : TE := fun σ H Q => ∀ p H1, H p = none → Same H H1 → H1 p = some (.dK kvs) → ty σ H1 fun y H2 => tx σ H2 fun z H3 => H3 p = some (.dK kvs) ∧ ∃ k, y = kV k ∧ Q ((valV kvs k).getD z) H3
theorem pe_ndget (hu : X.A.units + 1 < cLine) (kvs : List (Key × V)) (h : PPs X dpos keys values trs) (hp : ∀ σ H (Q : List (V × V) → Hp → Prop), Q (kvs.map fun kv => (kV kv.1, kv.2)) H → tPairs trs σ H Q) (hm : mergeK [] kvs = kvs) (hl : kvs.length ≤ 15)
    (he : PE X e ty) (hf : PE X f tx) (m : M2 X (.Dict keys values dpos) "get" apos e f cpos) (h1 : keys.all (·.isSome) = true := by rfl) (h2 : keys.length = values.length := by rfl) (h3 : keys ≠ [] := by intro z; cases z) (h4 : keys.length ≤ 15 := by decide) :
    PE X (.Call (.Attribute (.Dict keys values dpos) "get" apos) [e, f] [] cpos) (nDG kvs ty tx) := by
  refine PEi (pe_dget2 hu (pe_disp h h1 h2 h3 h4) (pe_m he) (pe_m hf) m) fun σ H Q q p hp0 => hp σ _ _ ⟨upd_same, kvs, rfl, hl, p, rfl, .inl ⟨kvs, .inl ?_⟩, _, q p _ hp0 (fun b o e => ?_) ?_, fun y H2 q2 => ⟨_, q2, fun z H3 ⟨e, k, ey, qq⟩ => ⟨_, by rw [ey]; exact DGet.k e, qq⟩⟩⟩
  · rw [upd_same, hm]
  · rw [upd_ne (ne_of_none e hp0), upd_ne (ne_of_none e hp0)]
    exact e
  · rw [upd_same, hm]
end
section
variable {σ : L2.St} {H : Hp} {Q : VK} {ty tx : TE} {kvs : List (Key × V)}
theorem g_dg (h : ∀ p H1, H p = none → Same H H1 → H1 p = some (.dK kvs) → ty σ H1 fun y H2 => tx σ H2 fun z H3 => H3 p = some (.dK kvs) ∧ ∃ k, y = kV k ∧ Q ((valV kvs k).getD z) H3) : nDG kvs ty tx σ H Q := h
end
section
variable {X : Cx} {body : List Stmt} {h0 : ExceptHandler} {hds : List ExceptHandler} {pos : Pos} {tb : TS}
/-- a try whose body lets nothing out -/
theorem ps_tryC (hs : X.stack = X.env :: X.outer) (hf : X.env.frame = some X.env.locals)
    (hb : ∀ (pn : List (Addr × Obj)) (xe : Value → Shared → Prop), PassesOwn (model X.prog X.w) X.A X.env xe → PSs (X.tr pn xe) body tb) : PS X (.Try body (h0 :: hds) [] [] pos) tb := by
  refine ⟨fun pins s σ H D I h => ?_⟩
  have ok := I.ok
  refine wpAny_Try_except ?_
  refine wpAny_mono ((hb (X.pn ++ pins) (fun u z => wpAny (model X.prog X.w) X.A (noteFrame u X.env) (fun _ z2 => wpAny (model X.prog X.w) X.A (setFlight u none) (fun _ z3 =>
    wpAny (model X.prog X.w) X.A (handleBy u X.env (h0 :: hds)) (SP X pins D) X.xe z3) X.xe z2) X.xe z) PassesOwn.looking).run [] s σ H D (I.toTry _) h) (fun fl s1 hsp => ?_) (fun _ _ he => he)
  cases fl with
  | next =>
    obtain ⟨σ1, H1, J, q⟩ := hsp
    exact wpAny_execs_nil ⟨σ1, H1, J.ofTry ok, q⟩
  | brk =>
    obtain ⟨σ1, H1, J, q⟩ := hsp
    exact ⟨σ1, H1, J.ofTry ok, q⟩
  | cont =>
    obtain ⟨σ1, H1, J, q⟩ := hsp
    exact ⟨σ1, H1, J.ofTry ok, q⟩
  | ret u =>
    obtain ⟨v, σ1, H1, J, r, q⟩ := hsp
    exact ⟨v, σ1, H1, J.ofTry ok, r, q⟩
end
section
variable {X : Cx} {a b : Expr} {ta tb : TE} {rest : List Expr} {pos : Pos} {σ : L2.St} {H : Hp} {Q : VK} {K : PySem.W.Frag}
def vOr (K : PySem.W.Frag) (tb : TE) (σ : L2.St) (Q : VK) (x : V) (H : Hp) : Prop := ∃ k, TruV K x H k ∧ if k = true then Q x H else tb σ H Q
def nOrT (K : PySem.W.Frag) (ta tb : TE) : TE := fun σ H Q => ta σ H (vOr K tb σ Q)
theorem pe_norT (ha : PE X a ta) (hb : PE X (.BoolOp .Or (b :: rest) pos) tb) : PE X (.BoolOp .Or (a :: b :: rest) pos) (nOrT X.K ta tb) := pe_orT ha hb
theorem g_orT (h : ta σ H (vOr K tb σ Q)) : nOrT K ta tb σ H Q := h
theorem g_orv {z : Str} (l : z.length ≤ sizeLine) (q : if ((z.length : Int) != 0) = true then Q (.str z) H else tb σ H Q) : vOr K tb σ Q (.str z) H := ⟨_, ⟨l, rfl⟩, q⟩
end
theorem pt_ntruthK {X : Cx} {K : PySem.W.Frag} {a : Expr} {ta : TE} (h : X.K = K) (ha : PE X a ta) (he : ∀ whole, isTrue a X.env whole = (do let v ← whole; standAt a.pos; holding [v] (truthy v))) : PT X a (nTru K ta) := by
  subst h
  exact pt_ntruth ha he
end RL
set_option maxHeartbeats 4000000
namespace RL
open PySem PySem.Spec PyProof.Rows L2
local macro_rules | `(tactic| walk_at "hp") => `(tactic| first
  | assumption
  | ((with_reducible refine' SqT.of ?gz); (case gz => walk_at "hp"))
  | ((with_reducible refine' SqL.of ?gz); (case gz => walk_at "hp"))
  | ((with_reducible refine' Same.seqT (by assumption) ?gz); (case gz => walk_at "hp"))
  | ((with_reducible refine' Same.seq (by assumption) ?gz); (case gz => walk_at "hp"))
  | ((with_reducible refine' s_at (by assumption) ?gz); (case gz => walk_at "hp"))
  | ((with_reducible refine' dp_mono (by assumption) ?gz); (case gz => walk_at "hp")))
local macro_rules | `(tactic| walk_at "sm") => `(tactic| first
  | assumption
  | exact Same.refl _
  | (with_reducible refine Same.trans ?_ (by assumption); walk_at "sm"))
local macro_rules | `(tactic| walk_at "st") => `(tactic| try dsimp only [cxOf, L2.Cx.nox, L2.Cx.wish])
local macro_rules | `(tactic| walk_at "sz") => `(tactic| (have := sizeLine_eq; (try simp only [List.length_append, List.length_map, List.length_take, List.length_drop, List.length_cons, List.length_nil]); omega))
local macro_rules | `(tactic| walk_at "lk") => `(tactic| fail)
local macro_rules | `(tactic| walk_at "goB") => `(tactic| fail)
local macro_rules | `(tactic| walk_at "goT") => `(tactic| fail)
local macro_rules | `(tactic| walk_at "goA") => `(tactic| first
  | (with_reducible first
    | refine ifT rfl ?_
    | refine ifF rfl ?_)
  | ((with_reducible refine' g_gtup ?gh ?gl ?gk); (case gh => walk_at "hp"); (case gl => rfl))
  | ((with_reducible refine' g_ixT ?gh ?gl ?gk); (case gh => walk_at "hp"); (case gl => first | rfl | assumption))
  | ((with_reducible refine' g_ixL ?gh ?gl ?gk); (case gh => walk_at "hp"); (case gl => first | rfl | assumption))
  | ((with_reducible refine' g_lenT ?gh ?gk); (case gh => walk_at "hp"))
  | ((with_reducible refine' g_lenL ?gh ?gk); (case gh => walk_at "hp"))
  | ((with_reducible refine' g_inT ?gh ?gf ?gl ?gk); (case gh => walk_at "hp"); (case gf => rfl); (case gl => rfl))
  | ((with_reducible refine' g_isi (d := true) ?gh ?gl ?gk); (case gh => first | exact ty_tup (by walk_at "hp") | exact .base (.int _) | exact .base (.str _)); (case gl => exact kit_ty (by decide +kernel)))
  | ((with_reducible refine' g_isi (d := false) ?gh ?gl ?gk); (case gh => first | exact ty_tup (by walk_at "hp") | exact .base (.int _) | exact .base (.str _)); (case gl => exact kit_ty (by decide +kernel)))
  | ((with_reducible refine' g_new ?gl ?gk); (case gl => first | exact Nat.le_of_ble_eq_true rfl | walk_at "sz"))
  | ((with_reducible refine' g_ilstv ?gh ?gk); (case gh => walk_at "hp"))
  | ((with_reducible refine' g_itupv ?gh ?gk); (case gh => walk_at "hp"))
  | ((with_reducible refine' g_ienumv ?gh ?gk); (case gh => walk_at "hp"))
  | ((with_reducible refine' g_ienTv ?gh ?gk); (case gh => walk_at "hp"))
  | ((with_reducible refine' g_slT ?gh ?gk); (case gh => walk_at "hp"); intro _ _ _ _)
  | ((with_reducible refine' g_slL ?gh ?gk); (case gh => walk_at "hp"))
  | ((with_reducible refine' g_catT ?gh ?gl ?gm ?gk); (case gh => walk_at "hp"); (case gl => walk_at "hp"); (case gm => walk_at "sz"); intro _ _ _ _)
  | ((with_reducible refine' g_catL ?gh ?gl ?gm ?gk); (case gh => walk_at "hp"); (case gl => walk_at "hp"); (case gm => walk_at "sz"))
  | ((with_reducible refine' g_tupL ?gh ?gk); (case gh => walk_at "hp"); intro _ _ _ _)
  | ((with_reducible refine' g_tupT ?gh ?gk); (case gh => walk_at "hp"); intro _ _ _ _)
  | ((with_reducible refine' g_starT ?gh ?gk); (case gh => walk_at "hp"))
  | ((with_reducible refine' g_starL ?gh ?gk); (case gh => walk_at "hp"))
  | ((with_reducible refine' g_tyL ?gh ?gk); (case gh => walk_at "hp"))
  | ((with_reducible refine' g_app ?gh ?gl ?gk); (case gh => walk_at "hp"); (case gl => walk_at "sz"))
  | ((with_reducible refine' g_inL ?gh ?gf ?gl ?gk); (case gh => walk_at "hp"); (case gf => rfl); (case gl => first | rfl | assumption))
  | ((with_reducible refine' g_irng1v ?gh ?gl ?gk); (case gh => omega); (case gl => omega))
  | ((with_reducible refine' g_irng2v ?gh ?gk); (case gh => omega))
  | ((with_reducible refine g_NewT ?_); intro _ _ _ _ _)
  | ((with_reducible refine' g_fldv ?gh ?gc ?gn ?gl ?gk); (case gh => walk_at "hp"); (case gc => assumption); (case gn => assumption); (case gl => first | rfl | walk_at "lk"))
  | ((with_reducible refine' g_fldw ?gh ?gc ?gn ?gl ?gk); (case gh => walk_at "hp"); (case gc => assumption); (case gn => assumption); (case gl => exact Nat.le_of_ble_eq_true rfl))
  | ((with_reducible refine' g_own2 ?gh ?gl ?gk); (case gh => walk_at "hp"); (case gl => walk_at "hp"))
  | ((with_reducible refine' g_own1 ?gh ?gk); (case gh => walk_at "hp"))
  | ((with_reducible refine' g_ownI ?gh ?gk); (case gh => walk_at "hp"))
  | ((with_reducible refine' g_recv ?gh ?gl ?gk); (case gh => walk_at "hp"); (case gl => walk_at "lk"))
  | ((with_reducible refine' g_lenS ?gh ?gk); (case gh => (have := sizeLine_eq; omega)))
  | ((with_reducible refine' ifT ?gh ?gk); (case gh => first | exact decide_eq_true (by omega) | exact nf (decide_eq_false (by omega)) | decide +kernel))
  | ((with_reducible refine' ifF ?gh ?gk); (case gh => first | exact decide_eq_false (by omega) | exact nt (decide_eq_true (by omega)) | decide +kernel)))
local macro_rules | `(tactic| walk_at "go1") => `(tactic| first
  | (with_reducible first
    | refine g_var rfl ?_
    | refine g_op ?_
    | refine g_cons ?_
    | refine g_nil ?_
    | refine g_c ?_
    | refine g_cb ?_
    | refine g_call ?_
    | refine g_seq ?_
    | refine g_asg ?_
    | refine g_name ?_
    | refine g_fld ?_
    | refine g_meth ?_
    | refine g_ifS ?_
    | refine g_if ?_
    | refine g_ret ?_
    | refine g_test ?_
    | refine g_tB ?_
    | refine g_bl ?_
    | refine g_and ?_
    | refine g_or ?_
    | refine g_not ?_
    | refine g_andV ?_
    | refine g_orV ?_
    | refine g_notV ?_
    | refine g_chain ?_
    | refine g_un ?_
    | refine g_ntup ?_
    | refine g_nlst ?_
    | refine g_drop ?_
    | refine g_next ?_
    | refine g_par ?_
    | refine g_par3 ?_
    | refine g_e2 ?_
    | refine g_e3 ?_
    | refine g_retN ?_
    | refine g_gcons ?_
    | refine g_gnil ?_
    | refine g_rI0 ?_
    | refine g_rU ?_
    | refine g_rSS ?_
    | refine g_rBB ?_
    | refine g_sib ?_
    | refine g_sii ?_
    | refine g_lc ?_
    | refine g_for ?_
    | refine g_istr ?_
    | refine g_istrv ?_
    | refine g_ilst ?_
    | refine g_itup ?_
    | refine g_irng1 ?_
    | refine g_irng2 ?_
    | refine g_ienum ?_
    | refine g_abs ?_
    | refine g_mx ?_
    | refine g_mn ?_
    | refine g_isN ?_
    | refine g_inC ?_
    | refine g_nfld ?_
    | refine g_ienT ?_
    | refine g_sl ?_
    | refine g_np ?_
    | refine g_pt ?_
    | refine g_ptv ?_
    | refine g_star ?_
    | refine g_bmL ?_)
  | walk_at "goA"
  | walk_at "goT"
  | walk_at "goB")
local macro_rules | `(tactic| walk_at "go") => `(tactic| repeat walk_at "go1")
local macro_rules | `(tactic| walk_at "tl") => `(tactic| first | (with_reducible exact tx_lt _) | exact (SX.S_tl _).symm | exact rfl)
local macro_rules | `(tactic| walk_at "ts") => `(tactic| (have := sizeLine_eq; (try simp only [tx_len, List.length_append, List.length_cons, List.length_nil]); first | omega | (decide +kernel)))
local macro_rules | `(tactic| walk_at "goT") => `(tactic| first
  | (with_reducible first
    | refine g_m0 ?_
    | refine g_m1 ?_
    | refine g_str ?_
    | refine g_starts ?_
    | refine g_ends ?_
    | refine g_isdig ?_
    | refine g_js ?_
    | refine g_nt ?_
    | refine g_jsn ?_
    | refine g_jsc ?_
    | refine g_fmt ?_)
  | ((with_reducible refine' g_slS ?gh ?gk); (case gh => walk_at "ts"))
  | ((with_reducible refine' g_jsv ?ge ?gn ?gk); (case ge => walk_at "tl"); (case gn => walk_at "ts"))
  | ((with_reducible refine' g_fmtS ?gn ?gk); (case gn => walk_at "ts"))
  | ((with_reducible refine' g_addS ?ge ?gf ?gn ?gk); (case ge => walk_at "tl"); (case gf => walk_at "tl"); (case gn => walk_at "ts"))
  | ((with_reducible refine' g_tru ?gn ?gk); (case gn => walk_at "ts"))
  | ((with_reducible refine' g_truT ?gh ?gk); (case gh => walk_at "hp"))
  | ((with_reducible refine' g_unl ?gh ?gl ?gk); (case gh => walk_at "hp"); (case gl => rfl)))
local macro_rules | `(tactic| walk_at "lk") => `(tactic| first | exact lk_row | exact lk_no (by decide +kernel))
def B5 (i : Int) : Prop := i.natAbs < 10 ^ 500
theorem B5.log {i : Int} (h : B5 i) : i.natAbs.log2 < 1920 := log500 h
theorem B5.len {i : Int} (h : B5 i) : (numZ i).length ≤ 501 := numZ_len (by decide) h
local macro_rules | `(tactic| walk_at "goB") => `(tactic| first
  | ((with_reducible refine' g_fmtI ?gl ?gk); (case gl => first | exact B5.log (by assumption) | exact B5.log (by rw [B5, Int.natAbs_neg]; assumption)))
  | ((with_reducible refine' g_dg ?gk); intro _ _ _ _ _))
theorem valV2 {k1 k2 k : Key} {v1 v2 z : V} : (valV [(k1, v1), (k2, v2)] k).getD z = if k1 = k then v1 else if k2 = k then v2 else z := by
  unfold valV
  rw [List.find?_cons, List.find?_cons, List.find?_nil]
  by_cases h1 : k1 = k
  · rw [if_pos h1, decide_eq_true h1]
    rfl
  · rw [if_neg h1, decide_eq_false h1]
    by_cases h2 : k2 = k
    · rw [if_pos h2, decide_eq_true h2]
      rfl
    · rw [if_neg h2, decide_eq_false h2]
      rfl
section
variable {P : Program} {w : World} {K : PySem.W.Frag} {mg : Str → Option Value} {base : Heap}
/-! forms as texts -/
def headL (b : Int) : List Nat := if b = 1 then lt "d" else if b = -1 then lt "-d" else numZ b ++ lt "d"
def sumL (a b : Int) : List Nat := if b = 0 then numZ a else if a = 0 then headL b else if 0 < a then headL b ++ lt " + " ++ numZ a else headL b ++ lt " - " ++ numZ (-a)
def formL (f : F3) : List Nat := if f.2.2 = 1 then sumL f.1 f.2.1 else lt "(" ++ sumL f.1 f.2.1 ++ lt ") / " ++ numZ f.2.2
theorem headL_len {b : Int} (h : B5 b) : (headL b).length ≤ 502 := by
  have := h.len
  have l1 : (lt "d").length = 1 := by decide +kernel
  have l2 : (lt "-d").length = 2 := by decide +kernel
  unfold headL
  split
  · omega
  · split
    · omega
    · rw [List.length_append]
      omega
theorem sumL_len {a b : Int} (ha : B5 a) (hb : B5 b) : (sumL a b).length ≤ 1010 := by
  have h1 := ha.len
  have h2 := headL_len hb
  have h3 : (numZ (-a)).length ≤ 501 := numZ_len (by decide) (by rw [Int.natAbs_neg]; exact ha)
  have l1 : (lt " + ").length = 3 := by decide +kernel
  have l2 : (lt " - ").length = 3 := by decide +kernel
  unfold sumL
  split
  · omega
  · split
    · omega
    · split <;> (simp only [List.length_append]; omega)
def sp_sum_text : Sp := fun vs H Q _ => ∃ a b, vs = [.int a, .int b] ∧ B5 a ∧ B5 b ∧ ∀ H', Same H H' → Q (.str (tx (sumL a b))) H'
theorem u_sum_text {a b : Int} {H : Hp} {Q : VK} {E : XK} (h1 : B5 a) (h2 : B5 b) (k : ∀ H', Same H H' → Q (.str (tx (sumL a b))) H') : sp_sum_text [.int a, .int b] H Q E := ⟨a, b, rfl, h1, h2, k⟩
theorem sc_sum_text : FnScope ["a", "b", "head"] ["a", "b"] (defScope s_sum_text) := C8.fnScope_by (by decide +kernel)
theorem c_sum_text (T : Tx K mg) : C8.Cal P w K mg base 1 "sum_text" sp_sum_text [] := by
  refine calD T.d_sum_text T.g_sum_text (fun _ _ _ _ _ _ us hl => match us, hl with | [_, _], _ => rfl) sc_sum_text (fun vs H Q E ⟨_, _, e, _⟩ => by rw [e]; rfl) fun fd cdv A outer s H vs Q E hr h => ?_
  obtain ⟨a, b, rfl, ha, hb, k⟩ := h
  refine ⟨_, (pss_cons (ps_if (pt_cmpR op_eqI (pv 1) pe_int (nomark _))
        (pss_one (ps_ret (pe_callTy call_strX rfl T.b_str (by decide +kernel) (pa_cons (pv 0) pa_nil))))
        pss_nil)
      (pss_cons (ps_set (i := 2) sc_sum_text.nd rfl (Or.inl rfl) (pe_ndget (hu_of hr) [(.inl (1), .str "d"), (.inl (-1), .str "-d")] (pps_cons pe_int pe_str (pps_cons (pe_un un_neg pe_int) pe_str pps_nil)) (fun _ _ _ q => ⟨1, rfl, q⟩) rfl (by decide) (pv 1) (pe_njoined (.cons (pe_fmt (pv 1)) (.cons pe_str .nil))) ⟨rfl, rfl, rfl, rfl⟩))
      (pss_cons (ps_if (pt_cmpR op_eqI (pv 0) pe_int (nomark _))
        (pss_one (ps_ret (pv 2)))
        pss_nil)
      (pss_one (ps_ret (pe_ifExp (pt_cmpR op_gt (pv 0) pe_int (nomark _)) (pe_njoined (.cons (pe_fmt (pv 2)) (.cons pe_str (.cons (pe_fmt (pv 0)) .nil)))) (pe_njoined (.cons (pe_fmt (pv 2)) (.cons pe_str (.cons (pe_fmt (pe_un un_neg (pv 0))) .nil)))))))))), ?_⟩
  walk_at "st"
  have hsz := sizeLine_eq
  have l1 := ha.len
  have l2 := hb.len
  have l3 := headL_len hb
  have l4 : (numZ (-a)).length ≤ 501 := numZ_len (by decide) (by rw [Int.natAbs_neg]; exact ha)
  have l5 : (lt " + ").length = 3 := by decide +kernel
  have l6 : (lt " - ").length = 3 := by decide +kernel
  have l7 : (lt "d").length = 1 := by decide +kernel
  walk_at "go"
  have u0 : ∀ P : Prop, [Decidable P] → P → decide P = true := fun _ _ h => decide_eq_true h
  refine if2 (fun e => ?_) (fun e => ?_)
  · have e := of_decide_eq_true e
    walk_at "go"
    refine g_strX ha.log ?_
    show Q (.str (Str.ofString (toString a))) _
    rw [str_num]
    have := k H (Same.refl _)
    unfold sumL at this
    rw [if_pos e] at this
    exact this
  · have e0 := of_decide_eq_false e
    walk_at "go"
    rename_i p1 H1 n1 s1 h1
    refine ⟨h1, .inl b, rfl, ?_⟩
    rw [valV2]
    have eh : (if (Sum.inl 1 : Key) = .inl b then V.str "d" else if (Sum.inl (-1) : Key) = .inl b then V.str "-d" else V.str (tx ([] ++ (tx (numZ b)).cps.toList ++ lt "d"))) = V.str (tx (headL b)) := by
      unfold headL
      by_cases c1 : b = 1
      · subst c1
        rfl
      · rw [if_neg (fun e => c1 (Sum.inl.inj e).symm), if_neg c1]
        by_cases c2 : b = -1
        · subst c2
          rfl
        · rw [if_neg (fun e => c2 (Sum.inl.inj e).symm), if_neg c2]
          rfl
    rw [eh]
    have hk := k H1 s1
    unfold sumL at hk
    rw [if_neg e0] at hk
    walk_at "go"
    refine if2 (fun e => ?_) (fun e => ?_)
    · have e := of_decide_eq_true e
      rw [if_pos e] at hk
      walk_at "go"
      exact hk
    · have e1 := of_decide_eq_false e
      rw [if_neg e1] at hk
      walk_at "go"
      refine if2 (fun e => ?_) (fun e => ?_)
      · have e := of_decide_eq_true e
        rw [if_pos e] at hk
        walk_at "go"
        rw [List.nil_append]
        exact hk
      · have e2 := of_decide_eq_false e
        rw [if_neg e2] at hk
        walk_at "go"
        rw [List.nil_append]
        exact hk
local macro_rules | `(tactic| walk_at "goB") => `(tactic| ((with_reducible refine' u_sum_text ?ga ?gb ?gk); (case ga => assumption); (case gb => assumption); intro _ _))
def sp_form_text (K : PySem.W.Frag) : Sp := fun vs H Q _ => ∃ p f, vs = [.ref p] ∧ FormAt K H p f ∧ B5 f.1 ∧ B5 f.2.1 ∧ B5 f.2.2 ∧ ∀ H', Same H H' → Q (.str (tx (formL f))) H'
theorem u_form_text {p : Addr} {f : F3} {H : Hp} {Q : VK} {E : XK} (h : FormAt K H p f) (h1 : B5 f.1) (h2 : B5 f.2.1) (h3 : B5 f.2.2) (k : ∀ H', Same H H' → Q (.str (tx (formL f))) H') : sp_form_text K [.ref p] H Q E := ⟨p, f, rfl, h, h1, h2, h3, k⟩
theorem sc_form_text : FnScope ["form", "a", "b", "q"] ["form"] (defScope s_form_text) := C8.fnScope_by (by decide +kernel)
theorem c_form_text (T : Tx K mg) : C8.Cal P w K mg base 2 "form_text" (sp_form_text K) [] := by
  refine calD T.d_form_text T.g_form_text (fun _ _ _ _ _ _ us hl => match us, hl with | [_], _ => rfl) sc_form_text (fun vs H Q E ⟨_, _, e, _⟩ => by rw [e]; rfl) fun fd cdv A outer s H vs Q E hr h => ?_
  obtain ⟨p, ⟨a, b, q⟩, rfl, ⟨dx, t, hp, ht⟩, ha, hb, hq, k⟩ := h
  refine ⟨_, (pss_cons (ps_asg (C8.pe_mt0 (c_Form_parts T) hr (by decide) (pv 0)) (pg_tup rfl (pgs_cons (pg_name (i := 1) sc_form_text.nd rfl (Or.inl rfl)) (pgs_cons (pg_name (i := 2) sc_form_text.nd rfl (Or.inl rfl)) (pgs_cons (pg_name (i := 3) sc_form_text.nd rfl (Or.inl rfl)) pgs_nil)))))
      (pss_one (ps_ret (pe_ifExp (pt_cmpR op_eqI (pv 3) pe_int (nomark _)) (C8.pe_c (c_sum_text T) hr (by decide) rfl (pa_cons (pv 1) (pa_cons (pv 2) pa_nil))) (pe_njoined (.cons pe_str (.cons (pe_fmt (C8.pe_c (c_sum_text T) hr (by decide) rfl (pa_cons (pv 1) (pa_cons (pv 2) pa_nil)))) (.cons pe_str (.cons (pe_fmt (pv 3)) .nil))))))))), ?_⟩
  walk_at "st"
  have hsz := sizeLine_eq
  have l1 := sumL_len ha hb
  have l2 := hq.len
  have l5 : (lt "(").length = 1 := by decide +kernel
  have l6 : (lt ") / ").length = 4 := by decide +kernel
  dsimp only at ha hb hq ht l1 l2
  walk_at "go"
  refine u_Form_parts hp ?_
  walk_at "go"
  refine if2 (fun e => ?_) (fun e => ?_)
  · have e := of_decide_eq_true e
    walk_at "go"
    rename_i H1 s1
    have hk := k H1 s1
    unfold formL at hk
    rw [if_pos e] at hk
    exact hk
  · have e := of_decide_eq_false e
    walk_at "go"
    rename_i H1 s1
    have hk := k H1 s1
    unfold formL at hk
    rw [if_neg e] at hk
    rw [List.nil_append]
    exact hk
/-! read_head -/
def initL (b : Int) : List Nat := if b = 1 then [] else if b = -1 then [45] else numZ b
theorem head_init (b : Int) : headL b = initL b ++ [100] := by
  have h1 : lt "d" = [100] := by decide +kernel
  have h2 : lt "-d" = [45] ++ [100] := by decide +kernel
  unfold headL initL
  rw [h1, h2]
  split
  · rfl
  · split <;> rfl
theorem rd_init {b : Int} (h : B5 b) : RdN (initL b) (if b = 1 then .non else if b = -1 then .non else .int b) := by
  have := h.len
  unfold initL
  by_cases c1 : b = 1
  · rw [if_pos c1, if_pos c1]
    exact .inr ⟨.inl rfl, rfl⟩
  · rw [if_neg c1, if_neg c1]
    by_cases c2 : b = -1
    · rw [if_pos c2, if_pos c2]
      exact .inr ⟨.inr rfl, rfl⟩
    · rw [if_neg c2, if_neg c2]
      exact .inl ⟨b, rfl, by omega, rfl⟩
theorem num_last (a : Int) : ∃ r c, numZ a = r ++ [c] ∧ c ≠ 100 := by
  rcases List.eq_nil_or_concat (numZ a) with e | ⟨r, c, e⟩
  · exact absurd e (numZ_ne a)
  · rw [List.concat_eq_append] at e
    refine ⟨r, c, e, fun z => ?_⟩
    have := numZ_sign (i := a) (c := 100) (by rw [e, z]; exact List.mem_append_right _ (List.mem_cons_self ..))
    omega
theorem key_d (b : Int) : ((Sum.inr (Str.ofString "d") : Key) = .inr (tx (headL b)) ↔ b = 1) ∧ ((Sum.inr (Str.ofString "-d") : Key) = .inr (tx (headL b)) ↔ b = -1) := by
  have h1 : Str.ofString "d" = tx ([] ++ [100]) := by decide +kernel
  have h2 : Str.ofString "-d" = tx ([45] ++ [100]) := by decide +kernel
  have hn : ∀ b, numZ b ≠ [45] := fun b e => by
    unfold numZ at e
    split at e
    · exact TL.numL_ne _ (List.cons.inj e).2
    · have := TL.numL_digits b.natAbs 45 (by rw [e]; exact List.mem_cons_self ..)
      omega
  rw [h1, h2, head_init]
  constructor
  · constructor
    · intro e
      have e1 := List.append_cancel_right (tx_inj (Sum.inr.inj e))
      unfold initL at e1
      split at e1
      · assumption
      · split at e1
        · cases e1
        · exact absurd e1.symm (numZ_ne b)
    · intro e
      subst e
      rfl
  · constructor
    · intro e
      have e1 := List.append_cancel_right (tx_inj (Sum.inr.inj e))
      unfold initL at e1
      split at e1
      · cases e1
      · split at e1
        · assumption
        · exact absurd e1.symm (hn b)
    · intro e
      subst e
      rfl
def sp_read_head (K : PySem.W.Frag) : Sp := fun vs H Q _ => ∃ l a b, vs = [.str (tx l)] ∧ B5 a ∧ B5 b ∧ ((l = numZ a ∧ b = 0) ∨ (l = headL b ∧ a = 0)) ∧ ∀ p H', Same H H' → SqT K H' p [.int a, .int b] → Q (.ref p) H'
theorem u_read_headA {a : Int} {H : Hp} {Q : VK} {E : XK} (h : B5 a) (k : ∀ p H', Same H H' → SqT K H' p [.int a, .int 0] → Q (.ref p) H') : sp_read_head K [.str (tx (numZ a))] H Q E := ⟨numZ a, a, 0, rfl, h, (show (0 : Int).natAbs < 10 ^ 500 from Nat.pow_pos (by decide)), .inl ⟨rfl, rfl⟩, k⟩
theorem u_read_headB {b : Int} {H : Hp} {Q : VK} {E : XK} (h : B5 b) (k : ∀ p H', Same H H' → SqT K H' p [.int 0, .int b] → Q (.ref p) H') : sp_read_head K [.str (tx (headL b))] H Q E := ⟨headL b, 0, b, rfl, (show (0 : Int).natAbs < 10 ^ 500 from Nat.pow_pos (by decide)), h, .inr ⟨rfl, rfl⟩, k⟩
theorem sc_read_head : FnScope ["word"] ["word"] (defScope s_read_head) := C8.fnScope_by (by decide +kernel)
theorem c_read_head (T : Tx K mg) : C8.Cal P w K mg base 2 "read_head" (sp_read_head K) [] := by
  refine calD T.d_read_head T.g_read_head (fun _ _ _ _ _ _ us hl => match us, hl with | [_], _ => rfl) sc_read_head (fun vs H Q E ⟨_, _, _, e, _⟩ => by rw [e]; rfl) fun fd cdv A outer s H vs Q E hr h => ?_
  obtain ⟨l, a, b, rfl, ha, hb, h, k⟩ := h
  refine ⟨_, (pss_cons (ps_if (pt_not (pt_val (pe_m1 PySem.F.slot_str_endswith PySem.F.type_str_endswith mt_nendswith (pv 0) pe_str)))
        (pss_one (ps_ret (pe_ntup (pa_cons (C8.pe_c (c_read_number T) hr (by decide) rfl (pa_cons (pv 0) pa_nil)) (pa_cons pe_int pa_nil)))))
        pss_nil)
      (pss_one (ps_ret (pe_ntup (pa_cons pe_int (pa_cons (pe_ndget (hu_of hr) [(.inr "d", .int (1)), (.inr "-d", .int (-1))] (pps_cons pe_str pe_int (pps_cons pe_str (pe_un un_neg pe_int) pps_nil)) (fun _ _ _ q => ⟨1, rfl, q⟩) rfl (by decide) (pv 0) (C8.pe_c (c_read_number T) hr (by decide) rfl (pa_cons (pe_slice C8.sl_txt (pv 0) po_none (po_some (pe_un un_neg pe_int))) pa_nil)) ⟨rfl, rfl, rfl, rfl⟩) pa_nil)))))), ?_⟩
  walk_at "st"
  have hsz := sizeLine_eq
  have ed : Str.ofString "d" = tx [100] := by decide +kernel
  have l1 := ha.len
  have l2 := headL_len hb
  rcases h with ⟨rfl, rfl⟩ | ⟨rfl, rfl⟩
  · obtain ⟨r, c, e, nc⟩ := num_last a
    have en : Txt.endswith (tx (numZ a)) (Str.ofString "d") = false := by
      rw [ed, e, ends1]
      exact decide_eq_false nc
    walk_at "go"
    rw [en]
    walk_at "go"
    refine u_read_number (.inl ⟨a, rfl, by omega, rfl⟩) ?_
    walk_at "go"
    rename_i p1 H1 n1 s1 h1
    exact k p1 H1 s1 (SqT.of h1)
  · have en : Txt.endswith (tx (headL b)) (Str.ofString "d") = true := by
      rw [ed, head_init, ends1]
      rfl
    have es : Txt.slice (tx (headL b)) none (some (-1)) = tx (initL b) := by
      rw [head_init]
      exact SX.butlast_snoc _ _
    walk_at "go"
    rw [en]
    walk_at "go"
    rename_i p1 H1 n1 s1 h1
    rw [es]
    refine u_read_number (rd_init hb) ?_
    refine ⟨h1, .inr (tx (headL b)), rfl, ?_⟩
    rw [valV2]
    have ev : (if (Sum.inr (Str.ofString "d") : Key) = .inr (tx (headL b)) then V.int 1 else if (Sum.inr (Str.ofString "-d") : Key) = .inr (tx (headL b)) then V.int (-1) else (if b = 1 then V.non else if b = -1 then .non else .int b)) = .int b := by
      by_cases c1 : b = 1
      · rw [if_pos ((key_d b).1.mpr c1), c1]
      · rw [if_neg fun z => c1 ((key_d b).1.mp z), if_neg c1]
        by_cases c2 : b = -1
        · rw [if_pos ((key_d b).2.mpr c2), c2]
        · rw [if_neg fun z => c2 ((key_d b).2.mp z), if_neg c2]
    rw [ev]
    walk_at "go"
    rename_i p2 H2 n2 s2 h2
    exact k p2 H2 (s1.trans s2) (SqT.of h2)
/-! read_sum -/
theorem numZ_sp (a : Int) : 32 ∉ numZ a := numZ_free (by decide) (by decide)
theorem headL_sp (b : Int) : 32 ∉ headL b := fun z => by
  rw [head_init] at z
  rcases List.mem_append.mp z with z | z
  · unfold initL at z
    split at z
    · cases z
    · split at z
      · exact absurd (List.mem_singleton.mp z) (by decide)
      · exact numZ_sp b z
  · exact absurd (List.mem_singleton.mp z) (by decide)
def sp_read_sum (K : PySem.W.Frag) : Sp := fun vs H Q _ => ∃ a b, vs = [.str (tx (sumL a b))] ∧ B5 a ∧ B5 b ∧ ∀ p H', Same H H' → SqT K H' p [.int a, .int b] → Q (.ref p) H'
theorem u_read_sum {a b : Int} {H : Hp} {Q : VK} {E : XK} (h1 : B5 a) (h2 : B5 b) (k : ∀ p H', Same H H' → SqT K H' p [.int a, .int b] → Q (.ref p) H') : sp_read_sum K [.str (tx (sumL a b))] H Q E := ⟨a, b, rfl, h1, h2, k⟩
theorem sc_read_sum : FnScope ["words", "parts", "sign"] ["words"] (defScope s_read_sum) := C8.fnScope_by (by decide +kernel)
theorem c_read_sum (T : Tx K mg) : C8.Cal P w K mg base 3 "read_sum" (sp_read_sum K) [] := by
  refine calD T.d_read_sum T.g_read_sum (fun _ _ _ _ _ _ us hl => match us, hl with | [_], _ => rfl) sc_read_sum (fun vs H Q E ⟨_, _, e, _⟩ => by rw [e]; rfl) fun fd cdv A outer s H vs Q E hr h => ?_
  obtain ⟨a, b, rfl, ha, hb, k⟩ := h
  refine ⟨_, (pss_cons (ps_set (i := 1) sc_read_sum.nd rfl (Or.inl rfl) (pe_nsplit (pv 0) pe_str))
      (pss_cons (ps_if (pt_cmpR op_eqI (pe_callB call_nlen rfl T.b_len (by decide +kernel) (pa_cons (pv 1) pa_nil)) pe_int (nomark _))
        (pss_one (ps_ret (C8.pe_c (c_read_head T) hr (by decide) rfl (pa_cons (pv 0) pa_nil))))
        pss_nil)
      (pss_cons (ps_if (PW.pt (pw_or (pt_cmpR op_neI (pe_callB call_nlen rfl T.b_len (by decide +kernel) (pa_cons (pv 1) pa_nil)) pe_int (nomark _)) (pw_or1 (pt_cmpR op_notIn_seq (pe_ix ix_list (pv 1) pe_int (fun _ _ => rfl)) (pe_ntup (pa_cons pe_str (pa_cons pe_str pa_nil))) (by rfl)))))
        (pss_one (ps_ret (pe_ntup (pa_cons pe_non (pa_cons pe_non pa_nil)))))
        pss_nil)
      (pss_cons (ps_set (i := 2) sc_read_sum.nd rfl (Or.inl rfl) (pe_ifExp (pt_cmpR op_eqS (pe_ix ix_list (pv 1) pe_int (fun _ _ => rfl)) pe_str (nomark _)) pe_str pe_str))
      (pss_one (ps_ret (pe_ntup (pa_cons (C8.pe_c (c_read_number T) hr (by decide) rfl (pa_cons (pe_op op_naddS (pv 2) (pe_ix ix_list (pv 1) pe_int (fun _ _ => rfl))) pa_nil)) (pa_cons (pe_ix ix_tup (C8.pe_c (c_read_head T) hr (by decide) rfl (pa_cons (pe_ix ix_list (pv 1) pe_int (fun _ _ => rfl)) pa_nil)) pe_int (fun _ _ => rfl)) pa_nil))))))))), ?_⟩
  walk_at "st"
  have hsz := sizeLine_eq
  have l0 := sumL_len ha hb
  have l1 := ha.len
  have l2 := headL_len hb
  have l3 : (numZ (-a)).length ≤ 501 := numZ_len (by decide) (by rw [Int.natAbs_neg]; exact ha)
  have fr : ∀ l : List Nat, 32 ∉ l → TL.spl [32] 0 [] l = [l] := fun l h => by
    have := TL.spl_last1 (s := 32) (S := []) (p := l) (acc := []) h
    rwa [List.nil_append] at this
  walk_at "go"
  refine g_spl (u := sumL a b) (v := [32]) rfl (by decide +kernel) (by simp) (by decide) (by omega) ?_
  by_cases e0 : b = 0
  · subst e0
    have es : sumL a 0 = numZ a := if_pos rfl
    rw [es, fr _ (numZ_sp a)]
    walk_at "go"
    rename_i p1 H1 n1 s1 h1
    exact u_read_headA ha fun p H' s' h' => k p H' (s1.trans s') h'
  · by_cases e1 : a = 0
    · subst e1
      have es : sumL 0 b = headL b := by
        unfold sumL
        rw [if_neg e0, if_pos rfl]
      rw [es, fr _ (headL_sp b)]
      walk_at "go"
      rename_i p1 H1 n1 s1 h1
      exact u_read_headB hb fun p H' s' h' => k p H' (s1.trans s') h'
    · by_cases e2 : 0 < a
      · have es : sumL a b = TL.joinL [32] [headL b, lt "+", numZ a] := by
          unfold sumL
          rw [if_neg e0, if_neg e1, if_pos e2]
          show headL b ++ lt " + " ++ numZ a = headL b ++ ([32] ++ (lt "+" ++ ([32] ++ numZ a)))
          rw [show lt " + " = [32] ++ (lt "+" ++ [32]) by decide +kernel]
          simp only [List.append_assoc]
        have hs : (TL.spl [32] 0 [] (sumL a b)).map (fun l => V.str (tx l)) = [.str (tx (headL b)), .str (Str.ofString "+"), .str (tx (numZ a))] := by
          rw [es, TL.spl_join (by simp)]
          · rfl
          · intro p hp
            rcases List.mem_cons.mp hp with rfl | hp
            · exact headL_sp b
            · rcases List.mem_cons.mp hp with rfl | hp
              · decide +kernel
              · rw [List.mem_singleton.mp hp]
                exact numZ_sp a
        rw [hs]
        walk_at "go"
        refine g_addS (l := lt "") (m := numZ a) rfl rfl (by
          have : (lt "").length ≤ 1 := by decide +kernel
          omega) ?_
        rw [show lt "" = [] from rfl, List.nil_append]
        walk_at "go"
        refine u_read_number (.inl ⟨a, rfl, by omega, rfl⟩) ?_
        walk_at "go"
        refine u_read_headB hb fun p3 H3 s3 h3 => ?_
        walk_at "go"
        rename_i p4 H4 n4 s4 h4
        exact k p4 H4 (by walk_at "sm") (SqT.of h4)
      · have e3 : a < 0 := by omega
        have es : sumL a b = TL.joinL [32] [headL b, lt "-", numZ (-a)] := by
          unfold sumL
          rw [if_neg e0, if_neg e1, if_neg e2]
          show headL b ++ lt " - " ++ numZ (-a) = headL b ++ ([32] ++ (lt "-" ++ ([32] ++ numZ (-a))))
          rw [show lt " - " = [32] ++ (lt "-" ++ [32]) by decide +kernel]
          simp only [List.append_assoc]
        have hs : (TL.spl [32] 0 [] (sumL a b)).map (fun l => V.str (tx l)) = [.str (tx (headL b)), .str (Str.ofString "-"), .str (tx (numZ (-a)))] := by
          rw [es, TL.spl_join (by simp)]
          · rfl
          · intro p hp
            rcases List.mem_cons.mp hp with rfl | hp
            · exact headL_sp b
            · rcases List.mem_cons.mp hp with rfl | hp
              · decide +kernel
              · rw [List.mem_singleton.mp hp]
                exact numZ_sp (-a)
        rw [hs]
        have em : lt "-" ++ numZ (-a) = numZ a := by
          rw [numZ_neg e3, numZ_pos (show 0 ≤ -a by omega), Int.natAbs_neg, show lt "-" = [45] by decide +kernel]
          rfl
        walk_at "go"
        refine g_addS (l := lt "-") (m := numZ (-a)) rfl rfl (by
          have : (lt "-").length ≤ 1 := by decide +kernel
          omega) ?_
        rw [em]
        walk_at "go"
        refine u_read_number (.inl ⟨a, rfl, by omega, rfl⟩) ?_
        walk_at "go"
        refine u_read_headB hb fun p3 H3 s3 h3 => ?_
        walk_at "go"
        rename_i p4 H4 n4 s4 h4
        exact k p4 H4 (by walk_at "sm") (SqT.of h4)
/-! read_form -/
theorem sumL_sign {a b c : Int} {x : Nat} (h : x ∈ sumL a b) : x ≠ 40 ∧ x ≠ 41 := by
  have hz : ∀ i : Int, x ∈ numZ i → x ≠ 40 ∧ x ≠ 41 := fun i h => by
    have := numZ_sign h
    omega
  have hh : ∀ b, x ∈ headL b → x ≠ 40 ∧ x ≠ 41 := fun b h => by
    rw [head_init] at h
    rcases List.mem_append.mp h with h | h
    · unfold initL at h
      split at h
      · cases h
      · split at h
        · rw [List.mem_singleton.mp h]
          decide
        · exact hz b h
    · rw [List.mem_singleton.mp h]
      decide
  have s1 : ∀ x ∈ lt " + ", x ≠ 40 ∧ x ≠ 41 := by decide +kernel
  have s2 : ∀ x ∈ lt " - ", x ≠ 40 ∧ x ≠ 41 := by decide +kernel
  unfold sumL at h
  split at h
  · exact hz a h
  · split at h
    · exact hh b h
    · split at h
      · rcases List.mem_append.mp h with h | h
        · rcases List.mem_append.mp h with h | h
          · exact hh b h
          · exact s1 x h
        · exact hz a h
      · rcases List.mem_append.mp h with h | h
        · rcases List.mem_append.mp h with h | h
          · exact hh b h
          · exact s2 x h
        · exact hz (-a) h
structure FOk (f : F3) : Prop where
  q0 : 0 < f.2.2
  n : nrm f.1 f.2.1 f.2.2 = f
  a : B5 f.1
  b : B5 f.2.1
  q : B5 f.2.2
theorem B5.pow {q : Int} (h : B5 q) (h0 : 0 < q) : q < 2 ^ 8000 := by
  have h1 : q.natAbs < 10 ^ 500 := h
  have h2 : (10 : Nat) ^ 500 ≤ 2 ^ 8000 := by decide +kernel
  have h3 : ((2 : Int) ^ 8000) = ((2 ^ 8000 : Nat) : Int) := by norm_cast
  rw [h3]
  generalize (2 : Nat) ^ 8000 = N at *
  generalize (10 : Nat) ^ 500 = M at *
  omega
def sp_read_form (K : PySem.W.Frag) : Sp := fun vs H Q _ => ∃ f, vs = [.str (tx (formL f))] ∧ FOk f ∧ ∀ p H', Same H H' → H p = none → FormAt K H' p f → Q (.ref p) H'
theorem u_read_form {f : F3} {H : Hp} {Q : VK} {E : XK} (h : FOk f) (k : ∀ p H', Same H H' → H p = none → FormAt K H' p f → Q (.ref p) H') : sp_read_form K [.str (tx (formL f))] H Q E := ⟨f, rfl, h, k⟩
theorem sc_read_form : FnScope ["text", "words", "divisor", "parted", "rest", "a", "b", "form"] ["text"] (defScope s_read_form) := C8.fnScope_by (by decide +kernel)
theorem c_read_form (T : Tx K mg) : C8.Cal P w K mg base 4 "read_form" (sp_read_form K) [] := by
  refine calD T.d_read_form T.g_read_form (fun _ _ _ _ _ _ us hl => match us, hl with | [_], _ => rfl) sc_read_form (fun vs H Q E ⟨_, e, _⟩ => by rw [e]; rfl) fun fd cdv A outer s H vs Q E hr h => ?_
  obtain ⟨⟨a, b, q⟩, rfl, ⟨q0, hn, ha, hb, hq⟩, k⟩ := h
  refine ⟨_, (pss_cons (ps_if (pt_not (pt_val (pe_callB call_isi rfl T.b_isinstance (by decide +kernel) (pa_cons (pv 0) (pa_cons (pe_ty (n := "str") rfl T.b_str (by decide +kernel)) pa_nil)))))
        (pss_one ps_never)
        pss_nil)
      (pss_cons (ps_par (i := 1) (j := 2) rfl sc_read_form.nd rfl rfl (by decide) rfl rfl (pa_cons (pv 0) (pa_cons pe_int pa_nil)) (by rfl))
      (pss_cons (ps_if (pt_val (pe_m1 PySem.F.slot_str_startswith PySem.F.type_str_startswith mt_nstartswith (pv 0) pe_str))
        (pss_cons (ps_asg (pe_npart (pe_slice C8.sl_txt (pv 0) (po_some pe_int) po_none) pe_str) (pg_tup rfl (pgs_cons (pg_name (i := 1) sc_read_form.nd rfl (Or.inl rfl)) (pgs_cons (pg_name (i := 3) sc_read_form.nd rfl (Or.inl rfl)) (pgs_cons (pg_name (i := 4) sc_read_form.nd rfl (Or.inl rfl)) pgs_nil)))))
        (pss_one (ps_set (i := 2) sc_read_form.nd rfl (Or.inl rfl) (pe_ifExp (pt_ntruth (pv 3) (by intro _; rfl)) (C8.pe_c (c_read_number T) hr (by decide) rfl (pa_cons (pv 4) pa_nil)) pe_non))))
        pss_nil)
      (pss_cons (ps_asg (C8.pe_c (c_read_sum T) hr (by decide) rfl (pa_cons (pv 1) pa_nil)) (pg_tup rfl (pgs_cons (pg_name (i := 5) sc_read_form.nd rfl (Or.inl rfl)) (pgs_cons (pg_name (i := 6) sc_read_form.nd rfl (Or.inl rfl)) pgs_nil))))
      (pss_cons (ps_if (PW.pt (pw_or (pt_cmpR op_nisN (pv 5) pe_non (nomark _)) (pw_or (pt_cmpR op_nisN (pv 6) pe_non (nomark _)) (pw_or (pt_cmpR op_nisN (pv 2) pe_non (nomark _)) (pw_or1 (pt_cmpR op_lt (pv 2) pe_int (nomark _)))))))
        (pss_one ps_never)
        pss_nil)
      (pss_cons (ps_set (i := 7) sc_read_form.nd rfl (Or.inl rfl) (pe_cm (m_Form T) hr (by decide) rfl (pa_cons (pv 5) (pa_cons (pv 6) (pa_cons (pv 2) pa_nil)))))
      (pss_cons (ps_if (pt_cmpR op_neS (C8.pe_c (c_form_text T) hr (by decide) rfl (pa_cons (pv 7) pa_nil)) (pv 0) (nomark _))
        (pss_one ps_never)
        pss_nil)
      (pss_one (ps_ret (pv 7)))))))))), ?_⟩
  walk_at "st"
  have hsz := sizeLine_eq
  dsimp only at q0 hn ha hb hq
  have q8 := hq.pow q0
  have l1 := sumL_len ha hb
  have l2 := hq.len
  have l5 : (lt "(").length = 1 := by decide +kernel
  have l6 : (lt ") / ").length = 4 := by decide +kernel
  have ep : Str.ofString "(" = tx [40] := by decide +kernel
  have hf : FormAt K H 0 (a, b, q) → True := fun _ => trivial
  walk_at "go"
  rw [ep, starts1]
  by_cases e : q = 1
  · have ef : formL (a, b, q) = sumL a b := if_pos e
    rw [ef]
    have nh : ((sumL a b).head? == some 40) = false := by
      cases z : sumL a b with
      | nil => rfl
      | cons x r =>
        have := (sumL_sign (a := a) (b := b) (c := 0) (x := x) (by rw [z]; exact List.mem_cons_self ..)).1
        simpa using this
    rw [nh]
    walk_at "go"
    refine u_read_sum ha hb fun p1 H1 s1 h1 => ?_
    subst e
    walk_at "go"
    refine u_Form (by decide) q8 fun p H' s' n' h' => ?_
    rw [hn] at h'
    walk_at "go"
    refine u_form_text h' ha hb hq fun H5 s5 => ?_
    rw [ef]
    walk_at "go"
    refine ifF (by rw [decide_eq_true rfl]; rfl) ?_
    walk_at "go"
    exact k p H5 ((s1.trans s').trans s5) (s1.free n') (h'.mono s5)
  · have ef : formL (a, b, q) = lt "(" ++ sumL a b ++ lt ") / " ++ numZ q := if_neg e
    have ef2 : formL (a, b, q) = 40 :: (sumL a b ++ lt ") / " ++ numZ q) := by
      rw [ef, show lt "(" = [40] by decide +kernel]
      simp only [List.append_assoc, List.cons_append, List.nil_append]
    have hp : Txt.partition (tx (sumL a b ++ lt ") / " ++ numZ q)) (Str.ofString ") / ") = (tx (sumL a b), Str.ofString ") / ", tx (numZ q)) := by
      have := TL.partition_app (y := Str.ofString ") / ") (s := 41) (S := [32, 47, 32]) (by decide +kernel) (a := tx (sumL a b)) (b := tx (numZ q)) fun z => (sumL_sign (a := a) (b := b) (c := 0) z).2 rfl
      rw [tx_lt, tx_cat, tx_cat] at this
      exact this
    have ls : (sumL a b ++ lt ") / " ++ numZ q).length ≤ 1600 := by
      simp only [List.length_append]
      omega
    rw [ef2]
    walk_at "go"
    rw [slice1]
    refine g_part (by decide +kernel) (by rw [tx_len]; omega) hp ?_
    walk_at "go"
    refine u_read_number (.inl ⟨q, rfl, by omega, rfl⟩) ?_
    walk_at "go"
    refine u_read_sum ha hb fun p1 H1 s1 h1 => ?_
    walk_at "go"
    refine u_Form q0 q8 fun p H' s' n' h' => ?_
    rw [hn] at h'
    walk_at "go"
    refine u_form_text h' ha hb hq fun H5 s5 => ?_
    rw [ef2]
    walk_at "go"
    refine ifF (by rw [decide_eq_true rfl]; rfl) ?_
    walk_at "go"
    have sx : Same H H5 := by walk_at "sm"
    exact k p H5 sx (Same.free (by walk_at "sm") n') (h'.mono s5)
end
end RL
set_option maxHeartbeats 4000000
namespace RL
open PySem PySem.Spec PyProof.Rows L2
local macro_rules | `(tactic| walk_at "hp") => `(tactic| first
  | assumption
  | ((with_reducible refine' SqT.of ?gz); (case gz => walk_at "hp"))
  | ((with_reducible refine' SqL.of ?gz); (case gz => walk_at "hp"))
  | ((with_reducible refine' Same.seqT (by assumption) ?gz); (case gz => walk_at "hp"))
  | ((with_reducible refine' Same.seq (by assumption) ?gz); (case gz => walk_at "hp"))
  | ((with_reducible refine' s_at (by assumption) ?gz); (case gz => walk_at "hp"))
  | ((with_reducible refine' dp_mono (by assumption) ?gz); (case gz => walk_at "hp")))
local macro_rules | `(tactic| walk_at "sm") => `(tactic| first
  | assumption
  | exact Same.refl _
  | (with_reducible refine Same.trans ?_ (by assumption); walk_at "sm"))
local macro_rules | `(tactic| walk_at "st") => `(tactic| try dsimp only [cxOf, L2.Cx.nox, L2.Cx.wish])
local macro_rules | `(tactic| walk_at "sz") => `(tactic| (have := sizeLine_eq; (try simp only [List.length_append, List.length_map, List.length_take, List.length_drop, List.length_cons, List.length_nil]); omega))
local macro_rules | `(tactic| walk_at "lk") => `(tactic| fail)
local macro_rules | `(tactic| walk_at "goB") => `(tactic| fail)
local macro_rules | `(tactic| walk_at "goT") => `(tactic| fail)
local macro_rules | `(tactic| walk_at "goA") => `(tactic| first
  | (with_reducible first
    | refine ifT rfl ?_
    | refine ifF rfl ?_)
  | ((with_reducible refine' g_gtup ?gh ?gl ?gk); (case gh => walk_at "hp"); (case gl => rfl))
  | ((with_reducible refine' g_ixT ?gh ?gl ?gk); (case gh => walk_at "hp"); (case gl => first | rfl | assumption))
  | ((with_reducible refine' g_ixL ?gh ?gl ?gk); (case gh => walk_at "hp"); (case gl => first | rfl | assumption))
  | ((with_reducible refine' g_lenT ?gh ?gk); (case gh => walk_at "hp"))
  | ((with_reducible refine' g_lenL ?gh ?gk); (case gh => walk_at "hp"))
  | ((with_reducible refine' g_inT ?gh ?gf ?gl ?gk); (case gh => walk_at "hp"); (case gf => rfl); (case gl => rfl))
  | ((with_reducible refine' g_isi (d := true) ?gh ?gl ?gk); (case gh => first | exact ty_tup (by walk_at "hp") | exact .base (.int _) | exact .base (.str _)); (case gl => exact kit_ty (by decide +kernel)))
  | ((with_reducible refine' g_isi (d := false) ?gh ?gl ?gk); (case gh => first | exact ty_tup (by walk_at "hp") | exact .base (.int _) | exact .base (.str _)); (case gl => exact kit_ty (by decide +kernel)))
  | ((with_reducible refine' g_new ?gl ?gk); (case gl => first | exact Nat.le_of_ble_eq_true rfl | walk_at "sz"))
  | ((with_reducible refine' g_ilstv ?gh ?gk); (case gh => walk_at "hp"))
  | ((with_reducible refine' g_itupv ?gh ?gk); (case gh => walk_at "hp"))
  | ((with_reducible refine' g_ienumv ?gh ?gk); (case gh => walk_at "hp"))
  | ((with_reducible refine' g_ienTv ?gh ?gk); (case gh => walk_at "hp"))
  | ((with_reducible refine' g_slT ?gh ?gk); (case gh => walk_at "hp"); intro _ _ _ _)
  | ((with_reducible refine' g_slL ?gh ?gk); (case gh => walk_at "hp"))
  | ((with_reducible refine' g_catT ?gh ?gl ?gm ?gk); (case gh => walk_at "hp"); (case gl => walk_at "hp"); (case gm => walk_at "sz"); intro _ _ _ _)
  | ((with_reducible refine' g_catL ?gh ?gl ?gm ?gk); (case gh => walk_at "hp"); (case gl => walk_at "hp"); (case gm => walk_at "sz"))
  | ((with_reducible refine' g_tupL ?gh ?gk); (case gh => walk_at "hp"); intro _ _ _ _)
  | ((with_reducible refine' g_tupT ?gh ?gk); (case gh => walk_at "hp"); intro _ _ _ _)
  | ((with_reducible refine' g_starT ?gh ?gk); (case gh => walk_at "hp"))
  | ((with_reducible refine' g_starL ?gh ?gk); (case gh => walk_at "hp"))
  | ((with_reducible refine' g_tyL ?gh ?gk); (case gh => walk_at "hp"))
  | ((with_reducible refine' g_app ?gh ?gl ?gk); (case gh => walk_at "hp"); (case gl => walk_at "sz"))
  | ((with_reducible refine' g_inL ?gh ?gf ?gl ?gk); (case gh => walk_at "hp"); (case gf => rfl); (case gl => first | rfl | assumption))
  | ((with_reducible refine' g_irng1v ?gh ?gl ?gk); (case gh => omega); (case gl => omega))
  | ((with_reducible refine' g_irng2v ?gh ?gk); (case gh => omega))
  | ((with_reducible refine g_NewT ?_); intro _ _ _ _ _)
  | ((with_reducible refine' g_fldv ?gh ?gc ?gn ?gl ?gk); (case gh => walk_at "hp"); (case gc => assumption); (case gn => assumption); (case gl => first | rfl | walk_at "lk"))
  | ((with_reducible refine' g_fldw ?gh ?gc ?gn ?gl ?gk); (case gh => walk_at "hp"); (case gc => assumption); (case gn => assumption); (case gl => exact Nat.le_of_ble_eq_true rfl))
  | ((with_reducible refine' g_own2 ?gh ?gl ?gk); (case gh => walk_at "hp"); (case gl => walk_at "hp"))
  | ((with_reducible refine' g_own1 ?gh ?gk); (case gh => walk_at "hp"))
  | ((with_reducible refine' g_ownI ?gh ?gk); (case gh => walk_at "hp"))
  | ((with_reducible refine' g_recv ?gh ?gl ?gk); (case gh => walk_at "hp"); (case gl => walk_at "lk"))
  | ((with_reducible refine' g_lenS ?gh ?gk); (case gh => (have := sizeLine_eq; omega)))
  | ((with_reducible refine' ifT ?gh ?gk); (case gh => first | exact decide_eq_true (by omega) | exact nf (decide_eq_false (by omega)) | decide +kernel))
  | ((with_reducible refine' ifF ?gh ?gk); (case gh => first | exact decide_eq_false (by omega) | exact nt (decide_eq_true (by omega)) | decide +kernel)))
local macro_rules | `(tactic| walk_at "go1") => `(tactic| first
  | (with_reducible first
    | refine g_var rfl ?_
    | refine g_op ?_
    | refine g_cons ?_
    | refine g_nil ?_
    | refine g_c ?_
    | refine g_cb ?_
    | refine g_call ?_
    | refine g_seq ?_
    | refine g_asg ?_
    | refine g_name ?_
    | refine g_fld ?_
    | refine g_meth ?_
    | refine g_ifS ?_
    | refine g_if ?_
    | refine g_ret ?_
    | refine g_test ?_
    | refine g_tB ?_
    | refine g_bl ?_
    | refine g_and ?_
    | refine g_or ?_
    | refine g_not ?_
    | refine g_andV ?_
    | refine g_orV ?_
    | refine g_notV ?_
    | refine g_chain ?_
    | refine g_un ?_
    | refine g_ntup ?_
    | refine g_nlst ?_
    | refine g_drop ?_
    | refine g_next ?_
    | refine g_par ?_
    | refine g_par3 ?_
    | refine g_e2 ?_
    | refine g_e3 ?_
    | refine g_retN ?_
    | refine g_gcons ?_
    | refine g_gnil ?_
    | refine g_rI0 ?_
    | refine g_rU ?_
    | refine g_rSS ?_
    | refine g_rBB ?_
    | refine g_sib ?_
    | refine g_sii ?_
    | refine g_lc ?_
    | refine g_for ?_
    | refine g_istr ?_
    | refine g_istrv ?_
    | refine g_ilst ?_
    | refine g_itup ?_
    | refine g_irng1 ?_
    | refine g_irng2 ?_
    | refine g_ienum ?_
    | refine g_abs ?_
    | refine g_mx ?_
    | refine g_mn ?_
    | refine g_isN ?_
    | refine g_inC ?_
    | refine g_nfld ?_
    | refine g_ienT ?_
    | refine g_sl ?_
    | refine g_np ?_
    | refine g_pt ?_
    | refine g_ptv ?_
    | refine g_star ?_
    | refine g_bmL ?_)
  | walk_at "goA"
  | walk_at "goT"
  | walk_at "goB")
local macro_rules | `(tactic| walk_at "go") => `(tactic| repeat walk_at "go1")
local macro_rules | `(tactic| walk_at "tl") => `(tactic| first | (with_reducible exact tx_lt _) | exact (SX.S_tl _).symm | exact rfl)
local macro_rules | `(tactic| walk_at "ts") => `(tactic| (have := sizeLine_eq; (try simp only [tx_len, List.length_append, List.length_cons, List.length_nil]); first | omega | (decide +kernel)))
local macro_rules | `(tactic| walk_at "goT") => `(tactic| first
  | (with_reducible first
    | refine g_m0 ?_
    | refine g_m1 ?_
    | refine g_str ?_
    | refine g_starts ?_
    | refine g_ends ?_
    | refine g_isdig ?_
    | refine g_js ?_
    | refine g_nt ?_
    | refine g_jsn ?_
    | refine g_jsc ?_
    | refine g_fmt ?_)
  | ((with_reducible refine' g_slS ?gh ?gk); (case gh => walk_at "ts"))
  | ((with_reducible refine' g_jsv ?ge ?gn ?gk); (case ge => walk_at "tl"); (case gn => walk_at "ts"))
  | ((with_reducible refine' g_fmtS ?gn ?gk); (case gn => walk_at "ts"))
  | ((with_reducible refine' g_addS ?ge ?gf ?gn ?gk); (case ge => walk_at "tl"); (case gf => walk_at "tl"); (case gn => walk_at "ts"))
  | ((with_reducible refine' g_tru ?gn ?gk); (case gn => walk_at "ts"))
  | ((with_reducible refine' g_truT ?gh ?gk); (case gh => walk_at "hp"))
  | ((with_reducible refine' g_unl ?gh ?gl ?gk); (case gh => walk_at "hp"); (case gl => rfl)))
local macro_rules | `(tactic| walk_at "lk") => `(tactic| first | rfl | exact lk_no (by decide +kernel) | (simp [List.lookup]; done))
local macro_rules | `(tactic| walk_at "goB") => `(tactic| (with_reducible refine g_orT ?_))
theorem onF_mem {fl : List Bool} {k : Int} : k ∈ onF fl ↔ ∃ i : Nat, i < fl.length ∧ fl.getD i false = true ∧ k = (i : Int) := by
  unfold onF
  rw [List.mem_map]
  constructor
  · rintro ⟨i, hi, rfl⟩
    rw [List.mem_filter, List.mem_range] at hi
    exact ⟨i, hi.1, hi.2, rfl⟩
  · rintro ⟨i, h1, h2, rfl⟩
    exact ⟨i, List.mem_filter.mpr ⟨List.mem_range.mpr h1, h2⟩, rfl⟩
theorem onF_nodup (fl : List Bool) : (onF fl).Nodup := by
  unfold onF
  have h0 : ((List.range fl.length).filter fun i => fl.getD i false).Nodup := List.Pairwise.sublist (List.filter_sublist ..) List.nodup_range
  refine List.pairwise_map.mpr (List.Pairwise.imp (fun {a b} (h : a ≠ b) e => h (Int.ofNat.inj e)) h0)
theorem onF_len (fl : List Bool) : (onF fl).length ≤ fl.length := by
  unfold onF
  rw [List.length_map]
  have := List.length_filter_le (fun i => fl.getD i false) (List.range fl.length)
  rwa [List.length_range] at this
theorem ck_on (fl : List Bool) : ckF fl.length (onF fl) = fl := by
  unfold ckF
  refine List.ext_getElem (by rw [List.length_map, List.length_range]) fun i h1 h2 => ?_
  rw [List.getElem_map, List.getElem_range]
  have e : fl.getD i false = fl[i] := by rw [List.getD_eq_getElem?_getD, List.getElem?_eq_getElem h2]; rfl
  cases hf : fl[i] with
  | true => exact decide_eq_true (onF_mem.mpr ⟨i, h2, by rw [e, hf], rfl⟩)
  | false =>
    refine decide_eq_false fun z => ?_
    obtain ⟨j, _, hj, ej⟩ := onF_mem.mp z
    have : i = j := by omega
    subst this
    rw [e, hf] at hj
    cases hj
/-- a set that may be written and read -/
structure SOk (s : Ds) : Prop where
  ok : s.Ok
  l : s.fl.length ≤ 720
  x : s.xs.length < 64
  b : ∀ k ∈ s.xs, k.natAbs < 10 ^ 500
theorem asc_nodup {l : List Int} (h : l.Pairwise (· < ·)) : l.Nodup := h.imp fun h e => by omega
theorem SOk.arg {s : Ds} (h : SOk s) : Arg3 s.fl.length (onF s.fl) s.xs := by
  have p : 0 < s.fl.length := h.ok.canon.pos
  have l := h.l
  exact ⟨p, l, onF_nodup _, fun k hk => by
    obtain ⟨i, hi, _, rfl⟩ := onF_mem.mp hk
    omega, Nat.le_trans (onF_len _) (by omega), asc_nodup h.ok.asc, h.ok.pos, h.x⟩
theorem SOk.made {s t : Ds} (h : SOk s) (m : Made s.fl.length (onF s.fl) s.xs t) : t = s := by
  obtain ⟨js, L, pm, asc, lp, rfl⟩ := m
  rw [ck_on] at lp ⊢
  have e1 : js = s.xs := asc_eq asc h.ok.asc fun x => pm.mem_iff
  have e2 : L = s.fl.length := Nat.dvd_antisymm lp.dvd (h.ok.canon.min _ lp.per)
  subst e1 e2
  rw [List.take_length]
theorem small_b5 {n : Nat} (h : n ≤ 100000) : (n : Int).natAbs < 10 ^ 500 := by
  have : (100000 : Nat) < 10 ^ 500 := by decide +kernel
  show n < _
  exact Nat.lt_of_le_of_lt h this
theorem on_b5 {fl : List Bool} (h : fl.length ≤ 100000) : ∀ k ∈ onF fl, k.natAbs < 10 ^ 500 := fun k hk => by
  obtain ⟨i, hi, _, rfl⟩ := onF_mem.mp hk
  exact small_b5 (by omega)
def clsL (fl : List Bool) : List Nat := if onF fl = [] then lt "." else numsL (onF fl)
def setL (s : Ds) : List Nat := if s.xs = [] then clsL s.fl ++ lt " of " ++ numZ (s.fl.length : Int) else clsL s.fl ++ lt " of " ++ numZ (s.fl.length : Int) ++ lt " but " ++ numsL s.xs
theorem nums_nil {ks : List Int} : numsL ks = [] ↔ ks = [] := by
  constructor
  · intro h
    rcases ks with _ | ⟨k, _ | ⟨j, r⟩⟩
    · rfl
    · exact absurd h (numZ_ne k)
    · exact absurd (List.append_eq_nil_iff.mp h).1 (numZ_ne k)
  · intro h
    rw [h]
    rfl
section
variable {P : Program} {w : World} {K : PySem.W.Frag} {mg : Str → Option Value} {base : Heap}
/-- bounds under which a set's text is made -/
structure TOk (s : Ds) : Prop where
  l : s.fl.length ≤ 1000
  x : s.xs.length ≤ 1000
  b : ∀ k ∈ s.xs, k.natAbs < 10 ^ 500
theorem SOk.t {s : Ds} (h : SOk s) : TOk s := ⟨Nat.le_trans h.l (by decide), by have := h.x; omega, h.b⟩
def sp_set_text (K : PySem.W.Frag) : Sp := fun vs H Q _ => ∃ p s, vs = [.ref p] ∧ DstAt K H p s ∧ TOk s ∧ ∀ H', Same H H' → Q (.str (tx (setL s))) H'
theorem u_set_text {p : Addr} {s : Ds} {H : Hp} {Q : VK} {E : XK} (h : DstAt K H p s) (o : TOk s) (k : ∀ H', Same H H' → Q (.str (tx (setL s))) H') : sp_set_text K [.ref p] H Q E := ⟨p, s, rfl, h, o, k⟩
theorem sc_set_text : FnScope ["distances", "words", "changed"] ["distances"] (defScope s_set_text) := C8.fnScope_by (by decide +kernel)
theorem c_set_text (T : Tx K mg) : C8.Cal P w K mg base 2 "set_text" (sp_set_text K) [] := by
  refine calD T.d_set_text T.g_set_text (fun _ _ _ _ _ _ us hl => match us, hl with | [_], _ => rfl) sc_set_text (fun vs H Q E ⟨_, _, e, _⟩ => by rw [e]; rfl) fun fd cdv A outer s H vs Q E hr h => ?_
  obtain ⟨p, s, rfl, hD, o, k⟩ := h
  refine ⟨_, (pss_cons (ps_set (i := 1) sc_set_text.nd rfl (Or.inl rfl) (pe_njoined (.cons (pe_fmt (pe_norT (C8.pe_c (c_numbers_text T) hr (by decide) rfl (pa_cons (C8.pe_mt0 (c_Distances_classes T) hr (by decide) (pv 0)) pa_nil)) (pe_one pe_str))) (.cons pe_str (.cons (pe_fmt (C8.pe_mt0 (c_Distances_modulus T) hr (by decide) (pv 0))) .nil)))))
      (pss_cons (ps_set (i := 2) sc_set_text.nd rfl (Or.inl rfl) (C8.pe_mt0 (c_Distances_changed T) hr (by decide) (pv 0)))
      (pss_one (ps_ret (pe_ifExp (pt_ntruth (pv 2) (by intro _; rfl)) (pe_njoined (.cons (pe_fmt (pv 1)) (.cons pe_str (.cons (pe_fmt (C8.pe_c (c_numbers_text T) hr (by decide) rfl (pa_cons (pv 2) pa_nil))) .nil)))) (pv 1)))))), ?_⟩
  walk_at "st"
  have hsz := sizeLine_eq
  have ol := o.l
  have ox := o.x
  have on1 := onF_len s.fl
  have nl := numsL_len (ks := onF s.fl) (by omega) (on_b5 (by omega))
  have nx := numsL_len ox o.b
  have bl : (s.fl.length : Int).natAbs < 10 ^ 500 := small_b5 (by omega)
  have zl : (numZ (s.fl.length : Int)).length ≤ 501 := numZ_len (by decide) bl
  have l1 : (lt " of ").length = 4 := by decide +kernel
  have l2 : (lt " but ").length = 5 := by decide +kernel
  have l3 : (lt ".").length = 1 := by decide +kernel
  have cl : (clsL s.fl).length ≤ 600000 := by
    unfold clsL
    split <;> omega
  obtain ⟨dx, q, hp, hP⟩ := id hD
  walk_at "go"
  refine u_Distances_classes hD (by omega) fun t1 H1 s1 h1 => ?_
  walk_at "go"
  refine u_numbers_text h1 (by omega) (on_b5 (by omega)) fun H2 s2 => ?_
  refine g_orv (by rw [tx_len]; omega) ?_
  have s12 := s1.trans s2
  have hp2 := s12 _ _ hp
  have rest : vFmt (vJs [tC (.str (Str.ofString " of ")), tFmt (tMeth (He.ga K "Distances") "modulus" (sp_Distances_modulus K) [] C8.E0 (tVar 0) tNil)] (tx []) (L2.start ["distances", "words", "changed"] [V.ref p]) fun out H1 => gName 1 (V.str out) (L2.start ["distances", "words", "changed"] [V.ref p]) H1
      (tSeq (tAsg (tMeth (He.ga K "Distances") "changed" (sp_Distances_changed K) [] C8.E0 (tVar 0) tNil) (gName 2)) (tRet (tIf (nTru K (tVar 2)) (nJs [tFmt (tVar 1), tC (.str (Str.ofString " but ")), tFmt (tCall (sp_numbers_text K) [] C8.E0 (tCons (tVar 2) tNil))]) (tVar 1))) ⟨fun x H' => Q V.non H', Q, fun _ _ => False, fun _ _ => False⟩)) (.str (tx (clsL s.fl))) H2 := by
    walk_at "go"
    refine u_Distances_modulus (hD.mono s12) ?_
    refine g_fmtI (log500 bl) ?_
    walk_at "go"
    refine u_Distances_changed (hD.mono s12) fun t3 h3 => ?_
    walk_at "go"
    refine if2 (fun e => ?_) (fun e => ?_)
    · have hne : s.xs ≠ [] := fun z => by
        rw [z] at e
        cases e
      walk_at "go"
      refine u_numbers_text h3 ox o.b fun H4 s4 => ?_
      walk_at "go"
      have hk := k H4 (s12.trans s4)
      unfold setL at hk
      rw [if_neg hne] at hk
      rw [List.nil_append]
      exact hk
    · have he : s.xs = [] := by
        cases z : s.xs with
        | nil => rfl
        | cons a r =>
          rw [z] at e
          cases e
      walk_at "go"
      have hk := k H2 s12
      unfold setL at hk
      rw [if_pos he] at hk
      exact hk
  refine if2 (fun e => ?_) (fun e => ?_)
  · have hne : onF s.fl ≠ [] := fun z => by
      rw [z] at e
      exact absurd e (by decide +kernel)
    have ec : clsL s.fl = numsL (onF s.fl) := if_neg hne
    rw [ec] at rest
    exact rest
  · have he : onF s.fl = [] := by
      by_cases z : onF s.fl = []
      · exact z
      · have h1 : numsL (onF s.fl) ≠ [] := fun e => z (nums_nil.mp e)
        rw [tx_len] at e
        have h2 : (numsL (onF s.fl)).length ≠ 0 := fun e => h1 (List.eq_nil_of_length_eq_zero e)
        exact absurd (of_decide_eq_true (show decide (((numsL (onF s.fl)).length : Int) = 0) = true by simpa using e)) (by omega)
    have ec : clsL s.fl = lt "." := if_pos he
    rw [ec] at rest
    exact rest
theorem free_sp {c : Nat} {r : List Nat} (hc : c ≠ 32) : ∀ {p : List Nat}, c ∉ p → SX.free (32 :: c :: r) p = true
  | [], _ => rfl
  | a :: p, h => by
    have h2 : c ∉ p := fun z => h (List.mem_cons_of_mem _ z)
    show (!(TL.pre (32 :: c :: r) (a :: (p ++ 32 :: c :: r))) && SX.free (32 :: c :: r) p) = true
    rw [free_sp hc h2, Bool.and_true]
    have : TL.pre (32 :: c :: r) (a :: (p ++ 32 :: c :: r)) = false := by
      unfold TL.pre
      cases p with
      | nil =>
        show (a :: 32 :: _ == 32 :: c :: r) = false
        have : (32 == c) = false := by simpa using hc.symm
        simp [List.cons_beq_cons, this]
      | cons b q =>
        have hb : (b == c) = false := by
          have : b ≠ c := fun z => h (by rw [z]; exact List.mem_cons_of_mem _ (List.mem_cons_self ..))
          simpa using this
        show (a :: b :: _ == 32 :: c :: r) = false
        simp [List.cons_beq_cons, hb]
    rw [this]
    rfl
theorem nums_sign {ks : List Int} {c : Nat} (h : c ∈ numsL ks) : c = 32 ∨ c = 45 ∨ (48 ≤ c ∧ c ≤ 57) := by
  rcases joinL_mem h with h | ⟨p, hp, h⟩
  · exact .inl (List.mem_singleton.mp h)
  · obtain ⟨k, _, rfl⟩ := List.mem_map.mp hp
    exact .inr (numZ_sign h)
theorem cls_sign {fl : List Bool} {c : Nat} (h : c ∈ clsL fl) : c = 46 ∨ c = 32 ∨ c = 45 ∨ (48 ≤ c ∧ c ≤ 57) := by
  unfold clsL at h
  split at h
  · exact .inl (List.mem_singleton.mp (show c ∈ [46] from h))
  · exact .inr (nums_sign h)
def sp_set_of_text (K : PySem.W.Frag) : Sp := fun vs H Q _ => ∃ s, vs = [.str (tx (setL s))] ∧ SOk s ∧ ∀ p H', Same H H' → H p = none → DstAt K H' p s → Q (.ref p) H'
theorem u_set_of_text {s : Ds} {H : Hp} {Q : VK} {E : XK} (o : SOk s) (k : ∀ p H', Same H H' → H p = none → DstAt K H' p s → Q (.ref p) H') : sp_set_of_text K [.str (tx (setL s))] H Q E := ⟨s, rfl, o, k⟩
theorem sc_set_of_text : FnScope ["text", "head", "parted", "rest", "number", "parted_again", "tail", "classes", "found"] ["text"] (defScope s_set_of_text) := C8.fnScope_by (by decide +kernel)
theorem c_set_of_text (T : Tx K mg) : C8.Cal P w K mg base 9 "set_of_text" (sp_set_of_text K) [] := by
  refine calD T.d_set_of_text T.g_set_of_text (fun _ _ _ _ _ _ us hl => match us, hl with | [_], _ => rfl) sc_set_of_text (fun vs H Q E ⟨_, e, _⟩ => by rw [e]; rfl) fun fd cdv A outer s H vs Q E hr h => ?_
  obtain ⟨s, rfl, o, k⟩ := h
  refine ⟨_, (pss_cons (ps_asg (pe_npart (pv 0) pe_str) (pg_tup rfl (pgs_cons (pg_name (i := 1) sc_set_of_text.nd rfl (Or.inl rfl)) (pgs_cons (pg_name (i := 2) sc_set_of_text.nd rfl (Or.inl rfl)) (pgs_cons (pg_name (i := 3) sc_set_of_text.nd rfl (Or.inl rfl)) pgs_nil)))))
      (pss_cons (ps_asg (pe_npart (pv 3) pe_str) (pg_tup rfl (pgs_cons (pg_name (i := 4) sc_set_of_text.nd rfl (Or.inl rfl)) (pgs_cons (pg_name (i := 5) sc_set_of_text.nd rfl (Or.inl rfl)) (pgs_cons (pg_name (i := 6) sc_set_of_text.nd rfl (Or.inl rfl)) pgs_nil)))))
      (pss_cons (ps_set (i := 7) sc_set_of_text.nd rfl (Or.inl rfl) (pe_ifExp (pt_cmpR op_eqS (pv 1) pe_str (nomark _)) (pe_ntup pa_nil) (C8.pe_c (c_read_numbers T) hr (by decide) rfl (pa_cons (pv 1) pa_nil))))
      (pss_cons (ps_tryC rfl rfl fun _ _ _ => (pss_one (ps_set (i := 8) sc_set_of_text.nd rfl (Or.inl rfl) (pe_cm (m_Distances T) hr (by decide) rfl (pa_cons (C8.pe_c (c_read_number T) hr (by decide) rfl (pa_cons (pv 4) pa_nil)) (pa_cons (pv 7) (pa_cons (pe_ifExp (pt_ntruthK (K := K) rfl (pv 5) (by intro _; rfl)) (C8.pe_c (c_read_numbers T) hr (by decide) rfl (pa_cons (pv 6) pa_nil)) (pe_ntup pa_nil)) pa_nil)))))))
      (pss_one (ps_ret (pv 8))))))), ?_⟩
  walk_at "st"
  have hsz := sizeLine_eq
  have ot := o.t
  have ol := o.l
  have ox := o.x
  have on1 := onF_len s.fl
  have nl := numsL_len (ks := onF s.fl) (by omega) (on_b5 (by omega))
  have nx := numsL_len ot.x o.b
  have bl : (s.fl.length : Int).natAbs < 10 ^ 500 := small_b5 (by omega)
  have zl : (numZ (s.fl.length : Int)).length ≤ 501 := numZ_len (by decide) bl
  have l1 : (lt " of ").length = 4 := by decide +kernel
  have l2 : (lt " but ").length = 5 := by decide +kernel
  have l3 : (lt ".").length = 1 := by decide +kernel
  have cl : (clsL s.fl).length ≤ 600000 := by
    unfold clsL
    split <;> omega
  have eo : Str.ofString " of " = tx [32, 111, 102, 32] := by decide +kernel
  have eb : Str.ofString " but " = tx [32, 98, 117, 116, 32] := by decide +kernel
  have hof : ∀ q, Txt.partition (tx (clsL s.fl ++ (lt " of " ++ q))) (Str.ofString " of ") = (tx (clsL s.fl), Str.ofString " of ", tx q) := fun q => by
    rw [eo, show lt " of " = [32, 111, 102, 32] by decide +kernel]
    exact SX.partition_some (by simp) (SX.par_free q (by simp) (free_sp (by decide) fun z => by
      rcases cls_sign z with h | h | h | h <;> omega))
  have arg := o.arg
  -- what follows the parts
  have hdot : decide (tx (clsL s.fl) = Str.ofString ".") = decide (onF s.fl = []) := by
    rw [tx_lt, tx_eq]
    unfold clsL
    by_cases z : onF s.fl = []
    · rw [if_pos z, decide_eq_true rfl, decide_eq_true z]
    · rw [if_neg z, decide_eq_false z]
      refine decide_eq_false fun e => ?_
      have : (46 : Nat) ∈ numsL (onF s.fl) := by
        rw [e]
        decide +kernel
      rcases nums_sign this with h | h | h <;> omega
  by_cases e0 : s.xs = []
  · have es : setL s = clsL s.fl ++ (lt " of " ++ numZ (s.fl.length : Int)) := by
      unfold setL
      rw [if_pos e0, List.append_assoc]
    have hbut : Txt.partition (tx (numZ (s.fl.length : Int))) (Str.ofString " but ") = (tx (numZ (s.fl.length : Int)), Str.empty, Str.empty) := TL.partition_none (y := Str.ofString " but ") (s := 32) (S := [98, 117, 116, 32]) (by decide +kernel) (fun z => numZ_sp (s.fl.length : Int) z)
    rw [es]
    walk_at "go"
    refine g_part (by decide +kernel) (by rw [tx_len]; simp only [List.length_append]; omega) (hof _) ?_
    walk_at "go"
    refine g_part (by decide +kernel) (by rw [tx_len]; omega) hbut ?_
    walk_at "go"
    rw [hdot]
    refine if2 (fun e => ?_) (fun e => ?_)
    · have e := of_decide_eq_true e
      walk_at "go"
      rename_i pc Hc nc sc hc
      have hc2 : ∀ H', Same Hc H' → SqT K H' pc ((onF s.fl).map V.int) := fun H' s' => by
        rw [e]
        exact SqT.of (s' _ _ hc)
      refine u_read_number (.inl ⟨(s.fl.length : Int), rfl, by omega, rfl⟩) ?_
      walk_at "go"
      rename_i px Hx nx' sx hx
      refine u_Distances (cs := onF s.fl) (xs := s.xs) (hc2 _ sx) (by rw [e0]; exact SqT.of hx) arg fun p H' s' e1 n1 md hD => ?_
      have es2 := o.made md
      subst es2
      walk_at "go"
      have sa : Same H H' := by walk_at "sm"
      exact k p H' sa (Same.free (H' := Hx) (by walk_at "sm") n1) hD
    · have e := of_decide_eq_false e
      have ec : clsL s.fl = numsL (onF s.fl) := if_neg e
      rw [ec]
      walk_at "go"
      refine u_read_numbers e (by omega) (on_b5 (by omega)) fun pc Hc sc hc => ?_
      have hc2 : ∀ H', Same Hc H' → SqT K H' pc ((onF s.fl).map V.int) := fun H' s' => Same.seqT s' hc
      walk_at "go"
      refine u_read_number (.inl ⟨(s.fl.length : Int), rfl, by omega, rfl⟩) ?_
      walk_at "go"
      rename_i px Hx nx' sx hx
      refine u_Distances (cs := onF s.fl) (xs := s.xs) (hc2 _ sx) (by rw [e0]; exact SqT.of hx) arg fun p H' s' e1 n1 md hD => ?_
      have es2 := o.made md
      subst es2
      walk_at "go"
      have sa : Same H H' := by walk_at "sm"
      exact k p H' sa (Same.free (H' := Hx) (by walk_at "sm") n1) hD
  · have es : setL s = clsL s.fl ++ (lt " of " ++ (numZ (s.fl.length : Int) ++ lt " but " ++ numsL s.xs)) := by
      unfold setL
      rw [if_neg e0]
      simp only [List.append_assoc]
    have hbut : Txt.partition (tx (numZ (s.fl.length : Int) ++ lt " but " ++ numsL s.xs)) (Str.ofString " but ") = (tx (numZ (s.fl.length : Int)), Str.ofString " but ", tx (numsL s.xs)) := by
      have := TL.partition_app (y := Str.ofString " but ") (s := 32) (S := [98, 117, 116, 32]) (by decide +kernel) (a := tx (numZ (s.fl.length : Int))) (b := tx (numsL s.xs)) (fun z => numZ_sp (s.fl.length : Int) z)
      rw [tx_lt, tx_cat, tx_cat] at this
      exact this
    rw [es]
    walk_at "go"
    refine g_part (by decide +kernel) (by rw [tx_len]; simp only [List.length_append]; omega) (hof _) ?_
    walk_at "go"
    refine g_part (by decide +kernel) (by rw [tx_len]; simp only [List.length_append]; omega) hbut ?_
    walk_at "go"
    rw [hdot]
    refine if2 (fun e => ?_) (fun e => ?_)
    · have e := of_decide_eq_true e
      walk_at "go"
      rename_i pc Hc nc sc hc
      have hc2 : ∀ H', Same Hc H' → SqT K H' pc ((onF s.fl).map V.int) := fun H' s' => by
        rw [e]
        exact SqT.of (s' _ _ hc)
      refine u_read_number (.inl ⟨(s.fl.length : Int), rfl, by omega, rfl⟩) ?_
      walk_at "go"
      refine u_read_numbers e0 (by omega) o.b fun px Hx sx hx => ?_
      walk_at "go"
      refine u_Distances (cs := onF s.fl) (xs := s.xs) (hc2 _ sx) hx arg fun p H' s' e1 n1 md hD => ?_
      have es2 := o.made md
      subst es2
      walk_at "go"
      have sa : Same H H' := by walk_at "sm"
      exact k p H' sa (Same.free (H' := Hx) (by walk_at "sm") n1) hD
    · have e := of_decide_eq_false e
      have ec : clsL s.fl = numsL (onF s.fl) := if_neg e
      rw [ec]
      walk_at "go"
      refine u_read_numbers e (by omega) (on_b5 (by omega)) fun pc Hc sc hc => ?_
      have hc2 : ∀ H', Same Hc H' → SqT K H' pc ((onF s.fl).map V.int) := fun H' s' => Same.seqT s' hc
      walk_at "go"
      refine u_read_number (.inl ⟨(s.fl.length : Int), rfl, by omega, rfl⟩) ?_
      walk_at "go"
      refine u_read_numbers e0 (by omega) o.b fun px Hx sx hx => ?_
      walk_at "go"
      refine u_Distances (cs := onF s.fl) (xs := s.xs) (hc2 _ sx) hx arg fun p H' s' e1 n1 md hD => ?_
      have es2 := o.made md
      subst es2
      walk_at "go"
      have sa : Same H H' := by walk_at "sm"
      exact k p H' sa (Same.free (H' := Hx) (by walk_at "sm") n1) hD
/-! read_set -/
def sp_read_set (K : PySem.W.Frag) : Sp := fun vs H Q _ => ∃ s, vs = [.str (tx (setL s))] ∧ SOk s ∧ ∀ p H', Same H H' → H p = none → DstAt K H' p s → Q (.ref p) H'
theorem u_read_set {s : Ds} {H : Hp} {Q : VK} {E : XK} (o : SOk s) (k : ∀ p H', Same H H' → H p = none → DstAt K H' p s → Q (.ref p) H') : sp_read_set K [.str (tx (setL s))] H Q E := ⟨s, rfl, o, k⟩
theorem sc_read_set : FnScope ["text", "found"] ["text"] (defScope s_read_set) := C8.fnScope_by (by decide +kernel)
theorem c_read_set (T : Tx K mg) : C8.Cal P w K mg base 10 "read_set" (sp_read_set K) [] := by
  refine calD T.d_read_set T.g_read_set (fun _ _ _ _ _ _ us hl => match us, hl with | [_], _ => rfl) sc_read_set (fun vs H Q E ⟨_, e, _⟩ => by rw [e]; rfl) fun fd cdv A outer s H vs Q E hr h => ?_
  obtain ⟨s, rfl, o, k⟩ := h
  refine ⟨_, (pss_cons (ps_if (pt_not (pt_val (pe_callB call_isi rfl T.b_isinstance (by decide +kernel) (pa_cons (pv 0) (pa_cons (pe_ty (n := "str") rfl T.b_str (by decide +kernel)) pa_nil)))))
        (pss_one ps_never)
        pss_nil)
      (pss_cons (ps_set (i := 1) sc_read_set.nd rfl (Or.inl rfl) (C8.pe_c (c_set_of_text T) hr (by decide) rfl (pa_cons (pv 0) pa_nil)))
      (pss_cons (ps_if (pt_cmpR op_neS (C8.pe_c (c_set_text T) hr (by decide) rfl (pa_cons (pv 1) pa_nil)) (pv 0) (nomark _))
        (pss_one ps_never)
        pss_nil)
      (pss_one (ps_ret (pv 1)))))), ?_⟩
  walk_at "st"
  walk_at "go"
  refine u_set_of_text o fun p H1 s1 n1 hD => ?_
  walk_at "go"
  refine u_set_text hD o.t fun H2 s2 => ?_
  walk_at "go"
  refine ifF (by rw [decide_eq_true rfl]; rfl) ?_
  walk_at "go"
  exact k p H2 (s1.trans s2) n1 (hD.mono s2)
end
end RL
set_option maxHeartbeats 2000000
/-! roundline: the law's pot -/
namespace RL
open PySem PySem.Spec PyProof.Rows L2
def PotAt (H : Hp) (p : Addr) (r : Nat) : Prop := ∃ a b c : Int, H p = some (.lst [.int a, .int b, .int c]) ∧ 0 ≤ b ∧ b < 10 ^ 40 ∧ 0 ≤ c ∧ c + r ≤ 1000000
theorem PotAt.le {H : Hp} {p : Addr} {r s : Nat} (h : PotAt H p r) (l : s ≤ r := by omega) : PotAt H p s := by
  obtain ⟨a, b, c, h1, h2, h3, h4, h5⟩ := h
  exact ⟨a, b, c, h1, h2, h3, h4, by omega⟩
theorem PotAt.at {H : Hp} {p : Addr} {r : Nat} (h : PotAt H p r) : ∃ us, H p = some (.lst us) := let ⟨_, _, _, h, _⟩ := h; ⟨_, h⟩
theorem PotAt.same {H H' : Hp} {p : Addr} {r : Nat} (h : PotAt H p r) (s : Same H H') : PotAt H' p r := let ⟨a, b, c, h, k⟩ := h; ⟨a, b, c, s _ _ h, k⟩
theorem PotAt.but {H H' : Hp} {p D : Addr} {r : Nat} (h : PotAt H p r) (s : But D H H') (n : p ≠ D) : PotAt H' p r := let ⟨a, b, c, h, k⟩ := h; ⟨a, b, c, s _ _ n h, k⟩
theorem But.fr {H1 H H' : Hp} {p D : Addr} (h : But p H1 H) (n : H1 D = none) (b : But D H H') : But p H1 H' := fun c o nc e => b c o (ne_of_none e n) (h c o nc e)
theorem But.newD {H H1 : Hp} {p D : Addr} {o : HO} (b : But p H H1) (n : H1 D = none) : But p H (upd H1 D o) := fun c u nc e => by
  have := b c u nc e
  rw [upd_ne (ne_of_none this n)]
  exact this
section
variable {J : It} {n : Nat} {Y : Nat → Hp → V → Hp → Prop} {g : TG} {tt : TT} {te : TE} {vs : List Nat} {σ : L2.St} {H1 : Hp} {Q : VK}
theorem lc_inv (w : Walk J n (fun _ => True) Y) (p : Addr) (hp : ∃ o, H1 p = some o) (Iv : Nat → List V → Hp → Prop) (hn : n ≤ sizeLine) (hl : ∀ i l H, i ≤ n → Iv i l H → l.length ≤ i)
    (h0 : ∀ D, H1 D = none → Iv 0 [] (upd H1 D (.lst []))) (st : ∀ i l H H' D xs, H1 D = none → H D = some (.lst xs) → But D H H' → Iv i l H → Iv i l H')
    (turn : ∀ i x l H2 H3 (k : VK) (e : Hp → Prop), i < n → Iv i l H2 → Y i H2 x H3 → (∀ y H5, But p H2 H5 → Iv (i + 1) (l ++ [y]) H5 → k y H5) → (∀ H5, But p H2 H5 → Iv (i + 1) l H5 → e H5) →
      g x (wipe σ vs) H3 fun σ2 H4 => wipe σ2 vs = wipe σ vs ∧ tt σ2 H4 fun b H5 => if b = true then te σ2 H5 k else e H5)
    (done : ∀ q H2 l, H1 q = none → Iv n l H2 → H2 q = some (.lst l) → Q (.ref q) H2) : LcT J g tt te vs σ H1 Q := by
  intro D hD
  obtain ⟨o, ho⟩ := hp
  have pD : D ≠ p := fun e => by rw [e, ho] at hD; cases hD
  refine lc_it w (fun i H => ∃ l, H D = some (.lst l) ∧ Iv i l H) ⟨[], upd_same, h0 D hD⟩ (fun _ _ _ _ => trivial) ?_ ?_
  · rintro i x H2 H3 hi ⟨l, h2, iv⟩ hY
    refine turn i x l H2 H3 _ _ hi iv hY (fun y H5 b5 iv5 => ?_) fun H5 b5 iv5 => ⟨l, b5 D _ pD h2, iv5⟩
    have h5 := b5 D _ pD h2
    have := hl i l H2 (by omega) iv
    exact ⟨l, h5, by omega, l ++ [y], upd_same, st _ _ _ _ D _ hD h5 (But_new h5) iv5⟩
  · rintro H2 ⟨l, h2, iv⟩
    exact done D H2 l hD iv h2
end
section
variable {σ : L2.St} {H : Hp} {n : L2.St → Hp → Prop} {ta ti : TE} {v : V}
theorem g_gsub {f : TSet} (h : ta σ H fun x H1 => ti σ H1 fun i H2 => f x i v H2 (n σ)) : gSub ta ti f v σ H n := h
theorem g_set3 {p : Addr} {xs : List V} {k : Int} {j : Nat} {Q : Hp → Prop} (h : H p = some (.lst xs)) (e : ixN xs.length k = some j) (q : ChgT H p (.lst (xs.set j v)) Q) : rSetN (.ref p) (.int k) v H Q := ⟨p, xs, k, j, rfl, rfl, h, e, q⟩
end
theorem PotAt.ne {H : Hp} {p q : Addr} {r : Nat} (nq : H q = none) (h : PotAt H p r) : q ≠ p := fun e => by
  obtain ⟨us, hu⟩ := h.at
  rw [e, hu] at nq
  cases nq
theorem at_all {α : Type} {P : α → Prop} {xs : List α} (h : ∀ x ∈ xs, P x) {i : Int} (h0 : 0 ≤ i) (h1 : i < (xs.length : Int)) : ∃ v, atI xs i = some v ∧ P v := by
  obtain ⟨n, rfl⟩ := Int.eq_ofNat_of_zero_le h0
  have hn : n < xs.length := by omega
  exact ⟨xs[n], atI_nat (List.getElem?_eq_getElem hn), h _ (List.getElem_mem hn)⟩
theorem But.tupP {K : PySem.W.Frag} {H H2 : Hp} {p a : Addr} {r : Nat} {xs : List V} (b : But p H H2) (h : SqT K H a xs) (hp : PotAt H p r) : SqT K H2 a xs := by
  obtain ⟨us, hu⟩ := hp.at
  exact b.tup hu h
section
variable {σ : L2.St} {H : Hp} {Q : VK} {z : Str} {i : Int} {c : Nat}
theorem g_ixS (l : z.length ≤ sizeLine) (e : atI z.cps.toList i = some c) (q : Q (.str (tx [c])) H) : rIxS (.str z) (.int i) H Q := ⟨z, i, c, rfl, rfl, l, e, q⟩
end
theorem g_yes {σ : L2.St} {H : Hp} {te : TE} {k : VK} {e : Hp → Prop} (h : te σ H k) : tYes σ H fun b H5 => if b = true then te σ H5 k else e H5 := by
  show if true = true then te σ H k else e H
  rw [if_pos rfl]
  exact h
end RL
set_option maxHeartbeats 4000000
namespace RL
open PySem PySem.Spec PyProof.Rows L2
local macro_rules | `(tactic| walk_at "hp") => `(tactic| first
  | assumption
  | ((with_reducible refine' SqT.of ?gz); (case gz => walk_at "hp"))
  | ((with_reducible refine' SqL.of ?gz); (case gz => walk_at "hp"))
  | ((with_reducible refine' Same.seqT (by assumption) ?gz); (case gz => walk_at "hp"))
  | ((with_reducible refine' Same.seq (by assumption) ?gz); (case gz => walk_at "hp"))
  | ((with_reducible refine' s_at (by assumption) ?gz); (case gz => walk_at "hp"))
  | ((with_reducible refine' dp_mono (by assumption) ?gz); (case gz => walk_at "hp")))
local macro_rules | `(tactic| walk_at "sm") => `(tactic| first
  | assumption
  | exact Same.refl _
  | (with_reducible refine Same.trans ?_ (by assumption); walk_at "sm"))
local macro_rules | `(tactic| walk_at "st") => `(tactic| try dsimp only [cxOf, L2.Cx.nox, L2.Cx.wish])
local macro_rules | `(tactic| walk_at "sz") => `(tactic| (have := sizeLine_eq; (try simp only [List.length_append, List.length_map, List.length_take, List.length_drop, List.length_cons, List.length_nil]); omega))
local macro_rules | `(tactic| walk_at "lk") => `(tactic| fail)
local macro_rules | `(tactic| walk_at "goB") => `(tactic| fail)
local macro_rules | `(tactic| walk_at "goT") => `(tactic| fail)
local macro_rules | `(tactic| walk_at "goA") => `(tactic| first
  | (with_reducible first
    | refine ifT rfl ?_
    | refine ifF rfl ?_)
  | ((with_reducible refine' g_gtup ?gh ?gl ?gk); (case gh => walk_at "hp"); (case gl => rfl))
  | ((with_reducible refine' g_ixT ?gh ?gl ?gk); (case gh => walk_at "hp"); (case gl => first | rfl | assumption))
  | ((with_reducible refine' g_ixL ?gh ?gl ?gk); (case gh => walk_at "hp"); (case gl => first | rfl | assumption))
  | ((with_reducible refine' g_lenT ?gh ?gk); (case gh => walk_at "hp"))
  | ((with_reducible refine' g_lenL ?gh ?gk); (case gh => walk_at "hp"))
  | ((with_reducible refine' g_inT ?gh ?gf ?gl ?gk); (case gh => walk_at "hp"); (case gf => rfl); (case gl => rfl))
  | ((with_reducible refine' g_isi (d := true) ?gh ?gl ?gk); (case gh => first | exact ty_tup (by walk_at "hp") | exact .base (.int _) | exact .base (.str _)); (case gl => exact kit_ty (by decide +kernel)))
  | ((with_reducible refine' g_isi (d := false) ?gh ?gl ?gk); (case gh => first | exact ty_tup (by walk_at "hp") | exact .base (.int _) | exact .base (.str _)); (case gl => exact kit_ty (by decide +kernel)))
  | ((with_reducible refine' g_new ?gl ?gk); (case gl => first | exact Nat.le_of_ble_eq_true rfl | walk_at "sz"))
  | ((with_reducible refine' g_ilstv ?gh ?gk); (case gh => walk_at "hp"))
  | ((with_reducible refine' g_itupv ?gh ?gk); (case gh => walk_at "hp"))
  | ((with_reducible refine' g_ienumv ?gh ?gk); (case gh => walk_at "hp"))
  | ((with_reducible refine' g_ienTv ?gh ?gk); (case gh => walk_at "hp"))
  | ((with_reducible refine' g_slT ?gh ?gk); (case gh => walk_at "hp"); intro _ _ _ _)
  | ((with_reducible refine' g_slL ?gh ?gk); (case gh => walk_at "hp"))
  | ((with_reducible refine' g_catT ?gh ?gl ?gm ?gk); (case gh => walk_at "hp"); (case gl => walk_at "hp"); (case gm => walk_at "sz"); intro _ _ _ _)
  | ((with_reducible refine' g_catL ?gh ?gl ?gm ?gk); (case gh => walk_at "hp"); (case gl => walk_at "hp"); (case gm => walk_at "sz"))
  | ((with_reducible refine' g_tupL ?gh ?gk); (case gh => walk_at "hp"); intro _ _ _ _)
  | ((with_reducible refine' g_tupT ?gh ?gk); (case gh => walk_at "hp"); intro _ _ _ _)
  | ((with_reducible refine' g_starT ?gh ?gk); (case gh => walk_at "hp"))
  | ((with_reducible refine' g_starL ?gh ?gk); (case gh => walk_at "hp"))
  | ((with_reducible refine' g_tyL ?gh ?gk); (case gh => walk_at "hp"))
  | ((with_reducible refine' g_app ?gh ?gl ?gk); (case gh => walk_at "hp"); (case gl => walk_at "sz"))
  | ((with_reducible refine' g_inL ?gh ?gf ?gl ?gk); (case gh => walk_at "hp"); (case gf => rfl); (case gl => first | rfl | assumption))
  | ((with_reducible refine' g_irng1v ?gh ?gl ?gk); (case gh => omega); (case gl => omega))
  | ((with_reducible refine' g_irng2v ?gh ?gk); (case gh => omega))
  | ((with_reducible refine g_NewT ?_); intro _ _ _ _ _)
  | ((with_reducible refine' g_fldv ?gh ?gc ?gn ?gl ?gk); (case gh => walk_at "hp"); (case gc => assumption); (case gn => assumption); (case gl => first | rfl | walk_at "lk"))
  | ((with_reducible refine' g_fldw ?gh ?gc ?gn ?gl ?gk); (case gh => walk_at "hp"); (case gc => assumption); (case gn => assumption); (case gl => exact Nat.le_of_ble_eq_true rfl))
  | ((with_reducible refine' g_own2 ?gh ?gl ?gk); (case gh => walk_at "hp"); (case gl => walk_at "hp"))
  | ((with_reducible refine' g_own1 ?gh ?gk); (case gh => walk_at "hp"))
  | ((with_reducible refine' g_ownI ?gh ?gk); (case gh => walk_at "hp"))
  | ((with_reducible refine' g_recv ?gh ?gl ?gk); (case gh => walk_at "hp"); (case gl => walk_at "lk"))
  | ((with_reducible refine' g_lenS ?gh ?gk); (case gh => (have := sizeLine_eq; omega)))
  | ((with_reducible refine' ifT ?gh ?gk); (case gh => first | exact decide_eq_true (by omega) | exact nf (decide_eq_false (by omega)) | decide +kernel))
  | ((with_reducible refine' ifF ?gh ?gk); (case gh => first | exact decide_eq_false (by omega) | exact nt (decide_eq_true (by omega)) | decide +kernel)))
local macro_rules | `(tactic| walk_at "go1") => `(tactic| first
  | (with_reducible first
    | refine g_var rfl ?_
    | refine g_op ?_
    | refine g_cons ?_
    | refine g_nil ?_
    | refine g_c ?_
    | refine g_cb ?_
    | refine g_call ?_
    | refine g_seq ?_
    | refine g_asg ?_
    | refine g_name ?_
    | refine g_fld ?_
    | refine g_meth ?_
    | refine g_ifS ?_
    | refine g_if ?_
    | refine g_ret ?_
    | refine g_test ?_
    | refine g_tB ?_
    | refine g_bl ?_
    | refine g_and ?_
    | refine g_or ?_
    | refine g_not ?_
    | refine g_andV ?_
    | refine g_orV ?_
    | refine g_notV ?_
    | refine g_chain ?_
    | refine g_un ?_
    | refine g_ntup ?_
    | refine g_nlst ?_
    | refine g_drop ?_
    | refine g_next ?_
    | refine g_par ?_
    | refine g_par3 ?_
    | refine g_e2 ?_
    | refine g_e3 ?_
    | refine g_retN ?_
    | refine g_gcons ?_
    | refine g_gnil ?_
    | refine g_rI0 ?_
    | refine g_rU ?_
    | refine g_rSS ?_
    | refine g_rBB ?_
    | refine g_sib ?_
    | refine g_sii ?_
    | refine g_lc ?_
    | refine g_for ?_
    | refine g_istr ?_
    | refine g_istrv ?_
    | refine g_ilst ?_
    | refine g_itup ?_
    | refine g_irng1 ?_
    | refine g_irng2 ?_
    | refine g_ienum ?_
    | refine g_abs ?_
    | refine g_mx ?_
    | refine g_mn ?_
    | refine g_isN ?_
    | refine g_inC ?_
    | refine g_nfld ?_
    | refine g_ienT ?_
    | refine g_sl ?_
    | refine g_np ?_
    | refine g_pt ?_
    | refine g_ptv ?_
    | refine g_star ?_
    | refine g_bmL ?_)
  | walk_at "goA"
  | walk_at "goT"
  | walk_at "goB")
local macro_rules | `(tactic| walk_at "go") => `(tactic| repeat walk_at "go1")
local macro_rules | `(tactic| walk_at "tl") => `(tactic| first | (with_reducible exact tx_lt _) | exact (SX.S_tl _).symm | exact rfl)
local macro_rules | `(tactic| walk_at "ts") => `(tactic| (have := sizeLine_eq; (try simp only [tx_len, List.length_append, List.length_cons, List.length_nil]); first | omega | (decide +kernel)))
local macro_rules | `(tactic| walk_at "goT") => `(tactic| first
  | (with_reducible first
    | refine g_m0 ?_
    | refine g_m1 ?_
    | refine g_str ?_
    | refine g_starts ?_
    | refine g_ends ?_
    | refine g_isdig ?_
    | refine g_js ?_
    | refine g_nt ?_
    | refine g_jsn ?_
    | refine g_jsc ?_
    | refine g_fmt ?_)
  | ((with_reducible refine' g_slS ?gh ?gk); (case gh => walk_at "ts"))
  | ((with_reducible refine' g_jsv ?ge ?gn ?gk); (case ge => walk_at "tl"); (case gn => walk_at "ts"))
  | ((with_reducible refine' g_fmtS ?gn ?gk); (case gn => walk_at "ts"))
  | ((with_reducible refine' g_addS ?ge ?gf ?gn ?gk); (case ge => walk_at "tl"); (case gf => walk_at "tl"); (case gn => walk_at "ts"))
  | ((with_reducible refine' g_tru ?gn ?gk); (case gn => walk_at "ts"))
  | ((with_reducible refine' g_truT ?gh ?gk); (case gh => walk_at "hp"))
  | ((with_reducible refine' g_unl ?gh ?gl ?gk); (case gh => walk_at "hp"); (case gl => rfl)))
local macro_rules | `(tactic| walk_at "goB") => `(tactic| first
  | (with_reducible refine g_gsub ?_)
  | ((with_reducible refine' g_set3 ?gh ?ge ?gk); (case gh => assumption); (case ge => rfl)))
section
variable {P : Program} {w : World} {K : PySem.W.Frag} {mg : Str → Option Value} {base : Heap}
def sp_dip : Sp := fun vs H Q _ => ∃ (p : Addr) (m : Int) (r : Nat), vs = [.ref p, .int m] ∧ 0 < m ∧ m.natAbs < 10 ^ 100 ∧ PotAt H p (r + 1) ∧ ∀ (i : Int) H', But p H H' → PotAt H' p r → 0 ≤ i → i < m → Q (.int i) H'
theorem u_dip {p : Addr} {m : Int} {H : Hp} {Q : VK} {E : XK} (r : Nat) (h0 : 0 < m) (h1 : m.natAbs < 10 ^ 100) (h : PotAt H p (r + 1)) (k : ∀ (i : Int) H', But p H H' → PotAt H' p r → 0 ≤ i → i < m → Q (.int i) H') : sp_dip [.ref p, .int m] H Q E := ⟨p, m, r, rfl, h0, h1, h, k⟩
theorem sc__law_dip : FnScope ["_law_pot_here", "_law_many", "_law_found", "_law_mixed"] ["_law_pot_here", "_law_many"] (defScope s__law_dip) := C8.fnScope_by (by decide +kernel)
theorem c__law_dip (T : Tx K mg) : C8.Cal P w K mg base 1 "_law_dip" sp_dip [] := by
  refine calD T.d__law_dip T.g__law_dip (fun _ _ _ _ _ _ us hl => match us, hl with | [_, _], _ => rfl) sc__law_dip (fun vs H Q E ⟨_, _, _, e, _⟩ => by rw [e]; rfl) fun fd cdv A outer s H vs Q E hr h => ?_
  obtain ⟨p, m, r, rfl, h0, h1, ⟨a, b, c, hp, hb0, hb1, hc0, hc1⟩, k⟩ := h
  refine ⟨_, (pss_cons (ps_if (pt_cmpR op_gt (pe_ix ix_list (pv 0) pe_int (fun _ _ => rfl)) pe_int (nomark _))
        (pss_cons (ps_set (i := 2) sc__law_dip.nd rfl (Or.inl rfl) (pe_op op_mod (pe_callTy call_intI rfl T.b_int (by decide +kernel) (pa_cons (pe_ix ix_list (pv 0) pe_int (fun _ _ => rfl)) pa_nil)) (pv 1)))
        (pss_cons (ps_asg (pe_op op_fdivW (pe_ix ix_list (pv 0) pe_int (fun _ _ => rfl)) (pv 1)) (pg_sub (pv 0) pe_int set_nlist))
        (pss_one (ps_ret (pv 2)))))
        pss_nil)
      (pss_cons (ps_asg (pe_op op_add (pe_ix ix_list (pv 0) pe_int (fun _ _ => rfl)) pe_int) (pg_sub (pv 0) pe_int set_nlist))
      (pss_cons (ps_set (i := 3) sc__law_dip.nd rfl (Or.inl rfl) (pe_op op_mod (pe_callTy call_intI rfl T.b_int (by decide +kernel) (pa_cons (pe_op op_powB (pe_op op_add (pe_ix ix_list (pv 0) pe_int (fun _ _ => rfl)) (pe_op op_mulW pe_int (pe_ix ix_list (pv 0) pe_int (fun _ _ => rfl)))) pe_int) pa_nil)) (pe_op op_add (pe_op op_powB pe_int pe_int) pe_int)))
      (pss_cons (ps_set (i := 3) sc__law_dip.nd rfl (Or.inl rfl) (pe_op op_mod (pe_callTy call_intI rfl T.b_int (by decide +kernel) (pa_cons (pe_op op_powB (pe_op op_add (pv 3) (pe_op op_mulW pe_int (pe_ix ix_list (pv 0) pe_int (fun _ _ => rfl)))) pe_int) pa_nil)) (pe_op op_add (pe_op op_powB pe_int pe_int) pe_int)))
      (pss_one (ps_ret (pe_op op_mod (pe_callTy call_intI rfl T.b_int (by decide +kernel) (pa_cons (pe_op op_fdivW (pv 3) (pe_op op_powB pe_int pe_int)) pa_nil)) (pv 1)))))))), ?_⟩
  walk_at "st"
  have cm : ∀ i, CDivW i m := fun i => wide_div (b := 8000) h0 (Nat.lt_of_lt_of_le h1 (by decide +kernel)) (by decide) (by decide)
  have hpq : SqL K H p [.int a, .int b, .int c] := SqL.of hp
  walk_at "go"
  have pw : ∀ i : Int, i.natAbs < 10 ^ 60 → CPowB i 3 := fun i h => ⟨by decide, by decide, Nat.lt_trans h (by decide +kernel)⟩
  have pw10 : ∀ j : Int, 0 ≤ j → j ≤ 100 → CPowB 10 j := fun j h1 h2 => ⟨h1, by omega, by decide +kernel⟩
  have mw : ∀ i j : Int, i.natAbs < 10 ^ 50 → j.natAbs < 10 ^ 50 → CMulW i j := fun i j h1 h2 => wide_mul (a := 300) (b := 300) (Nat.lt_of_lt_of_le h1 (by decide +kernel)) (Nat.lt_of_lt_of_le h2 (by decide +kernel)) (by decide) (by decide) (by decide)
  refine if2 (fun e => ?_) (fun e => ?_)
  · walk_at "go"
    refine g_rI h0 ?_
    walk_at "go"
    refine g_rI (cm _) ?_
    walk_at "go"
    intro H2 b2 h2
    walk_at "go"
    exact k _ H2 b2 ⟨_, b, c, h2, hb0, hb1, hc0, by omega⟩ (Int.emod_nonneg _ (by omega)) (Int.emod_lt_of_pos _ h0)
  · walk_at "go"
    intro H2 b2 h2
    have hpq : SqL K H2 p [.int a, .int b, .int (c + 1)] := SqL.of h2
    have e41 : (0 : Int) < 10 ^ (41 : Int).toNat + 9 := by decide +kernel
    have e39 : (0 : Int) < 10 ^ (39 : Int).toNat + 57 := by decide +kernel
    have l41 : (10 : Int) ^ (41 : Int).toNat + 9 < 10 ^ 42 := by decide +kernel
    walk_at "go"
    refine g_rI (mw _ _ (by decide +kernel) (by omega)) ?_
    walk_at "go"
    refine g_rI (pw _ (by omega)) ?_
    walk_at "go"
    refine g_rI (pw10 41 (by decide) (by decide)) ?_
    walk_at "go"
    refine g_rI e41 ?_
    have x0 : 0 ≤ (b + 86028121 * (c + 1)) ^ (3 : Int).toNat % (10 ^ (41 : Int).toNat + 9) := Int.emod_nonneg _ (by decide +kernel)
    have x1 : (b + 86028121 * (c + 1)) ^ (3 : Int).toNat % (10 ^ (41 : Int).toNat + 9) < 10 ^ 42 := Int.lt_trans (Int.emod_lt_of_pos _ e41) l41
    generalize (b + 86028121 * (c + 1)) ^ (3 : Int).toNat % (10 ^ (41 : Int).toNat + 9) = x at x0 x1
    walk_at "go"
    refine g_rI (mw _ _ (by decide +kernel) (by omega)) ?_
    walk_at "go"
    refine g_rI (pw _ (by omega)) ?_
    walk_at "go"
    refine g_rI (pw10 39 (by decide) (by decide)) ?_
    walk_at "go"
    refine g_rI e39 ?_
    generalize (x + 179424673 * (c + 1)) ^ (3 : Int).toNat % (10 ^ (39 : Int).toNat + 57) = y
    walk_at "go"
    refine g_rI (pw10 7 (by decide) (by decide)) ?_
    walk_at "go"
    refine g_rI (wide_div (b := 100) (by decide +kernel) (by decide +kernel) (by decide) (by decide)) ?_
    walk_at "go"
    refine g_rI h0 ?_
    walk_at "go"
    exact k _ H2 b2 ⟨a, b, c + 1, h2, hb0, hb1, by omega, by omega⟩ (Int.emod_nonneg _ (by omega)) (Int.emod_lt_of_pos _ h0)
/-! the pot -/
def sp_pot (K : PySem.W.Frag) : Sp := fun vs H Q _ => ∃ (p : Addr) (ns : List Int) (k : Nat), vs = [.ref p, .int (k : Int)] ∧ SqL K H p (ns.map V.int) ∧ k ≤ 100 ∧ ∀ q H', Same H H' → H q = none → PotAt H' q 100000 → Q (.ref q) H'
theorem u_pot {p : Addr} {ns : List Int} {k : Nat} {H : Hp} {Q : VK} {E : XK} (h : SqL K H p (ns.map V.int)) (hk : k ≤ 100) (q : ∀ q H', Same H H' → H q = none → PotAt H' q 100000 → Q (.ref q) H') : sp_pot K [.ref p, .int (k : Int)] H Q E := ⟨p, ns, k, rfl, h, hk, q⟩
theorem sc__law_pot : FnScope ["_law_script", "_law_k", "_law_cell"] ["_law_script", "_law_k"] (defScope s__law_pot) := C8.fnScope_by (by decide +kernel)
theorem c__law_pot (T : Tx K mg) : C8.Cal P w K mg base 1 "_law_pot" (sp_pot K) [] := by
  refine calD T.d__law_pot T.g__law_pot (fun _ _ _ _ _ _ us hl => match us, hl with | [_, _], _ => rfl) sc__law_pot (fun vs H Q E ⟨_, _, _, e, _⟩ => by rw [e]; rfl) fun fd cdv A outer s H vs Q E hr h => ?_
  obtain ⟨p, ns, k, rfl, hp, hk, q⟩ := h
  refine ⟨_, (pss_cons (ps_set (i := 2) sc__law_pot.nd rfl (Or.inl rfl) pe_int)
      (pss_cons (ps_if (pt_cmpR op_lt (pv 1) (pe_callB call_nlen rfl T.b_len (by decide +kernel) (pa_cons (pv 0) pa_nil)) (nomark _))
        (pss_one (ps_set (i := 2) sc__law_pot.nd rfl (Or.inl rfl) (pe_callB call_nabs rfl T.b_abs (by decide +kernel) (pa_cons (pe_callTy call_intI rfl T.b_int (by decide +kernel) (pa_cons (pe_ix ix_list (pv 0) (pv 1) (fun _ _ => rfl)) pa_nil)) pa_nil))))
        pss_nil)
      (pss_one (ps_ret (pe_nlst (pa_cons (pe_callB (call_nmax rfl) rfl T.b_max (by decide +kernel) (pa_cons pe_int (pa_cons (pe_op op_sub (pv 2) (pe_op op_powB pe_int pe_int)) pa_nil))) (pa_cons (pe_op op_add (pe_op op_mod (pe_callTy call_intI rfl T.b_int (by decide +kernel) (pa_cons (pv 2) pa_nil)) (pe_op op_add (pe_op op_powB pe_int pe_int) pe_int)) (pe_op op_mulW pe_int (pv 1))) (pa_cons pe_int pa_nil)))))))), ?_⟩
  walk_at "st"
  have pw10 : ∀ j : Int, 0 ≤ j → j ≤ 100 → CPowB 10 j := fun j h1 h2 => ⟨h1, by omega, by decide +kernel⟩
  have e33 : (0 : Int) < 10 ^ (33 : Int).toNat + 33 := by decide +kernel
  have l33 : (10 : Int) ^ (33 : Int).toNat + 33 < 10 ^ 34 := by decide +kernel
  walk_at "go"
  rw [List.length_map]
  refine if2 (fun e => ?_) (fun e => ?_)
  · have hk2 : k < ns.length := by
      have := of_decide_eq_true e
      omega
    have at1 : atI (ns.map V.int) (k : Int) = some (.int ns[k]) := atI_nat (by rw [List.getElem?_map, List.getElem?_eq_getElem hk2]; rfl)
    walk_at "go"
    refine g_rI (pw10 18 (by decide) (by decide)) ?_
    walk_at "go"
    refine g_rI (pw10 33 (by decide) (by decide)) ?_
    walk_at "go"
    refine g_rI e33 ?_
    have x0 : 0 ≤ ((ns[k].natAbs : Nat) : Int) % (10 ^ (33 : Int).toNat + 33) := Int.emod_nonneg _ (by decide +kernel)
    have x1 : ((ns[k].natAbs : Nat) : Int) % (10 ^ (33 : Int).toNat + 33) < 10 ^ 34 := Int.lt_trans (Int.emod_lt_of_pos _ e33) l33
    generalize ((ns[k].natAbs : Nat) : Int) % (10 ^ (33 : Int).toNat + 33) = x at x0 x1
    walk_at "go"
    refine g_rI (wide_mul (a := 30) (b := 30) (by decide) (by omega) (by decide) (by decide) (by decide)) ?_
    walk_at "go"
    rename_i q1 H1 n1 s1 h1
    exact q q1 H1 s1 n1 ⟨_, _, _, h1, by omega, by omega, by decide, by decide⟩
  · walk_at "go"
    refine g_rI (pw10 18 (by decide) (by decide)) ?_
    walk_at "go"
    refine g_rI (pw10 33 (by decide) (by decide)) ?_
    walk_at "go"
    refine g_rI e33 ?_
    have x0 : 0 ≤ (0 : Int) % (10 ^ (33 : Int).toNat + 33) := Int.emod_nonneg _ (by decide +kernel)
    have x1 : (0 : Int) % (10 ^ (33 : Int).toNat + 33) < 10 ^ 34 := Int.lt_trans (Int.emod_lt_of_pos _ e33) l33
    generalize (0 : Int) % (10 ^ (33 : Int).toNat + 33) = x at x0 x1
    walk_at "go"
    refine g_rI (wide_mul (a := 30) (b := 30) (by decide) (by omega) (by decide) (by decide) (by decide)) ?_
    walk_at "go"
    rename_i q1 H1 n1 s1 h1
    exact q q1 H1 s1 n1 ⟨_, _, _, h1, by omega, by omega, by decide, by decide⟩
end
end RL
set_option maxHeartbeats 4000000
namespace RL
open PySem PySem.Spec PyProof.Rows L2
local macro_rules | `(tactic| walk_at "hp") => `(tactic| first
  | assumption
  | ((with_reducible refine' SqT.of ?gz); (case gz => walk_at "hp"))
  | ((with_reducible refine' SqL.of ?gz); (case gz => walk_at "hp"))
  | ((with_reducible refine' Same.seqT (by assumption) ?gz); (case gz => walk_at "hp"))
  | ((with_reducible refine' Same.seq (by assumption) ?gz); (case gz => walk_at "hp"))
  | ((with_reducible refine' s_at (by assumption) ?gz); (case gz => walk_at "hp"))
  | ((with_reducible refine' dp_mono (by assumption) ?gz); (case gz => walk_at "hp")))
local macro_rules | `(tactic| walk_at "sm") => `(tactic| first
  | assumption
  | exact Same.refl _
  | (with_reducible refine Same.trans ?_ (by assumption); walk_at "sm"))
local macro_rules | `(tactic| walk_at "st") => `(tactic| try dsimp only [cxOf, L2.Cx.nox, L2.Cx.wish])
local macro_rules | `(tactic| walk_at "sz") => `(tactic| (have := sizeLine_eq; (try simp only [List.length_append, List.length_map, List.length_take, List.length_drop, List.length_cons, List.length_nil]); omega))
local macro_rules | `(tactic| walk_at "lk") => `(tactic| fail)
local macro_rules | `(tactic| walk_at "goB") => `(tactic| fail)
local macro_rules | `(tactic| walk_at "goT") => `(tactic| fail)
local macro_rules | `(tactic| walk_at "goA") => `(tactic| first
  | (with_reducible first
    | refine ifT rfl ?_
    | refine ifF rfl ?_)
  | ((with_reducible refine' g_gtup ?gh ?gl ?gk); (case gh => walk_at "hp"); (case gl => rfl))
  | ((with_reducible refine' g_ixT ?gh ?gl ?gk); (case gh => walk_at "hp"); (case gl => first | rfl | assumption))
  | ((with_reducible refine' g_ixL ?gh ?gl ?gk); (case gh => walk_at "hp"); (case gl => first | rfl | assumption))
  | ((with_reducible refine' g_lenT ?gh ?gk); (case gh => walk_at "hp"))
  | ((with_reducible refine' g_lenL ?gh ?gk); (case gh => walk_at "hp"))
  | ((with_reducible refine' g_inT ?gh ?gf ?gl ?gk); (case gh => walk_at "hp"); (case gf => rfl); (case gl => rfl))
  | ((with_reducible refine' g_isi (d := true) ?gh ?gl ?gk); (case gh => first | exact ty_tup (by walk_at "hp") | exact .base (.int _) | exact .base (.str _)); (case gl => exact kit_ty (by decide +kernel)))
  | ((with_reducible refine' g_isi (d := false) ?gh ?gl ?gk); (case gh => first | exact ty_tup (by walk_at "hp") | exact .base (.int _) | exact .base (.str _)); (case gl => exact kit_ty (by decide +kernel)))
  | ((with_reducible refine' g_new ?gl ?gk); (case gl => first | exact Nat.le_of_ble_eq_true rfl | walk_at "sz"))
  | ((with_reducible refine' g_ilstv ?gh ?gk); (case gh => walk_at "hp"))
  | ((with_reducible refine' g_itupv ?gh ?gk); (case gh => walk_at "hp"))
  | ((with_reducible refine' g_ienumv ?gh ?gk); (case gh => walk_at "hp"))
  | ((with_reducible refine' g_ienTv ?gh ?gk); (case gh => walk_at "hp"))
  | ((with_reducible refine' g_slT ?gh ?gk); (case gh => walk_at "hp"); intro _ _ _ _)
  | ((with_reducible refine' g_slL ?gh ?gk); (case gh => walk_at "hp"))
  | ((with_reducible refine' g_catT ?gh ?gl ?gm ?gk); (case gh => walk_at "hp"); (case gl => walk_at "hp"); (case gm => walk_at "sz"); intro _ _ _ _)
  | ((with_reducible refine' g_catL ?gh ?gl ?gm ?gk); (case gh => walk_at "hp"); (case gl => walk_at "hp"); (case gm => walk_at "sz"))
  | ((with_reducible refine' g_tupL ?gh ?gk); (case gh => walk_at "hp"); intro _ _ _ _)
  | ((with_reducible refine' g_tupT ?gh ?gk); (case gh => walk_at "hp"); intro _ _ _ _)
  | ((with_reducible refine' g_starT ?gh ?gk); (case gh => walk_at "hp"))
  | ((with_reducible refine' g_starL ?gh ?gk); (case gh => walk_at "hp"))
  | ((with_reducible refine' g_tyL ?gh ?gk); (case gh => walk_at "hp"))
  | ((with_reducible refine' g_app ?gh ?gl ?gk); (case gh => walk_at "hp"); (case gl => walk_at "sz"))
  | ((with_reducible refine' g_inL ?gh ?gf ?gl ?gk); (case gh => walk_at "hp"); (case gf => rfl); (case gl => first | rfl | assumption))
  | ((with_reducible refine' g_irng1v ?gh ?gl ?gk); (case gh => omega); (case gl => omega))
  | ((with_reducible refine' g_irng2v ?gh ?gk); (case gh => omega))
  | ((with_reducible refine g_NewT ?_); intro _ _ _ _ _)
  | ((with_reducible refine' g_fldv ?gh ?gc ?gn ?gl ?gk); (case gh => walk_at "hp"); (case gc => assumption); (case gn => assumption); (case gl => first | rfl | walk_at "lk"))
  | ((with_reducible refine' g_fldw ?gh ?gc ?gn ?gl ?gk); (case gh => walk_at "hp"); (case gc => assumption); (case gn => assumption); (case gl => exact Nat.le_of_ble_eq_true rfl))
  | ((with_reducible refine' g_own2 ?gh ?gl ?gk); (case gh => walk_at "hp"); (case gl => walk_at "hp"))
  | ((with_reducible refine' g_own1 ?gh ?gk); (case gh => walk_at "hp"))
  | ((with_reducible refine' g_ownI ?gh ?gk); (case gh => walk_at "hp"))
  | ((with_reducible refine' g_recv ?gh ?gl ?gk); (case gh => walk_at "hp"); (case gl => walk_at "lk"))
  | ((with_reducible refine' g_lenS ?gh ?gk); (case gh => (have := sizeLine_eq; omega)))
  | ((with_reducible refine' ifT ?gh ?gk); (case gh => first | exact decide_eq_true (by omega) | exact nf (decide_eq_false (by omega)) | decide +kernel))
  | ((with_reducible refine' ifF ?gh ?gk); (case gh => first | exact decide_eq_false (by omega) | exact nt (decide_eq_true (by omega)) | decide +kernel)))
local macro_rules | `(tactic| walk_at "go1") => `(tactic| first
  | (with_reducible first
    | refine g_var rfl ?_
    | refine g_op ?_
    | refine g_cons ?_
    | refine g_nil ?_
    | refine g_c ?_
    | refine g_cb ?_
    | refine g_call ?_
    | refine g_seq ?_
    | refine g_asg ?_
    | refine g_name ?_
    | refine g_fld ?_
    | refine g_meth ?_
    | refine g_ifS ?_
    | refine g_if ?_
    | refine g_ret ?_
    | refine g_test ?_
    | refine g_tB ?_
    | refine g_bl ?_
    | refine g_and ?_
    | refine g_or ?_
    | refine g_not ?_
    | refine g_andV ?_
    | refine g_orV ?_
    | refine g_notV ?_
    | refine g_chain ?_
    | refine g_un ?_
    | refine g_ntup ?_
    | refine g_nlst ?_
    | refine g_drop ?_
    | refine g_next ?_
    | refine g_par ?_
    | refine g_par3 ?_
    | refine g_e2 ?_
    | refine g_e3 ?_
    | refine g_retN ?_
    | refine g_gcons ?_
    | refine g_gnil ?_
    | refine g_rI0 ?_
    | refine g_rU ?_
    | refine g_rSS ?_
    | refine g_rBB ?_
    | refine g_sib ?_
    | refine g_sii ?_
    | refine g_lc ?_
    | refine g_for ?_
    | refine g_istr ?_
    | refine g_istrv ?_
    | refine g_ilst ?_
    | refine g_itup ?_
    | refine g_irng1 ?_
    | refine g_irng2 ?_
    | refine g_ienum ?_
    | refine g_abs ?_
    | refine g_mx ?_
    | refine g_mn ?_
    | refine g_isN ?_
    | refine g_inC ?_
    | refine g_nfld ?_
    | refine g_ienT ?_
    | refine g_sl ?_
    | refine g_np ?_
    | refine g_pt ?_
    | refine g_ptv ?_
    | refine g_star ?_
    | refine g_bmL ?_)
  | walk_at "goA"
  | walk_at "goT"
  | walk_at "goB")
local macro_rules | `(tactic| walk_at "go") => `(tactic| repeat walk_at "go1")
theorem u_dipN {p : Addr} {m : Int} {n : Nat} {H : Hp} {Q : VK} {E : XK} (h : PotAt H p n) (hn : 0 < n) (h0 : 0 < m) (h1 : m.natAbs < 10 ^ 100) (k : ∀ (i : Int) H', But p H H' → PotAt H' p (n - 1) → 0 ≤ i → i < m → Q (.int i) H') : sp_dip [.ref p, .int m] H Q E :=
  ⟨p, m, n - 1, rfl, h0, h1, h.le (by omega), k⟩
local macro_rules | `(tactic| walk_at "tl") => `(tactic| first | (with_reducible exact tx_lt _) | exact (SX.S_tl _).symm | exact rfl)
local macro_rules | `(tactic| walk_at "ts") => `(tactic| (have := sizeLine_eq; (try simp only [tx_len, List.length_append, List.length_cons, List.length_nil]); first | omega | (decide +kernel)))
local macro_rules | `(tactic| walk_at "goT") => `(tactic| first
  | (with_reducible first
    | refine g_m0 ?_
    | refine g_m1 ?_
    | refine g_str ?_
    | refine g_starts ?_
    | refine g_ends ?_
    | refine g_isdig ?_
    | refine g_js ?_
    | refine g_nt ?_
    | refine g_jsn ?_
    | refine g_jsc ?_
    | refine g_fmt ?_)
  | ((with_reducible refine' g_slS ?gh ?gk); (case gh => walk_at "ts"))
  | ((with_reducible refine' g_jsv ?ge ?gn ?gk); (case ge => walk_at "tl"); (case gn => walk_at "ts"))
  | ((with_reducible refine' g_fmtS ?gn ?gk); (case gn => walk_at "ts"))
  | ((with_reducible refine' g_addS ?ge ?gf ?gn ?gk); (case ge => walk_at "tl"); (case gf => walk_at "tl"); (case gn => walk_at "ts"))
  | ((with_reducible refine' g_tru ?gn ?gk); (case gn => walk_at "ts"))
  | ((with_reducible refine' g_truT ?gh ?gk); (case gh => walk_at "hp"))
  | ((with_reducible refine' g_unl ?gh ?gl ?gk); (case gh => walk_at "hp"); (case gl => rfl)))
local macro_rules | `(tactic| walk_at "pt") => `(tactic| first
  | assumption
  | ((with_reducible refine' PotAt.same ?gz (by assumption)); (case gz => walk_at "pt")))
local macro_rules | `(tactic| walk_at "bt") => `(tactic| first
  | assumption
  | exact But.refl
  | (with_reducible refine But.trans ?_ (by assumption); walk_at "bt")
  | (with_reducible refine But.trans ?_ (But.of (by assumption)); walk_at "bt"))
local macro_rules | `(tactic| walk_at "hp") => `(tactic| first
  | assumption
  | ((with_reducible refine' SqT.of ?gz); (case gz => walk_at "hp"))
  | ((with_reducible refine' SqL.of ?gz); (case gz => walk_at "hp"))
  | ((with_reducible refine' Same.seqT (by assumption) ?gz); (case gz => walk_at "hp"))
  | ((with_reducible refine' Same.seq (by assumption) ?gz); (case gz => walk_at "hp"))
  | ((with_reducible refine' But.tupP (by assumption) ?gz ?gp); (case gz => walk_at "hp"); (case gp => walk_at "pt"))
  | ((with_reducible refine' But.lst (by assumption) ?gn ?gz); (case gn => exact PotAt.ne (by assumption) (by walk_at "pt")); (case gz => walk_at "hp"))
  | ((with_reducible refine' s_at (by assumption) ?gz); (case gz => walk_at "hp")))
local macro_rules | `(tactic| walk_at "goB") => `(tactic| first
  | ((with_reducible refine' u_dipN ?gh ?gn ?g0 ?g1 ?gk); (case gh => walk_at "pt"); (case gn => omega); (case g0 => first | omega | decide +kernel); (case g1 => first | omega | decide +kernel); intro _ _ _ _ _ _))
theorem thing_lit {z : Str} (h : (decide (1 ≤ z.length) && decide (z.length ≤ 8) && z.cps.toList.all fun c => decide (97 ≤ c ∧ c ≤ 122)) = true) : ThingOk z := by
  rw [Bool.and_eq_true, Bool.and_eq_true] at h
  exact ⟨of_decide_eq_true h.1.1, of_decide_eq_true h.1.2, fun c hc => of_decide_eq_true (List.all_eq_true.mp h.2 c hc)⟩
section
variable {P : Program} {w : World} {K : PySem.W.Frag} {mg : Str → Option Value} {base : Heap}
def sp_thing : Sp := fun vs H Q _ => ∃ p n, vs = [.ref p] ∧ PotAt H p n ∧ 10 ≤ n ∧ ∀ z H', But p H H' → PotAt H' p (n - 10) → ThingOk z → Q (.str z) H'
theorem u_thing {p : Addr} {n : Nat} {H : Hp} {Q : VK} {E : XK} (h : PotAt H p n) (hn : 10 ≤ n) (k : ∀ z H', But p H H' → PotAt H' p (n - 10) → ThingOk z → Q (.str z) H') : sp_thing [.ref p] H Q E := ⟨p, n, rfl, h, hn, k⟩
theorem joinE : ∀ cs : List Nat, TL.joinL [] (cs.map fun c => [c]) = cs
  | [] => rfl
  | [c] => rfl
  | c :: d :: r => by
    show c :: TL.joinL [] ((d :: r).map fun c => [c]) = _
    rw [joinE (d :: r)]
theorem sc__law_thing : FnScope ["_law_pot_here", "_law_some_here", "_law_size", "_law_k"] ["_law_pot_here"] (defScope s__law_thing) := C8.fnScope_by (by decide +kernel)
theorem c__law_thing (T : Tx K mg) : C8.Cal P w K mg base 2 "_law_thing" sp_thing [] := by
  refine calD T.d__law_thing T.g__law_thing (fun _ _ _ _ _ _ us hl => match us, hl with | [_], _ => rfl) sc__law_thing (fun vs H Q E ⟨_, _, e, _⟩ => by rw [e]; rfl) fun fd cdv A outer s H vs Q E hr h => ?_
  obtain ⟨p, n, rfl, hP, hn, k⟩ := h
  refine ⟨_, (pss_cons (ps_if (pt_cmpR op_gt (C8.pe_c (c__law_dip T) hr (by decide) rfl (pa_cons (pv 0) (pa_cons pe_int pa_nil))) pe_int (nomark _))
        (pss_cons (ps_set (i := 1) sc__law_thing.nd rfl (Or.inl rfl) (pe_nlst (pa_cons pe_str (pa_cons pe_str (pa_cons pe_str (pa_cons pe_str (pa_cons pe_str (pa_cons pe_str (pa_cons pe_str (pa_cons pe_str (pa_cons pe_str (pa_cons pe_str (pa_cons pe_str (pa_cons pe_str (pa_cons pe_str (pa_cons pe_str (pa_cons pe_str pa_nil)))))))))))))))))
        (pss_one (ps_ret (pe_ix ix_list (pe_op op_nlcat (pv 1) (pe_nlst (pa_cons pe_str pa_nil))) (C8.pe_c (c__law_dip T) hr (by decide) rfl (pa_cons (pv 0) (pa_cons pe_int pa_nil))) (fun _ _ => rfl)))))
        pss_nil)
      (pss_cons (ps_set (i := 2) sc__law_thing.nd rfl (Or.inl rfl) (pe_op op_add pe_int (C8.pe_c (c__law_dip T) hr (by decide) rfl (pa_cons (pv 0) (pa_cons pe_int pa_nil)))))
      (pss_one (ps_ret (pe_njoin pe_str (pe_lc (own := [("_law_k", 3)]) rfl sc__law_thing.nd (pj_range1 rfl T.b_range (pa_cons (pv 2) pa_nil)) (blkOk_by (N := ["_law_pot_here", "_law_some_here", "_law_size", "_law_k"]) (sc := defScope s__law_thing) (by decide +kernel)) (fun _ _ _ _ _ => (pg_name (i := 3) sc__law_thing.nd rfl (Or.inl rfl))) (fun _ _ _ _ _ => pts_nil) (fun _ _ _ _ _ => (pe_ix ix_str pe_str (C8.pe_c (c__law_dip T) hr (by decide) rfl (pa_cons (pv 0) (pa_cons pe_int pa_nil))) (fun _ _ => rfl))))))))), ?_⟩
  walk_at "st"
  have hsz := sizeLine_eq
  walk_at "go"
  rename_i i1 H1 b1 p1 i10 i11
  refine if2 (fun e => ?_) (fun e => ?_)
  · walk_at "go"
    rename_i q2 H2 n2 s2 h2 q3 H3 n3 s3 h3 q4 H4 n4 s4 h4 i5 H5 b5 p5 i50 i51
    obtain ⟨v, hv, z, rfl, hz⟩ := at_all (P := fun v => ∃ z, v = V.str z ∧ ThingOk z) (xs := [V.str "sock", .str "a", .str "b", .str "no", .str "yes", .str "when", .str "near", .str "far", .str "peg", .str "zzzzzzzz", .str "ab", .str "ba", .str "d", .str "of", .str "but"] ++ [V.str "nothing"]) (by
      intro x hx
      simp only [List.cons_append, List.nil_append, List.mem_cons, List.not_mem_nil, or_false] at hx
      rcases hx with rfl | rfl | rfl | rfl | rfl | rfl | rfl | rfl | rfl | rfl | rfl | rfl | rfl | rfl | rfl | rfl <;> exact ⟨_, rfl, thing_lit (by decide +kernel)⟩) i50 (by simp only [List.length_append, List.length_cons, List.length_nil]; omega)
    walk_at "go"
    exact k z H5 (by walk_at "bt") (p5.le (by omega)) hz
  · walk_at "go"
    rename_i i2 H2 b2 p2 i20 i21
    refine lc_inv walk_range p ⟨_, p2.at.choose_spec⟩ (fun i l H' => But p H2 H' ∧ PotAt H' p (n - 1 - 1 - i) ∧ ∃ cs : List Nat, l = cs.map (fun c => V.str (tx [c])) ∧ cs.length = i ∧ ∀ c ∈ cs, 97 ≤ c ∧ c ≤ 122) (by omega) (fun i l H' _ h => by
      obtain ⟨_, _, cs, rfl, hl, _⟩ := h
      rw [List.length_map]
      omega) (fun D hD => ⟨But.refl.newD hD, p2.but (fun c o nc e => by rw [upd_ne nc]; exact e) (Ne.symm (p2.ne hD)), [], rfl, rfl, by simp⟩)
      (fun i l H3 H4 D xs hD h3 b ⟨c1, c2, c3⟩ => ⟨c1.fr hD b, c2.but b (Ne.symm (p2.ne hD)), c3⟩) ?_ ?_
    · rintro i v l H3 H4 kk ee hi ⟨c1, c2, cs, rfl, hl, hc⟩ ⟨rfl, rfl⟩ hk _
      refine g_name ⟨rfl, ?_⟩
      refine g_yes ?_
      walk_at "go"
      rename_i i5 H5 b5 p5 i50 i51
      obtain ⟨c, hc1, hc2⟩ := at_all (P := fun c => 97 ≤ c ∧ c ≤ 122) (xs := lt "abcdefghijklmnopqrstuvwxyz") (by decide +kernel) i50 (by rw [show (lt "abcdefghijklmnopqrstuvwxyz").length = 26 by decide +kernel]; exact i51)
      refine g_ixS (by decide +kernel) hc1 ?_
      refine hk _ H5 b5 ⟨c1.trans b5, p5.le (by omega), cs ++ [c], by rw [List.map_append]; rfl, by rw [List.length_append, hl]; rfl, fun d hd => ?_⟩
      rcases List.mem_append.mp hd with hd | hd
      · exact hc d hd
      · rw [List.mem_singleton.mp hd]
        exact hc2
    · rintro q H3 l nq ⟨c1, c2, cs, rfl, hl, hc⟩ h3
      refine g_jn (u := lt "") (ys := cs.map fun c => [c]) rfl (SqL.of (by rw [h3, List.map_map]; rfl)) ?_ ?_
      · have h4 := sum_le (b := 1) (l := (cs.map fun c => [c]).map (·.length)) (fun x hx => by
          obtain ⟨y, hy, rfl⟩ := List.mem_map.mp hx
          obtain ⟨z, _, rfl⟩ := List.mem_map.mp hy
          exact Nat.le_refl _)
        simp only [List.length_map] at h4 ⊢
        show _ + cs.length * 0 ≤ _
        omega
      · rw [show lt "" = [] from rfl, joinE]
        walk_at "go"
        refine k _ H3 (by walk_at "bt") (c2.le (by omega)) ⟨?_, ?_, hc⟩
        · rw [tx_len]
          omega
        · rw [tx_len]
          omega
end
end RL
set_option maxHeartbeats 4000000
namespace RL
open PySem PySem.Spec PyProof.Rows L2
local macro_rules | `(tactic| walk_at "hp") => `(tactic| first
  | assumption
  | ((with_reducible refine' SqT.of ?gz); (case gz => walk_at "hp"))
  | ((with_reducible refine' SqL.of ?gz); (case gz => walk_at "hp"))
  | ((with_reducible refine' Same.seqT (by assumption) ?gz); (case gz => walk_at "hp"))
  | ((with_reducible refine' Same.seq (by assumption) ?gz); (case gz => walk_at "hp"))
  | ((with_reducible refine' s_at (by assumption) ?gz); (case gz => walk_at "hp"))
  | ((with_reducible refine' dp_mono (by assumption) ?gz); (case gz => walk_at "hp")))
local macro_rules | `(tactic| walk_at "sm") => `(tactic| first
  | assumption
  | exact Same.refl _
  | (with_reducible refine Same.trans ?_ (by assumption); walk_at "sm"))
local macro_rules | `(tactic| walk_at "st") => `(tactic| try dsimp only [cxOf, L2.Cx.nox, L2.Cx.wish])
local macro_rules | `(tactic| walk_at "sz") => `(tactic| (have := sizeLine_eq; (try simp only [List.length_append, List.length_map, List.length_take, List.length_drop, List.length_cons, List.length_nil]); omega))
local macro_rules | `(tactic| walk_at "lk") => `(tactic| fail)
local macro_rules | `(tactic| walk_at "goB") => `(tactic| fail)
local macro_rules | `(tactic| walk_at "goT") => `(tactic| fail)
local macro_rules | `(tactic| walk_at "goA") => `(tactic| first
  | (with_reducible first
    | refine ifT rfl ?_
    | refine ifF rfl ?_)
  | ((with_reducible refine' g_gtup ?gh ?gl ?gk); (case gh => walk_at "hp"); (case gl => rfl))
  | ((with_reducible refine' g_ixT ?gh ?gl ?gk); (case gh => walk_at "hp"); (case gl => first | rfl | assumption))
  | ((with_reducible refine' g_ixL ?gh ?gl ?gk); (case gh => walk_at "hp"); (case gl => first | rfl | assumption))
  | ((with_reducible refine' g_lenT ?gh ?gk); (case gh => walk_at "hp"))
  | ((with_reducible refine' g_lenL ?gh ?gk); (case gh => walk_at "hp"))
  | ((with_reducible refine' g_inT ?gh ?gf ?gl ?gk); (case gh => walk_at "hp"); (case gf => rfl); (case gl => rfl))
  | ((with_reducible refine' g_isi (d := true) ?gh ?gl ?gk); (case gh => first | exact ty_tup (by walk_at "hp") | exact .base (.int _) | exact .base (.str _)); (case gl => exact kit_ty (by decide +kernel)))
  | ((with_reducible refine' g_isi (d := false) ?gh ?gl ?gk); (case gh => first | exact ty_tup (by walk_at "hp") | exact .base (.int _) | exact .base (.str _)); (case gl => exact kit_ty (by decide +kernel)))
  | ((with_reducible refine' g_new ?gl ?gk); (case gl => first | exact Nat.le_of_ble_eq_true rfl | walk_at "sz"))
  | ((with_reducible refine' g_ilstv ?gh ?gk); (case gh => walk_at "hp"))
  | ((with_reducible refine' g_itupv ?gh ?gk); (case gh => walk_at "hp"))
  | ((with_reducible refine' g_ienumv ?gh ?gk); (case gh => walk_at "hp"))
  | ((with_reducible refine' g_ienTv ?gh ?gk); (case gh => walk_at "hp"))
  | ((with_reducible refine' g_slT ?gh ?gk); (case gh => walk_at "hp"); intro _ _ _ _)
  | ((with_reducible refine' g_slL ?gh ?gk); (case gh => walk_at "hp"))
  | ((with_reducible refine' g_catT ?gh ?gl ?gm ?gk); (case gh => walk_at "hp"); (case gl => walk_at "hp"); (case gm => walk_at "sz"); intro _ _ _ _)
  | ((with_reducible refine' g_catL ?gh ?gl ?gm ?gk); (case gh => walk_at "hp"); (case gl => walk_at "hp"); (case gm => walk_at "sz"))
  | ((with_reducible refine' g_tupL ?gh ?gk); (case gh => walk_at "hp"); intro _ _ _ _)
  | ((with_reducible refine' g_tupT ?gh ?gk); (case gh => walk_at "hp"); intro _ _ _ _)
  | ((with_reducible refine' g_starT ?gh ?gk); (case gh => walk_at "hp"))
  | ((with_reducible refine' g_starL ?gh ?gk); (case gh => walk_at "hp"))
  | ((with_reducible refine' g_tyL ?gh ?gk); (case gh => walk_at "hp"))
  | ((with_reducible refine' g_app ?gh ?gl ?gk); (case gh => walk_at "hp"); (case gl => walk_at "sz"))
  | ((with_reducible refine' g_inL ?gh ?gf ?gl ?gk); (case gh => walk_at "hp"); (case gf => rfl); (case gl => first | rfl | assumption))
  | ((with_reducible refine' g_irng1v ?gh ?gl ?gk); (case gh => omega); (case gl => omega))
  | ((with_reducible refine' g_irng2v ?gh ?gk); (case gh => omega))
  | ((with_reducible refine g_NewT ?_); intro _ _ _ _ _)
  | ((with_reducible refine' g_fldv ?gh ?gc ?gn ?gl ?gk); (case gh => walk_at "hp"); (case gc => assumption); (case gn => assumption); (case gl => first | rfl | walk_at "lk"))
  | ((with_reducible refine' g_fldw ?gh ?gc ?gn ?gl ?gk); (case gh => walk_at "hp"); (case gc => assumption); (case gn => assumption); (case gl => exact Nat.le_of_ble_eq_true rfl))
  | ((with_reducible refine' g_own2 ?gh ?gl ?gk); (case gh => walk_at "hp"); (case gl => walk_at "hp"))
  | ((with_reducible refine' g_own1 ?gh ?gk); (case gh => walk_at "hp"))
  | ((with_reducible refine' g_ownI ?gh ?gk); (case gh => walk_at "hp"))
  | ((with_reducible refine' g_recv ?gh ?gl ?gk); (case gh => walk_at "hp"); (case gl => walk_at "lk"))
  | ((with_reducible refine' g_lenS ?gh ?gk); (case gh => (have := sizeLine_eq; omega)))
  | ((with_reducible refine' ifT ?gh ?gk); (case gh => first | exact decide_eq_true (by omega) | exact nf (decide_eq_false (by omega)) | decide +kernel))
  | ((with_reducible refine' ifF ?gh ?gk); (case gh => first | exact decide_eq_false (by omega) | exact nt (decide_eq_true (by omega)) | decide +kernel)))
local macro_rules | `(tactic| walk_at "go1") => `(tactic| first
  | (with_reducible first
    | refine g_var rfl ?_
    | refine g_op ?_
    | refine g_cons ?_
    | refine g_nil ?_
    | refine g_c ?_
    | refine g_cb ?_
    | refine g_call ?_
    | refine g_seq ?_
    | refine g_asg ?_
    | refine g_name ?_
    | refine g_fld ?_
    | refine g_meth ?_
    | refine g_ifS ?_
    | refine g_if ?_
    | refine g_ret ?_
    | refine g_test ?_
    | refine g_tB ?_
    | refine g_bl ?_
    | refine g_and ?_
    | refine g_or ?_
    | refine g_not ?_
    | refine g_andV ?_
    | refine g_orV ?_
    | refine g_notV ?_
    | refine g_chain ?_
    | refine g_un ?_
    | refine g_ntup ?_
    | refine g_nlst ?_
    | refine g_drop ?_
    | refine g_next ?_
    | refine g_par ?_
    | refine g_par3 ?_
    | refine g_e2 ?_
    | refine g_e3 ?_
    | refine g_retN ?_
    | refine g_gcons ?_
    | refine g_gnil ?_
    | refine g_rI0 ?_
    | refine g_rU ?_
    | refine g_rSS ?_
    | refine g_rBB ?_
    | refine g_sib ?_
    | refine g_sii ?_
    | refine g_lc ?_
    | refine g_for ?_
    | refine g_istr ?_
    | refine g_istrv ?_
    | refine g_ilst ?_
    | refine g_itup ?_
    | refine g_irng1 ?_
    | refine g_irng2 ?_
    | refine g_ienum ?_
    | refine g_abs ?_
    | refine g_mx ?_
    | refine g_mn ?_
    | refine g_isN ?_
    | refine g_inC ?_
    | refine g_nfld ?_
    | refine g_ienT ?_
    | refine g_sl ?_
    | refine g_np ?_
    | refine g_pt ?_
    | refine g_ptv ?_
    | refine g_star ?_
    | refine g_bmL ?_)
  | walk_at "goA"
  | walk_at "goT"
  | walk_at "goB")
local macro_rules | `(tactic| walk_at "go") => `(tactic| repeat walk_at "go1")
local macro_rules | `(tactic| walk_at "tl") => `(tactic| first | (with_reducible exact tx_lt _) | exact (SX.S_tl _).symm | exact rfl)
local macro_rules | `(tactic| walk_at "ts") => `(tactic| (have := sizeLine_eq; (try simp only [tx_len, List.length_append, List.length_cons, List.length_nil]); first | omega | (decide +kernel)))
local macro_rules | `(tactic| walk_at "goT") => `(tactic| first
  | (with_reducible first
    | refine g_m0 ?_
    | refine g_m1 ?_
    | refine g_str ?_
    | refine g_starts ?_
    | refine g_ends ?_
    | refine g_isdig ?_
    | refine g_js ?_
    | refine g_nt ?_
    | refine g_jsn ?_
    | refine g_jsc ?_
    | refine g_fmt ?_)
  | ((with_reducible refine' g_slS ?gh ?gk); (case gh => walk_at "ts"))
  | ((with_reducible refine' g_jsv ?ge ?gn ?gk); (case ge => walk_at "tl"); (case gn => walk_at "ts"))
  | ((with_reducible refine' g_fmtS ?gn ?gk); (case gn => walk_at "ts"))
  | ((with_reducible refine' g_addS ?ge ?gf ?gn ?gk); (case ge => walk_at "tl"); (case gf => walk_at "tl"); (case gn => walk_at "ts"))
  | ((with_reducible refine' g_tru ?gn ?gk); (case gn => walk_at "ts"))
  | ((with_reducible refine' g_truT ?gh ?gk); (case gh => walk_at "hp"))
  | ((with_reducible refine' g_unl ?gh ?gl ?gk); (case gh => walk_at "hp"); (case gl => rfl)))
local macro_rules | `(tactic| walk_at "pt") => `(tactic| first
  | assumption
  | ((with_reducible refine' PotAt.same ?gz (by assumption)); (case gz => walk_at "pt")))
local macro_rules | `(tactic| walk_at "bt") => `(tactic| first
  | assumption
  | exact But.refl
  | (with_reducible refine But.trans ?_ (by assumption); walk_at "bt")
  | (with_reducible refine But.trans ?_ (But.of (by assumption)); walk_at "bt"))
local macro_rules | `(tactic| walk_at "hp") => `(tactic| first
  | assumption
  | ((with_reducible refine' SqT.of ?gz); (case gz => walk_at "hp"))
  | ((with_reducible refine' SqL.of ?gz); (case gz => walk_at "hp"))
  | ((with_reducible refine' Same.seqT (by assumption) ?gz); (case gz => walk_at "hp"))
  | ((with_reducible refine' Same.seq (by assumption) ?gz); (case gz => walk_at "hp"))
  | ((with_reducible refine' But.tupP (by assumption) ?gz ?gp); (case gz => walk_at "hp"); (case gp => walk_at "pt"))
  | ((with_reducible refine' But.lst (by assumption) ?gn ?gz); (case gn => exact PotAt.ne (by assumption) (by walk_at "pt")); (case gz => walk_at "hp"))
  | ((with_reducible refine' s_at (by assumption) ?gz); (case gz => walk_at "hp")))
local macro_rules | `(tactic| walk_at "goB") => `(tactic| first
  | ((with_reducible refine' u_dipN ?gh ?gn ?g0 ?g1 ?gk); (case gh => walk_at "pt"); (case gn => omega); (case g0 => first | omega | decide +kernel); (case g1 => first | omega | decide +kernel); intro _ _ _ _ _ _))
local macro_rules | `(tactic| walk_at "goB") => `(tactic| first
  | ((with_reducible refine' u_thing ?gh ?gn ?gk); (case gh => walk_at "pt"); (case gn => omega); intro _ _ _ _ _))
section
variable {P : Program} {w : World} {K : PySem.W.Frag} {mg : Str → Option Value} {base : Heap}
theorem win_at {i : Int} (h0 : 0 ≤ i) (h1 : i < 2) : ∃ z : Str, atI [V.str "near", V.str "far"] i = some (.str z) ∧ WinOk z := by
  obtain ⟨v, hv, z, rfl, hz⟩ := at_all (P := fun v => ∃ z : Str, v = V.str z ∧ WinOk z) (xs := [V.str "near", V.str "far"]) (by
    intro x hx
    simp only [List.mem_cons, List.not_mem_nil, or_false] at hx
    rcases hx with rfl | rfl
    · exact ⟨_, rfl, .inl rfl⟩
    · exact ⟨_, rfl, .inr rfl⟩) h0 (by simp only [List.length_cons, List.length_nil]; omega)
  exact ⟨z, hv, hz⟩
def sp_plain (K : PySem.W.Frag) : Sp := fun vs H Q _ => ∃ p n, vs = [.ref p] ∧ PotAt H p n ∧ 14 ≤ n ∧ ∀ a xs H', But p H H' → PotAt H' p (n - 14) → SqT K H' a xs → PlainOk xs → Q (.ref a) H'
theorem u_plain {p : Addr} {n : Nat} {H : Hp} {Q : VK} {E : XK} (h : PotAt H p n) (hn : 14 ≤ n) (k : ∀ a xs H', But p H H' → PotAt H' p (n - 14) → SqT K H' a xs → PlainOk xs → Q (.ref a) H') : sp_plain K [.ref p] H Q E := ⟨p, n, rfl, h, hn, k⟩
theorem Same.pot {H H' : Hp} {p : Addr} {r : Nat} (s : Same H H') (h : PotAt H p r) : PotAt H' p r := h.same s
theorem sc__law_plain : FnScope ["_law_pot_here", "_law_way", "_law_window", "_law_number_here", "_law_step"] ["_law_pot_here"] (defScope s__law_plain) := C8.fnScope_by (by decide +kernel)
theorem c__law_plain (T : Tx K mg) : C8.Cal P w K mg base 3 "_law_plain" (sp_plain K) [] := by
  refine calD T.d__law_plain T.g__law_plain (fun _ _ _ _ _ _ us hl => match us, hl with | [_], _ => rfl) sc__law_plain (fun vs H Q E ⟨_, _, e, _⟩ => by rw [e]; rfl) fun fd cdv A outer s H vs Q E hr h => ?_
  obtain ⟨p, n, rfl, hP, hn, k⟩ := h
  refine ⟨_, (pss_cons (ps_par3 (i := 1) (j := 2) (l := 3) rfl sc__law_plain.nd rfl rfl rfl (by decide) (by decide) (by decide) rfl rfl rfl (pa_cons (C8.pe_c (c__law_dip T) hr (by decide) rfl (pa_cons (pv 0) (pa_cons pe_int pa_nil))) (pa_cons (pe_ix ix_list (pe_nlst (pa_cons pe_str (pa_cons pe_str pa_nil))) (C8.pe_c (c__law_dip T) hr (by decide) rfl (pa_cons (pv 0) (pa_cons pe_int pa_nil))) (fun _ _ => rfl)) (pa_cons (pe_op op_sub (C8.pe_c (c__law_dip T) hr (by decide) rfl (pa_cons (pv 0) (pa_cons pe_int pa_nil))) pe_int) pa_nil))) (by rfl))
      (pss_cons (ps_if (pt_cmpR op_lt (pv 1) pe_int (nomark _))
        (pss_one (ps_ret (pe_ntup (pa_cons (pe_ix ix_list (pe_nlst (pa_cons pe_str (pa_cons pe_str (pa_cons pe_str pa_nil)))) (pv 1) (fun _ _ => rfl)) (pa_cons (pv 2) (pa_cons (C8.pe_c (c__law_thing T) hr (by decide) rfl (pa_cons (pv 0) pa_nil)) pa_nil))))))
        pss_nil)
      (pss_cons (ps_if (pt_cmpR op_eqI (pv 1) pe_int (nomark _))
        (pss_one (ps_ret (pe_ntup (pa_cons pe_str (pa_cons (pe_op op_add (pv 3) (pe_callTy call_intB rfl T.b_int (by decide +kernel) (pa_cons (pe_cmpR op_ge (pv 3) pe_int (nomark _)) pa_nil))) pa_nil)))))
        pss_nil)
      (pss_cons (ps_if (pt_cmpR op_eqI (pv 1) pe_int (nomark _))
        (pss_cons (ps_set (i := 4) sc__law_plain.nd rfl (Or.inl rfl) (pe_op op_sub (C8.pe_c (c__law_dip T) hr (by decide) rfl (pa_cons (pv 0) (pa_cons pe_int pa_nil))) pe_int))
        (pss_one (ps_ret (pe_ntup (pa_cons pe_str (pa_cons (pv 2) (pa_cons (pe_op op_add (pv 4) (pe_callTy call_intB rfl T.b_int (by decide +kernel) (pa_cons (pe_cmpR op_ge (pv 4) pe_int (nomark _)) pa_nil))) pa_nil)))))))
        pss_nil)
      (pss_one (ps_ret (pe_ntup (pa_cons (pe_ix ix_list (pe_nlst (pa_cons pe_str (pa_cons pe_str pa_nil))) (pe_op op_sub (pv 1) pe_int) (fun _ _ => rfl)) (pa_cons (pv 2) pa_nil))))))))), ?_⟩
  walk_at "st"
  have hsz := sizeLine_eq
  walk_at "go"
  rename_i i1 H1 b1 p1 i10 i11 q2 H2 n2 s2 h2 i3 H3 b3 p3 i30 i31
  obtain ⟨z, hz, wz⟩ := win_at i30 i31
  walk_at "go"
  rename_i i4 H4 b4 p4 i40 i41
  refine if2 (fun e => ?_) (fun e => ?_)
  · have e := of_decide_eq_true e
    obtain ⟨v, hv, kk, rfl, hk⟩ := at_all (P := fun v => ∃ z : Str, v = V.str z ∧ (z = "peg" ∨ z = "hang" ∨ z = "fetch")) (xs := [V.str "peg", V.str "hang", V.str "fetch"]) (by
      intro x hx
      simp only [List.mem_cons, List.not_mem_nil, or_false] at hx
      rcases hx with rfl | rfl | rfl
      · exact ⟨_, rfl, .inl rfl⟩
      · exact ⟨_, rfl, .inr (.inl rfl)⟩
      · exact ⟨_, rfl, .inr (.inr rfl)⟩) i10 (by simp only [List.length_cons, List.length_nil]; omega)
    walk_at "go"
    rename_i q5 H5 n5 s5 h5 t H6 b6 p6 ht q7 H7 n7 s7 h7
    exact k q7 _ H7 (by walk_at "bt") ((p6.same s7).le (by omega)) (SqT.of h7) (.thing kk z t hk wz ht)
  · have e := of_decide_eq_false e
    walk_at "go"
    refine if2 (fun e => ?_) (fun e => ?_)
    · walk_at "go"
      rename_i q5 H5 n5 s5 h5
      refine k q5 _ H5 (by walk_at "bt") ((p4.same s5).le (by omega)) (SqT.of h5) (.pull _ ?_ ?_ ?_)
      · split <;> rename_i h <;> simp only [decide_eq_true_eq] at h <;> omega
      · split <;> omega
      · split <;> omega
    · have e3 := of_decide_eq_false e
      walk_at "go"
      refine if2 (fun e => ?_) (fun e => ?_)
      · walk_at "go"
        rename_i i5 H5 b5 p5 i50 i51 q6 H6 n6 s6 h6
        refine k q6 _ H6 (by walk_at "bt") ((p5.same s6).le (by omega)) (SqT.of h6) (.walk z _ wz ?_ ?_ ?_)
        · split <;> rename_i h <;> simp only [decide_eq_true_eq] at h <;> omega
        · split <;> omega
        · split <;> omega
      · have e4 := of_decide_eq_false e
        obtain ⟨v, hv, kk, rfl, hk⟩ := at_all (P := fun v => ∃ z : Str, v = V.str z ∧ (z = "take" ∨ z = "look")) (xs := [V.str "take", V.str "look"]) (i := i1 - 5) (by
          intro x hx
          simp only [List.mem_cons, List.not_mem_nil, or_false] at hx
          rcases hx with rfl | rfl
          · exact ⟨_, rfl, .inl rfl⟩
          · exact ⟨_, rfl, .inr rfl⟩) (by omega) (by simp only [List.length_cons, List.length_nil]; omega)
        walk_at "go"
        rename_i q5 H5 n5 s5 h5 q6 H6 n6 s6 h6
        exact k q6 _ H6 (by walk_at "bt") (((p4.same s5).same s6).le (by omega)) (SqT.of h6) (.spot kk z hk wz)
local macro_rules | `(tactic| walk_at "goB") => `(tactic| first
  | ((with_reducible refine' u_plain ?gh ?gn ?gk); (case gh => walk_at "pt"); (case gn => omega); intro _ _ _ _ _ _ _))
def sp_ldeed (K : PySem.W.Frag) : Sp := fun vs H Q _ => ∃ p n, vs = [.ref p] ∧ PotAt H p n ∧ 30 ≤ n ∧ ∀ v d H', But p H H' → PotAt H' p (n - 30) → DeedAt K H' v d → DdOk d → Q v H'
theorem u_ldeed {p : Addr} {n : Nat} {H : Hp} {Q : VK} {E : XK} (h : PotAt H p n) (hn : 30 ≤ n) (k : ∀ v d H', But p H H' → PotAt H' p (n - 30) → DeedAt K H' v d → DdOk d → Q v H') : sp_ldeed K [.ref p] H Q E := ⟨p, n, rfl, h, hn, k⟩
theorem sc__law_deed : FnScope ["_law_pot_here", "_law_way", "_law_window", "_law_what"] ["_law_pot_here"] (defScope s__law_deed) := C8.fnScope_by (by decide +kernel)
theorem c__law_deed (T : Tx K mg) : C8.Cal P w K mg base 4 "_law_deed" (sp_ldeed K) [] := by
  refine calD T.d__law_deed T.g__law_deed (fun _ _ _ _ _ _ us hl => match us, hl with | [_], _ => rfl) sc__law_deed (fun vs H Q E ⟨_, _, e, _⟩ => by rw [e]; rfl) fun fd cdv A outer s H vs Q E hr h => ?_
  obtain ⟨p, n, rfl, hP, hn, k⟩ := h
  refine ⟨_, (pss_cons (ps_par (i := 1) (j := 2) rfl sc__law_deed.nd rfl rfl (by decide) rfl rfl (pa_cons (C8.pe_c (c__law_dip T) hr (by decide) rfl (pa_cons (pv 0) (pa_cons pe_int pa_nil))) (pa_cons (pe_ix ix_list (pe_nlst (pa_cons pe_str (pa_cons pe_str pa_nil))) (C8.pe_c (c__law_dip T) hr (by decide) rfl (pa_cons (pv 0) (pa_cons pe_int pa_nil))) (fun _ _ => rfl)) pa_nil)) (by rfl))
      (pss_cons (ps_if (pt_cmpR op_gt (pv 1) pe_int (nomark _))
        (pss_one (ps_ret (C8.pe_c (c__law_plain T) hr (by decide) rfl (pa_cons (pv 0) pa_nil))))
        pss_nil)
      (pss_cons (ps_set (i := 3) sc__law_deed.nd rfl (Or.inl rfl) (pe_ifExp (pt_cmpR op_eqI (C8.pe_c (c__law_dip T) hr (by decide) rfl (pa_cons (pv 0) (pa_cons pe_int pa_nil))) pe_int (nomark _)) pe_non (C8.pe_c (c__law_thing T) hr (by decide) rfl (pa_cons (pv 0) pa_nil))))
      (pss_one (ps_ret (pe_ntup (pa_cons pe_str (pa_cons (pv 2) (pa_cons (pv 3) (pa_cons (C8.pe_c (c__law_plain T) hr (by decide) rfl (pa_cons (pv 0) pa_nil)) pa_nil)))))))))), ?_⟩
  walk_at "st"
  have hsz := sizeLine_eq
  walk_at "go"
  rename_i i1 H1 b1 p1 i10 i11 q2 H2 n2 s2 h2 i3 H3 b3 p3 i30 i31
  obtain ⟨z, hz, wz⟩ := win_at i30 i31
  walk_at "go"
  refine if2 (fun e => ?_) (fun e => ?_)
  · walk_at "go"
    rename_i a xs H5 b5 p5 h5 o5
    exact k _ (.pl xs) H5 (by walk_at "bt") (p5.le (by omega)) ⟨a, rfl, h5⟩ (.pl o5)
  · walk_at "go"
    rename_i i4 H4 b4 p4 i40 i41
    refine if2 (fun e => ?_) (fun e => ?_)
    · walk_at "go"
      rename_i a xs H5 b5 p5 h5 o5 q6 H6 n6 s6 h6
      exact k _ (.whn z none xs) H6 (by walk_at "bt") ((p5.same s6).le (by omega)) ⟨q6, a, rfl, SqT.of h6, Same.seqT s6 h5⟩ (.whn wz (fun _ e => nomatch e) o5)
    · walk_at "go"
      rename_i t H7 b7 p7 t7 a xs H5 b5 p5 h5 o5 q6 H6 n6 s6 h6
      exact k _ (.whn z (some t) xs) H6 (by walk_at "bt") ((p5.same s6).le (by omega)) ⟨q6, a, rfl, SqT.of h6, Same.seqT s6 h5⟩ (.whn wz (fun _ e => by cases e; exact t7) o5)
/-! deeds -/
def sp_ldeeds (K : PySem.W.Frag) : Sp := fun vs H Q _ => ∃ p n m, vs = [.ref p, .int m] ∧ PotAt H p n ∧ 400 ≤ n ∧ 0 ≤ m ∧ m ≤ 9 ∧ ∀ t ds H', But p H H' → PotAt H' p (n - 400) → DeedsAt K H' t ds → (∀ d ∈ ds, DdOk d) → (ds.length : Int) ≤ m → Q (.ref t) H'
theorem u_ldeeds {p : Addr} {n : Nat} {m : Int} {H : Hp} {Q : VK} {E : XK} (h : PotAt H p n) (hn : 400 ≤ n) (m0 : 0 ≤ m) (m1 : m ≤ 9) (k : ∀ t ds H', But p H H' → PotAt H' p (n - 400) → DeedsAt K H' t ds → (∀ d ∈ ds, DdOk d) → (ds.length : Int) ≤ m → Q (.ref t) H') : sp_ldeeds K [.ref p, .int m] H Q E := ⟨p, n, m, rfl, h, hn, m0, m1, k⟩
theorem sc__law_deeds : FnScope ["_law_pot_here", "_law_most", "_law_k"] ["_law_pot_here", "_law_most"] (defScope s__law_deeds) := C8.fnScope_by (by decide +kernel)
theorem c__law_deeds (T : Tx K mg) : C8.Cal P w K mg base 5 "_law_deeds" (sp_ldeeds K) [] := by
  refine calD T.d__law_deeds T.g__law_deeds (fun _ _ _ _ _ _ us hl => match us, hl with | [_, _], _ => rfl) sc__law_deeds (fun vs H Q E ⟨_, _, _, e, _⟩ => by rw [e]; rfl) fun fd cdv A outer s H vs Q E hr h => ?_
  obtain ⟨p, n, m, rfl, hP, hn, m0, m1, k⟩ := h
  refine ⟨_, (pss_one (ps_ret (pe_callTy call_ntuple rfl T.b_tuple (by decide +kernel) (pa_cons (pe_lc (own := [("_law_k", 2)]) rfl sc__law_deeds.nd (pj_range1 rfl T.b_range (pa_cons (C8.pe_c (c__law_dip T) hr (by decide) rfl (pa_cons (pv 0) (pa_cons (pe_op op_add (pv 1) pe_int) pa_nil))) pa_nil)) (blkOk_by (N := ["_law_pot_here", "_law_most", "_law_k"]) (sc := defScope s__law_deeds) (by decide +kernel)) (fun _ _ _ _ _ => (pg_name (i := 2) sc__law_deeds.nd rfl (Or.inl rfl))) (fun _ _ _ _ _ => pts_nil) (fun _ _ _ _ _ => (C8.pe_c (c__law_deed T) hr (by decide) rfl (pa_cons (pv 0) pa_nil)))) pa_nil)))), ?_⟩
  walk_at "st"
  have hsz := sizeLine_eq
  walk_at "go"
  rename_i i2 H2 b2 p2 i20 i21
  refine lc_inv walk_range p ⟨_, p2.at.choose_spec⟩ (fun i l H' => But p H2 H' ∧ PotAt H' p (n - 1 - 30 * i) ∧ ∃ ds : List Dd, Paired (DeedAt K H') l ds ∧ l.length = i ∧ ∀ d ∈ ds, DdOk d) (by omega) (fun i l H' _ h => by
    obtain ⟨_, _, ds, _, hl, _⟩ := h
    omega) (fun D hD => ⟨But.refl.newD hD, p2.but (fun c o nc e => by rw [upd_ne nc]; exact e) (Ne.symm (p2.ne hD)), [], .nil, rfl, by simp⟩)
    (fun i l H3 H4 D xs hD h3 b ⟨c1, c2, ds, c3, c4, c5⟩ => ⟨c1.fr hD b, c2.but b (Ne.symm (p2.ne hD)), ds, PySem.Paired.mono (fun _ _ h => DeedAt.but b h3 h) c3, c4, c5⟩) ?_ ?_
  · rintro i v l H3 H4 kk ee hi ⟨c1, c2, ds, c3, c4, c5⟩ ⟨rfl, rfl⟩ hk _
    refine g_name ⟨rfl, ?_⟩
    refine g_yes ?_
    walk_at "go"
    refine u_ldeed c2 (by omega) fun v d H5 b5 p5 h5 o5 => ?_
    obtain ⟨us, hu⟩ := c2.at
    refine hk _ H5 b5 ⟨c1.trans b5, p5.le (by omega), ds ++ [d], pr_app (PySem.Paired.mono (fun _ _ h => DeedAt.but b5 hu h) c3) (.cons h5 .nil), by rw [List.length_append, c4]; rfl, fun x hx => ?_⟩
    rcases List.mem_append.mp hx with hx | hx
    · exact c5 x hx
    · rw [List.mem_singleton.mp hx]
      exact o5
  · rintro q H3 l nq ⟨c1, c2, ds, c3, c4, c5⟩ h3
    have hl := c3.length
    walk_at "go"
    rename_i q4 H4 s4 h4
    exact k q4 ds H4 (by walk_at "bt") ((c2.same s4).le (by omega)) ⟨l, h4, PySem.Paired.mono (fun _ _ h => h.mono s4) c3⟩ c5 (by omega)
end
end RL
set_option maxHeartbeats 4000000
namespace RL
open PySem PySem.Spec PyProof.Rows L2
local macro_rules | `(tactic| walk_at "hp") => `(tactic| first
  | assumption
  | ((with_reducible refine' SqT.of ?gz); (case gz => walk_at "hp"))
  | ((with_reducible refine' SqL.of ?gz); (case gz => walk_at "hp"))
  | ((with_reducible refine' Same.seqT (by assumption) ?gz); (case gz => walk_at "hp"))
  | ((with_reducible refine' Same.seq (by assumption) ?gz); (case gz => walk_at "hp"))
  | ((with_reducible refine' s_at (by assumption) ?gz); (case gz => walk_at "hp"))
  | ((with_reducible refine' dp_mono (by assumption) ?gz); (case gz => walk_at "hp")))
local macro_rules | `(tactic| walk_at "sm") => `(tactic| first
  | assumption
  | exact Same.refl _
  | (with_reducible refine Same.trans ?_ (by assumption); walk_at "sm"))
local macro_rules | `(tactic| walk_at "st") => `(tactic| try dsimp only [cxOf, L2.Cx.nox, L2.Cx.wish])
local macro_rules | `(tactic| walk_at "sz") => `(tactic| (have := sizeLine_eq; (try simp only [List.length_append, List.length_map, List.length_take, List.length_drop, List.length_cons, List.length_nil]); omega))
local macro_rules | `(tactic| walk_at "lk") => `(tactic| fail)
local macro_rules | `(tactic| walk_at "goB") => `(tactic| fail)
local macro_rules | `(tactic| walk_at "goT") => `(tactic| fail)
local macro_rules | `(tactic| walk_at "goA") => `(tactic| first
  | (with_reducible first
    | refine ifT rfl ?_
    | refine ifF rfl ?_)
  | ((with_reducible refine' g_gtup ?gh ?gl ?gk); (case gh => walk_at "hp"); (case gl => rfl))
  | ((with_reducible refine' g_ixT ?gh ?gl ?gk); (case gh => walk_at "hp"); (case gl => first | rfl | assumption))
  | ((with_reducible refine' g_ixL ?gh ?gl ?gk); (case gh => walk_at "hp"); (case gl => first | rfl | assumption))
  | ((with_reducible refine' g_lenT ?gh ?gk); (case gh => walk_at "hp"))
  | ((with_reducible refine' g_lenL ?gh ?gk); (case gh => walk_at "hp"))
  | ((with_reducible refine' g_inT ?gh ?gf ?gl ?gk); (case gh => walk_at "hp"); (case gf => rfl); (case gl => rfl))
  | ((with_reducible refine' g_isi (d := true) ?gh ?gl ?gk); (case gh => first | exact ty_tup (by walk_at "hp") | exact .base (.int _) | exact .base (.str _)); (case gl => exact kit_ty (by decide +kernel)))
  | ((with_reducible refine' g_isi (d := false) ?gh ?gl ?gk); (case gh => first | exact ty_tup (by walk_at "hp") | exact .base (.int _) | exact .base (.str _)); (case gl => exact kit_ty (by decide +kernel)))
  | ((with_reducible refine' g_new ?gl ?gk); (case gl => first | exact Nat.le_of_ble_eq_true rfl | walk_at "sz"))
  | ((with_reducible refine' g_ilstv ?gh ?gk); (case gh => walk_at "hp"))
  | ((with_reducible refine' g_itupv ?gh ?gk); (case gh => walk_at "hp"))
  | ((with_reducible refine' g_ienumv ?gh ?gk); (case gh => walk_at "hp"))
  | ((with_reducible refine' g_ienTv ?gh ?gk); (case gh => walk_at "hp"))
  | ((with_reducible refine' g_slT ?gh ?gk); (case gh => walk_at "hp"); intro _ _ _ _)
  | ((with_reducible refine' g_slL ?gh ?gk); (case gh => walk_at "hp"))
  | ((with_reducible refine' g_catT ?gh ?gl ?gm ?gk); (case gh => walk_at "hp"); (case gl => walk_at "hp"); (case gm => walk_at "sz"); intro _ _ _ _)
  | ((with_reducible refine' g_catL ?gh ?gl ?gm ?gk); (case gh => walk_at "hp"); (case gl => walk_at "hp"); (case gm => walk_at "sz"))
  | ((with_reducible refine' g_tupL ?gh ?gk); (case gh => walk_at "hp"); intro _ _ _ _)
  | ((with_reducible refine' g_tupT ?gh ?gk); (case gh => walk_at "hp"); intro _ _ _ _)
  | ((with_reducible refine' g_starT ?gh ?gk); (case gh => walk_at "hp"))
  | ((with_reducible refine' g_starL ?gh ?gk); (case gh => walk_at "hp"))
  | ((with_reducible refine' g_tyL ?gh ?gk); (case gh => walk_at "hp"))
  | ((with_reducible refine' g_app ?gh ?gl ?gk); (case gh => walk_at "hp"); (case gl => walk_at "sz"))
  | ((with_reducible refine' g_inL ?gh ?gf ?gl ?gk); (case gh => walk_at "hp"); (case gf => rfl); (case gl => first | rfl | assumption))
  | ((with_reducible refine' g_irng1v ?gh ?gl ?gk); (case gh => omega); (case gl => omega))
  | ((with_reducible refine' g_irng2v ?gh ?gk); (case gh => omega))
  | ((with_reducible refine g_NewT ?_); intro _ _ _ _ _)
  | ((with_reducible refine' g_fldv ?gh ?gc ?gn ?gl ?gk); (case gh => walk_at "hp"); (case gc => assumption); (case gn => assumption); (case gl => first | rfl | walk_at "lk"))
  | ((with_reducible refine' g_fldw ?gh ?gc ?gn ?gl ?gk); (case gh => walk_at "hp"); (case gc => assumption); (case gn => assumption); (case gl => exact Nat.le_of_ble_eq_true rfl))
  | ((with_reducible refine' g_own2 ?gh ?gl ?gk); (case gh => walk_at "hp"); (case gl => walk_at "hp"))
  | ((with_reducible refine' g_own1 ?gh ?gk); (case gh => walk_at "hp"))
  | ((with_reducible refine' g_ownI ?gh ?gk); (case gh => walk_at "hp"))
  | ((with_reducible refine' g_recv ?gh ?gl ?gk); (case gh => walk_at "hp"); (case gl => walk_at "lk"))
  | ((with_reducible refine' g_lenS ?gh ?gk); (case gh => (have := sizeLine_eq; omega)))
  | ((with_reducible refine' ifT ?gh ?gk); (case gh => first | exact decide_eq_true (by omega) | exact nf (decide_eq_false (by omega)) | decide +kernel))
  | ((with_reducible refine' ifF ?gh ?gk); (case gh => first | exact decide_eq_false (by omega) | exact nt (decide_eq_true (by omega)) | decide +kernel)))
local macro_rules | `(tactic| walk_at "go1") => `(tactic| first
  | (with_reducible first
    | refine g_var rfl ?_
    | refine g_op ?_
    | refine g_cons ?_
    | refine g_nil ?_
    | refine g_c ?_
    | refine g_cb ?_
    | refine g_call ?_
    | refine g_seq ?_
    | refine g_asg ?_
    | refine g_name ?_
    | refine g_fld ?_
    | refine g_meth ?_
    | refine g_ifS ?_
    | refine g_if ?_
    | refine g_ret ?_
    | refine g_test ?_
    | refine g_tB ?_
    | refine g_bl ?_
    | refine g_and ?_
    | refine g_or ?_
    | refine g_not ?_
    | refine g_andV ?_
    | refine g_orV ?_
    | refine g_notV ?_
    | refine g_chain ?_
    | refine g_un ?_
    | refine g_ntup ?_
    | refine g_nlst ?_
    | refine g_drop ?_
    | refine g_next ?_
    | refine g_par ?_
    | refine g_par3 ?_
    | refine g_e2 ?_
    | refine g_e3 ?_
    | refine g_retN ?_
    | refine g_gcons ?_
    | refine g_gnil ?_
    | refine g_rI0 ?_
    | refine g_rU ?_
    | refine g_rSS ?_
    | refine g_rBB ?_
    | refine g_sib ?_
    | refine g_sii ?_
    | refine g_lc ?_
    | refine g_for ?_
    | refine g_istr ?_
    | refine g_istrv ?_
    | refine g_ilst ?_
    | refine g_itup ?_
    | refine g_irng1 ?_
    | refine g_irng2 ?_
    | refine g_ienum ?_
    | refine g_abs ?_
    | refine g_mx ?_
    | refine g_mn ?_
    | refine g_isN ?_
    | refine g_inC ?_
    | refine g_nfld ?_
    | refine g_ienT ?_
    | refine g_sl ?_
    | refine g_np ?_
    | refine g_pt ?_
    | refine g_ptv ?_
    | refine g_star ?_
    | refine g_bmL ?_)
  | walk_at "goA"
  | walk_at "goT"
  | walk_at "goB")
local macro_rules | `(tactic| walk_at "go") => `(tactic| repeat walk_at "go1")
local macro_rules | `(tactic| walk_at "tl") => `(tactic| first | (with_reducible exact tx_lt _) | exact (SX.S_tl _).symm | exact rfl)
local macro_rules | `(tactic| walk_at "ts") => `(tactic| (have := sizeLine_eq; (try simp only [tx_len, List.length_append, List.length_cons, List.length_nil]); first | omega | (decide +kernel)))
local macro_rules | `(tactic| walk_at "goT") => `(tactic| first
  | (with_reducible first
    | refine g_m0 ?_
    | refine g_m1 ?_
    | refine g_str ?_
    | refine g_starts ?_
    | refine g_ends ?_
    | refine g_isdig ?_
    | refine g_js ?_
    | refine g_nt ?_
    | refine g_jsn ?_
    | refine g_jsc ?_
    | refine g_fmt ?_)
  | ((with_reducible refine' g_slS ?gh ?gk); (case gh => walk_at "ts"))
  | ((with_reducible refine' g_jsv ?ge ?gn ?gk); (case ge => walk_at "tl"); (case gn => walk_at "ts"))
  | ((with_reducible refine' g_fmtS ?gn ?gk); (case gn => walk_at "ts"))
  | ((with_reducible refine' g_addS ?ge ?gf ?gn ?gk); (case ge => walk_at "tl"); (case gf => walk_at "tl"); (case gn => walk_at "ts"))
  | ((with_reducible refine' g_tru ?gn ?gk); (case gn => walk_at "ts"))
  | ((with_reducible refine' g_truT ?gh ?gk); (case gh => walk_at "hp"))
  | ((with_reducible refine' g_unl ?gh ?gl ?gk); (case gh => walk_at "hp"); (case gl => rfl)))
local macro_rules | `(tactic| walk_at "pt") => `(tactic| first
  | assumption
  | ((with_reducible refine' PotAt.same ?gz (by assumption)); (case gz => walk_at "pt")))
local macro_rules | `(tactic| walk_at "bt") => `(tactic| first
  | assumption
  | exact But.refl
  | (with_reducible refine But.trans ?_ (by assumption); walk_at "bt")
  | (with_reducible refine But.trans ?_ (But.of (by assumption)); walk_at "bt"))
local macro_rules | `(tactic| walk_at "hp") => `(tactic| first
  | assumption
  | ((with_reducible refine' SqT.of ?gz); (case gz => walk_at "hp"))
  | ((with_reducible refine' SqL.of ?gz); (case gz => walk_at "hp"))
  | ((with_reducible refine' Same.seqT (by assumption) ?gz); (case gz => walk_at "hp"))
  | ((with_reducible refine' Same.seq (by assumption) ?gz); (case gz => walk_at "hp"))
  | ((with_reducible refine' But.tupP (by assumption) ?gz ?gp); (case gz => walk_at "hp"); (case gp => walk_at "pt"))
  | ((with_reducible refine' But.lst (by assumption) ?gn ?gz); (case gn => exact PotAt.ne (by assumption) (by walk_at "pt")); (case gz => walk_at "hp"))
  | ((with_reducible refine' s_at (by assumption) ?gz); (case gz => walk_at "hp")))
local macro_rules | `(tactic| walk_at "goB") => `(tactic| first
  | ((with_reducible refine' u_dipN ?gh ?gn ?g0 ?g1 ?gk); (case gh => walk_at "pt"); (case gn => omega); (case g0 => first | omega | decide +kernel); (case g1 => first | omega | decide +kernel); intro _ _ _ _ _ _))
local macro_rules | `(tactic| walk_at "lk") => `(tactic| first | exact lk_kept | exact lk_no (by decide +kernel))
section
variable {P : Program} {w : World} {K : PySem.W.Frag} {mg : Str → Option Value} {base : Heap}
theorem drop_back (a b : List Dd) (x : Dd) : dropAt (a ++ ([x] ++ b)) [(a.length : Int)] = a ++ b := by
  unfold dropAt
  have e1 : (a ++ ([x] ++ b)).length = a.length + (1 + b.length) := by
    simp only [List.length_append, List.length_cons, List.length_nil]
  rw [e1, List.range_add, List.range_add, List.filter_append, List.map_append, List.map_append, List.filter_append, List.map_append]
  congr 1
  · rw [List.filter_eq_self.mpr]
    · refine List.ext_getElem (by simp) fun i h1 h2 => ?_
      rw [List.getElem_map, List.getElem_range, List.getElem?_append_left h2, List.getElem?_eq_getElem h2]
      rfl
    · intro i hi
      have := List.mem_range.mp hi
      rw [Bool.not_eq_true', decide_eq_false_iff_not, List.mem_singleton]
      omega
  · have f1 : List.filter (fun i : Nat => !decide ((i : Int) ∈ [(a.length : Int)])) ((List.range 1).map (a.length + ·)) = [] := by
      simp
    rw [f1, List.map_nil, List.nil_append, List.map_map, List.filter_eq_self.mpr]
    · refine List.ext_getElem (by simp only [List.length_map, List.length_range]) fun i h1 h2 => ?_
      rw [List.getElem_map, List.getElem_map, List.getElem_range]
      show (a ++ ([x] ++ b))[a.length + (1 + i)]?.getD _ = _
      rw [List.getElem?_append_right (by omega), show a.length + (1 + i) - a.length = i + 1 by omega]
      show (x :: b)[i + 1]?.getD _ = _
      rw [List.getElem?_cons_succ, List.getElem?_eq_getElem h2]
      rfl
    · intro i hi
      obtain ⟨j, _, rfl⟩ := List.mem_map.mp hi
      rw [Bool.not_eq_true', decide_eq_false_iff_not, List.mem_singleton]
      show ¬ ((a.length + (1 + _) : Nat) : Int) = _
      omega
theorem swap_back (a b : List Dd) (x y : Dd) : swapAt (a ++ ([y, x] ++ b)) a.length = a ++ ([x, y] ++ b) := by
  unfold swapAt
  have g1 : (a ++ ([y, x] ++ b))[a.length + 1]? = some x := by
    rw [List.getElem?_append_right (by omega), show a.length + 1 - a.length = 1 by omega]
    rfl
  have g0 : (a ++ ([y, x] ++ b))[a.length]? = some y := by
    rw [List.getElem?_append_right (by omega), Nat.sub_self]
    rfl
  have g2 : (a ++ ([y, x] ++ b)).drop (a.length + 2) = b := by
    rw [List.drop_append, List.drop_eq_nil_of_le (by omega), show a.length + 2 - a.length = 2 by omega]
    rfl
  rw [List.take_left, g1, g0, g2]
  rfl
def sp_made (K : PySem.W.Frag) : Sp := fun vs H Q _ => ∃ p t n ds, vs = [.ref p, .ref t] ∧ PotAt H p n ∧ 2 ≤ n ∧ DeedsAt K H t ds ∧ (∀ d ∈ ds, DdOk d) ∧ ds.length ≤ 9 ∧ ∀ r H', But p H H' → PotAt H' p (n - 2) → PlanAt K H' r ds → Q (.ref r) H'
theorem u_made {p t : Addr} {n : Nat} {ds : List Dd} {H : Hp} {Q : VK} {E : XK} (h : PotAt H p n) (hn : 2 ≤ n) (h2 : DeedsAt K H t ds) (o : ∀ d ∈ ds, DdOk d) (l : ds.length ≤ 9) (k : ∀ r H', But p H H' → PotAt H' p (n - 2) → PlanAt K H' r ds → Q (.ref r) H') : sp_made K [.ref p, .ref t] H Q E := ⟨p, t, n, ds, rfl, h, hn, h2, o, l, k⟩
theorem DeedsAt.pot {H H' : Hp} {p t : Addr} {r : Nat} {ds : List Dd} (b : But p H H') (hp : PotAt H p r) : DeedsAt K H t ds → DeedsAt K H' t ds := fun ⟨as, h, pr⟩ => by
  obtain ⟨us, hu⟩ := hp.at
  exact ⟨as, b.tup hu h, PySem.Paired.mono (fun _ _ h => DeedAt.but b hu h) pr⟩
theorem sc__law_made : FnScope ["_law_pot_here", "_law_row_here", "_law_way", "_law_size", "_law_spot"] ["_law_pot_here", "_law_row_here"] (defScope s__law_made) := C8.fnScope_by (by decide +kernel)
theorem c__law_made (T : Tx K mg) : C8.Cal P w K mg base 8 "_law_made" (sp_made K) [] := by
  refine calD T.d__law_made T.g__law_made (fun _ _ _ _ _ _ us hl => match us, hl with | [_, _], _ => rfl) sc__law_made (fun vs H Q E ⟨_, _, _, _, e, _⟩ => by rw [e]; rfl) fun fd cdv A outer s H vs Q E hr h => ?_
  obtain ⟨p, t, n, ds, rfl, hP, hn, hD, o, l, k⟩ := h
  refine ⟨_, (pss_cons (ps_par3 (i := 2) (j := 3) (l := 4) rfl sc__law_made.nd rfl rfl rfl (by decide) (by decide) (by decide) rfl rfl rfl (pa_cons (C8.pe_c (c__law_dip T) hr (by decide) rfl (pa_cons (pv 0) (pa_cons pe_int pa_nil))) (pa_cons (pe_callB call_nlen rfl T.b_len (by decide +kernel) (pa_cons (pv 1) pa_nil)) (pa_cons (C8.pe_c (c__law_dip T) hr (by decide) rfl (pa_cons (pv 0) (pa_cons (pe_op op_add (pe_callB call_nlen rfl T.b_len (by decide +kernel) (pa_cons (pv 1) pa_nil)) pe_int) pa_nil))) pa_nil))) (by rfl))
      (pss_cons (ps_if (pt_cmpR op_eqI (pv 2) pe_int (nomark _))
        (pss_one (ps_ret (pe_op (o_Plan_Add T hr (by decide)) (pe_cm (m_Plan T) hr (by decide) rfl (pa_cons (pe_slice sl_ntup (pv 1) po_none (po_some (pv 4))) pa_nil)) (pe_cm (m_Plan T) hr (by decide) rfl (pa_cons (pe_slice sl_ntup (pv 1) (po_some (pv 4)) po_none) pa_nil)))))
        pss_nil)
      (pss_cons (ps_if (PW.pt (pw_and (pt_cmpR op_eqI (pv 2) pe_int (nomark _)) (pw_and1 (pt_cmpR op_lt (pv 3) pe_int (nomark _)))))
        (pss_one (ps_ret (C8.pe_mt (c_Plan_without T) hr (by decide) (pe_cm (m_Plan T) hr (by decide) rfl (pa_cons (pe_op op_ncat (pe_op op_ncat (pe_slice sl_ntup (pv 1) po_none (po_some (pv 4))) (pe_ntup (pa_cons (pe_ntup (pa_cons pe_str (pa_cons pe_int pa_nil))) pa_nil))) (pe_slice sl_ntup (pv 1) (po_some (pv 4)) po_none)) pa_nil)) (pa_cons (pe_ntup (pa_cons (pv 4) pa_nil)) pa_nil))))
        pss_nil)
      (pss_cons (ps_if (PW.pt (pw_and (pt_cmpR op_eqI (pv 2) pe_int (nomark _)) (pw_and1 (pt_cmpR op_lt (pe_op op_add (pv 4) pe_int) (pv 3) (nomark _)))))
        (pss_one (ps_ret (C8.pe_mt (c_Plan_exchanged T) hr (by decide) (pe_cm (m_Plan T) hr (by decide) rfl (pa_cons (pe_op op_ncat (pe_op op_ncat (pe_slice sl_ntup (pv 1) po_none (po_some (pv 4))) (pe_ntup (pa_cons (pe_ix ix_tup (pv 1) (pe_op op_add (pv 4) pe_int) (fun _ _ => rfl)) (pa_cons (pe_ix ix_tup (pv 1) (pv 4) (fun _ _ => rfl)) pa_nil)))) (pe_slice sl_ntup (pv 1) (po_some (pe_op op_add (pv 4) pe_int)) po_none)) pa_nil)) (pa_cons (pv 4) pa_nil))))
        pss_nil)
      (pss_one (ps_ret (pe_cm (m_Plan T) hr (by decide) rfl (pa_cons (pv 1) pa_nil)))))))), ?_⟩
  walk_at "st"
  have hsz := sizeLine_eq
  obtain ⟨as0, ht0, pr0⟩ := id hD
  have l0 := pr0.length
  walk_at "go"
  rename_i i1 H1 b1 p1 i10 i11 i2 H2 b2 p2 i20 i21
  obtain ⟨s, rfl⟩ := Int.eq_ofNat_of_zero_le i20
  have hs : s ≤ ds.length := by omega
  have D2 : DeedsAt K H2 t ds := (hD.pot b1 hP).pot b2 p1
  obtain ⟨as, ht, pr⟩ := id D2
  have l2 := pr.length
  have e2 : ((s : Int) + 1) = ((s + 1 : Nat) : Int) := by omega
  have e3 : ((s : Int) + 2) = ((s + 2 : Nat) : Int) := by omega
  have okT : ∀ j, ∀ d ∈ ds.take j, DdOk d := fun j d hd => o d (List.mem_of_mem_take hd)
  have okD : ∀ j, ∀ d ∈ ds.drop j, DdOk d := fun j d hd => o d (List.mem_of_mem_drop hd)
  refine if2 (fun e => ?_) (fun e => ?_)
  · walk_at "go"
    rename_i q3 H3 s3 h3
    rw [cut_to] at h3
    refine u_Plan (ds := ds.take s) ⟨_, h3, pr_take (PySem.Paired.mono (fun _ _ h => h.mono s3) pr) s⟩ (by rw [List.length_take]; omega) (okT s) fun q4 H4 s4 n4 P4 => ?_
    walk_at "go"
    rename_i q5 H5 s5 h5
    rw [cut_from] at h5
    have s25 := (s3.trans s4).trans s5
    refine u_Plan (ds := ds.drop s) ⟨_, h5, pr_drop (PySem.Paired.mono (fun _ _ h => h.mono s25) pr) s⟩ (by rw [List.length_drop]; omega) (okD s) fun q6 H6 s6 n6 P6 => ?_
    have P46 := P4.mono (s5.trans s6)
    obtain ⟨dx4, u4, g4, _⟩ := id P46
    obtain ⟨dx6, u6, g6, _⟩ := id P6
    walk_at "go"
    refine u_Plan_add P46 P6 (by rw [← List.length_append, List.take_append_drop]; omega) (okT s) (okD s) fun r H7 s7 n7 P7 => ?_
    rw [List.take_append_drop] at P7
    walk_at "go"
    have s27 : Same H2 H7 := (s25.trans s6).trans s7
    exact k r H7 ((b1.trans b2).trans (But.of s27)) ((p2.same s27).le (by omega)) P7
  · walk_at "go"
    refine if2 (fun e => ?_) (fun e => ?_)
    · walk_at "go"
      rename_i q3 H3 s3 h3 q4 H4 n4 s4 h4 q5 H5 n5 s5 h5
      rw [cut_to] at h3
      walk_at "go"
      rename_i q6 H6 s6 h6 q7 H7 s7 h7
      rw [cut_from] at h7
      walk_at "go"
      rename_i q8 H8 s8 h8
      have s28 : Same H2 H8 := by walk_at "sm"
      have ok7 : DdOk (.pl [.str "pull", .int 7]) := .pl (.pull 7 (by decide) (by decide) (by decide))
      have lt1 : (ds.take s).length = s := by rw [List.length_take]; omega
      have pr8 : Paired (DeedAt K H8) (as.take s ++ [.ref q4] ++ as.drop s) (ds.take s ++ ([.pl [.str "pull", .int 7]] ++ ds.drop s)) := by
        rw [List.append_assoc]
        have prm : Paired (DeedAt K H8) as ds := PySem.Paired.mono (fun _ _ h => h.mono s28) pr
        exact pr_app (pr_take prm s) (pr_app (.cons ⟨q4, rfl, SqT.of (s_at ((s5.trans s6).trans (s7.trans s8)) h4)⟩ .nil) (pr_drop prm s))
      have oks : ∀ d ∈ ds.take s ++ ([.pl [.str "pull", .int 7]] ++ ds.drop s), DdOk d := fun d hd => by
        rcases List.mem_append.mp hd with hd | hd
        · exact okT s d hd
        · rcases List.mem_append.mp hd with hd | hd
          · rw [List.mem_singleton.mp hd]
            exact ok7
          · exact okD s d hd
      have len8 : (ds.take s ++ ([Dd.pl [.str "pull", .int 7]] ++ ds.drop s)).length = ds.length + 1 := by
        simp only [List.length_append, List.length_take, List.length_drop, List.length_cons, List.length_nil]
        omega
      refine u_Plan ⟨_, h8, pr8⟩ (by rw [len8]; omega) oks fun q9 H9 s9 n9 P9 => ?_
      obtain ⟨dx9, u9, g9, _⟩ := id P9
      walk_at "go"
      rename_i q10 H10 n10 s10 h10
      refine u_Plan_without (ns := [(s : Int)]) (P9.mono s10) (SqT.of h10) (by simp) (fun x hx => by
        rw [List.mem_singleton.mp hx, len8]
        omega) (by rw [len8]; omega) (by simp) oks fun r H11 s11 n11 P11 => ?_
      have db := drop_back (ds.take s) (ds.drop s) (.pl [.str "pull", .int 7])
      rw [lt1] at db
      rw [db, List.take_append_drop] at P11
      walk_at "go"
      have s2x : Same H2 H11 := ((s28.trans s9).trans s10).trans s11
      exact k r H11 ((b1.trans b2).trans (But.of s2x)) ((p2.same s2x).le (by omega)) P11
    · have e1 := of_decide_eq_false e
      walk_at "go"
      refine if2 (fun e => ?_) (fun e => ?_)
      · walk_at "go"
        refine if2 (fun e => ?_) (fun e => ?_)
        · have hs1 : s + 1 < ds.length := by
            have := of_decide_eq_true e
            omega
          have g1 : as[s + 1]? = some (as[s + 1]'(by omega)) := List.getElem?_eq_getElem _
          have g0 : as[s]? = some (as[s]'(by omega)) := List.getElem?_eq_getElem _
          have a0 := atI_nat g0
          have a1 := atI_nat g1
          rw [← e2] at a1
          walk_at "go"
          rename_i q3 H3 s3 h3 q4 H4 n4 s4 h4
          rw [cut_to] at h3
          walk_at "go"
          rename_i q6 H6 s6 h6 q7 H7 s7 h7
          rw [e3, cut_from] at h7
          walk_at "go"
          rename_i q8 H8 s8 h8
          have s28 : Same H2 H8 := by walk_at "sm"
          have lt1 : (ds.take s).length = s := by rw [List.length_take]; omega
          have d1 : ds[s + 1]? = some (ds[s + 1]'(by omega)) := List.getElem?_eq_getElem _
          have d0 : ds[s]? = some (ds[s]'(by omega)) := List.getElem?_eq_getElem _
          have prm : Paired (DeedAt K H8) as ds := PySem.Paired.mono (fun _ _ h => h.mono s28) pr
          obtain ⟨x1, y1, z1⟩ := pr_get prm g1
          obtain ⟨x0, y0, z0⟩ := pr_get prm g0
          have pr8 : Paired (DeedAt K H8) (as.take s ++ [as[s + 1]'(by omega), as[s]'(by omega)] ++ as.drop (s + 2)) (ds.take s ++ ([x1, x0] ++ ds.drop (s + 2))) := by
            rw [List.append_assoc]
            exact pr_app (pr_take prm s) (pr_app (.cons z1 (.cons z0 .nil)) (pr_drop prm (s + 2)))
          have oks : ∀ d ∈ ds.take s ++ ([x1, x0] ++ ds.drop (s + 2)), DdOk d := fun d hd => by
            rcases List.mem_append.mp hd with hd | hd
            · exact okT s d hd
            · rcases List.mem_append.mp hd with hd | hd
              · rcases List.mem_cons.mp hd with rfl | hd
                · exact o _ (List.mem_of_getElem? y1)
                · rw [List.mem_singleton.mp hd]
                  exact o _ (List.mem_of_getElem? y0)
              · exact okD (s + 2) d hd
          have len8 : (ds.take s ++ ([x1, x0] ++ ds.drop (s + 2))).length = ds.length := by
            simp only [List.length_append, List.length_take, List.length_drop, List.length_cons, List.length_nil]
            omega
          have back : ds.take s ++ ([x0, x1] ++ ds.drop (s + 2)) = ds := by
            have e5 : ds.drop s = x0 :: x1 :: ds.drop (s + 2) := by
              rw [List.drop_eq_getElem_cons (show s < ds.length by omega), List.drop_eq_getElem_cons hs1]
              rw [y0] at d0
              rw [y1] at d1
              rw [← Option.some.inj d0, ← Option.some.inj d1]
            have z := List.take_append_drop s ds
            rw [e5] at z
            exact z
          refine u_Plan ⟨_, h8, pr8⟩ (by rw [len8]; omega) oks fun q9 H9 s9 n9 P9 => ?_
          obtain ⟨dx9, u9, g9, _⟩ := id P9
          walk_at "go"
          refine u_Plan_exchanged P9 (by rw [len8]; omega) (by rw [len8]; omega) oks fun r H11 s11 n11 P11 => ?_
          have db := swap_back (ds.take s) (ds.drop (s + 2)) x0 x1
          rw [lt1, back] at db
          rw [db] at P11
          walk_at "go"
          have s2x : Same H2 H11 := (s28.trans s9).trans s11
          exact k r H11 ((b1.trans b2).trans (But.of s2x)) ((p2.same s2x).le (by omega)) P11
        · walk_at "go"
          refine u_Plan D2 (by omega) o fun r H3 s3 n3 P3 => ?_
          walk_at "go"
          exact k r H3 ((b1.trans b2).trans (But.of s3)) ((p2.same s3).le (by omega)) P3
      · walk_at "go"
        refine u_Plan D2 (by omega) o fun r H3 s3 n3 P3 => ?_
        walk_at "go"
        exact k r H3 ((b1.trans b2).trans (But.of s3)) ((p2.same s3).le (by omega)) P3
end
end RL
set_option maxHeartbeats 4000000
namespace RL
open PySem PySem.Spec PyProof.Rows L2
local macro_rules | `(tactic| walk_at "hp") => `(tactic| first
  | assumption
  | ((with_reducible refine' SqT.of ?gz); (case gz => walk_at "hp"))
  | ((with_reducible refine' SqL.of ?gz); (case gz => walk_at "hp"))
  | ((with_reducible refine' Same.seqT (by assumption) ?gz); (case gz => walk_at "hp"))
  | ((with_reducible refine' Same.seq (by assumption) ?gz); (case gz => walk_at "hp"))
  | ((with_reducible refine' s_at (by assumption) ?gz); (case gz => walk_at "hp"))
  | ((with_reducible refine' dp_mono (by assumption) ?gz); (case gz => walk_at "hp")))
local macro_rules | `(tactic| walk_at "sm") => `(tactic| first
  | assumption
  | exact Same.refl _
  | (with_reducible refine Same.trans ?_ (by assumption); walk_at "sm"))
local macro_rules | `(tactic| walk_at "st") => `(tactic| try dsimp only [cxOf, L2.Cx.nox, L2.Cx.wish])
local macro_rules | `(tactic| walk_at "sz") => `(tactic| (have := sizeLine_eq; (try simp only [List.length_append, List.length_map, List.length_take, List.length_drop, List.length_cons, List.length_nil]); omega))
local macro_rules | `(tactic| walk_at "lk") => `(tactic| fail)
local macro_rules | `(tactic| walk_at "goB") => `(tactic| fail)
local macro_rules | `(tactic| walk_at "goT") => `(tactic| fail)
local macro_rules | `(tactic| walk_at "goA") => `(tactic| first
  | (with_reducible first
    | refine ifT rfl ?_
    | refine ifF rfl ?_)
  | ((with_reducible refine' g_gtup ?gh ?gl ?gk); (case gh => walk_at "hp"); (case gl => rfl))
  | ((with_reducible refine' g_ixT ?gh ?gl ?gk); (case gh => walk_at "hp"); (case gl => first | rfl | assumption))
  | ((with_reducible refine' g_ixL ?gh ?gl ?gk); (case gh => walk_at "hp"); (case gl => first | rfl | assumption))
  | ((with_reducible refine' g_lenT ?gh ?gk); (case gh => walk_at "hp"))
  | ((with_reducible refine' g_lenL ?gh ?gk); (case gh => walk_at "hp"))
  | ((with_reducible refine' g_inT ?gh ?gf ?gl ?gk); (case gh => walk_at "hp"); (case gf => rfl); (case gl => rfl))
  | ((with_reducible refine' g_isi (d := true) ?gh ?gl ?gk); (case gh => first | exact ty_tup (by walk_at "hp") | exact .base (.int _) | exact .base (.str _)); (case gl => exact kit_ty (by decide +kernel)))
  | ((with_reducible refine' g_isi (d := false) ?gh ?gl ?gk); (case gh => first | exact ty_tup (by walk_at "hp") | exact .base (.int _) | exact .base (.str _)); (case gl => exact kit_ty (by decide +kernel)))
  | ((with_reducible refine' g_new ?gl ?gk); (case gl => first | exact Nat.le_of_ble_eq_true rfl | walk_at "sz"))
  | ((with_reducible refine' g_ilstv ?gh ?gk); (case gh => walk_at "hp"))
  | ((with_reducible refine' g_itupv ?gh ?gk); (case gh => walk_at "hp"))
  | ((with_reducible refine' g_ienumv ?gh ?gk); (case gh => walk_at "hp"))
  | ((with_reducible refine' g_ienTv ?gh ?gk); (case gh => walk_at "hp"))
  | ((with_reducible refine' g_slT ?gh ?gk); (case gh => walk_at "hp"); intro _ _ _ _)
  | ((with_reducible refine' g_slL ?gh ?gk); (case gh => walk_at "hp"))
  | ((with_reducible refine' g_catT ?gh ?gl ?gm ?gk); (case gh => walk_at "hp"); (case gl => walk_at "hp"); (case gm => walk_at "sz"); intro _ _ _ _)
  | ((with_reducible refine' g_catL ?gh ?gl ?gm ?gk); (case gh => walk_at "hp"); (case gl => walk_at "hp"); (case gm => walk_at "sz"))
  | ((with_reducible refine' g_tupL ?gh ?gk); (case gh => walk_at "hp"); intro _ _ _ _)
  | ((with_reducible refine' g_tupT ?gh ?gk); (case gh => walk_at "hp"); intro _ _ _ _)
  | ((with_reducible refine' g_starT ?gh ?gk); (case gh => walk_at "hp"))
  | ((with_reducible refine' g_starL ?gh ?gk); (case gh => walk_at "hp"))
  | ((with_reducible refine' g_tyL ?gh ?gk); (case gh => walk_at "hp"))
  | ((with_reducible refine' g_app ?gh ?gl ?gk); (case gh => walk_at "hp"); (case gl => walk_at "sz"))
  | ((with_reducible refine' g_inL ?gh ?gf ?gl ?gk); (case gh => walk_at "hp"); (case gf => rfl); (case gl => first | rfl | assumption))
  | ((with_reducible refine' g_irng1v ?gh ?gl ?gk); (case gh => omega); (case gl => omega))
  | ((with_reducible refine' g_irng2v ?gh ?gk); (case gh => omega))
  | ((with_reducible refine g_NewT ?_); intro _ _ _ _ _)
  | ((with_reducible refine' g_fldv ?gh ?gc ?gn ?gl ?gk); (case gh => walk_at "hp"); (case gc => assumption); (case gn => assumption); (case gl => first | rfl | walk_at "lk"))
  | ((with_reducible refine' g_fldw ?gh ?gc ?gn ?gl ?gk); (case gh => walk_at "hp"); (case gc => assumption); (case gn => assumption); (case gl => exact Nat.le_of_ble_eq_true rfl))
  | ((with_reducible refine' g_own2 ?gh ?gl ?gk); (case gh => walk_at "hp"); (case gl => walk_at "hp"))
  | ((with_reducible refine' g_own1 ?gh ?gk); (case gh => walk_at "hp"))
  | ((with_reducible refine' g_ownI ?gh ?gk); (case gh => walk_at "hp"))
  | ((with_reducible refine' g_recv ?gh ?gl ?gk); (case gh => walk_at "hp"); (case gl => walk_at "lk"))
  | ((with_reducible refine' g_lenS ?gh ?gk); (case gh => (have := sizeLine_eq; omega)))
  | ((with_reducible refine' ifT ?gh ?gk); (case gh => first | exact decide_eq_true (by omega) | exact nf (decide_eq_false (by omega)) | decide +kernel))
  | ((with_reducible refine' ifF ?gh ?gk); (case gh => first | exact decide_eq_false (by omega) | exact nt (decide_eq_true (by omega)) | decide +kernel)))
local macro_rules | `(tactic| walk_at "go1") => `(tactic| first
  | (with_reducible first
    | refine g_var rfl ?_
    | refine g_op ?_
    | refine g_cons ?_
    | refine g_nil ?_
    | refine g_c ?_
    | refine g_cb ?_
    | refine g_call ?_
    | refine g_seq ?_
    | refine g_asg ?_
    | refine g_name ?_
    | refine g_fld ?_
    | refine g_meth ?_
    | refine g_ifS ?_
    | refine g_if ?_
    | refine g_ret ?_
    | refine g_test ?_
    | refine g_tB ?_
    | refine g_bl ?_
    | refine g_and ?_
    | refine g_or ?_
    | refine g_not ?_
    | refine g_andV ?_
    | refine g_orV ?_
    | refine g_notV ?_
    | refine g_chain ?_
    | refine g_un ?_
    | refine g_ntup ?_
    | refine g_nlst ?_
    | refine g_drop ?_
    | refine g_next ?_
    | refine g_par ?_
    | refine g_par3 ?_
    | refine g_e2 ?_
    | refine g_e3 ?_
    | refine g_retN ?_
    | refine g_gcons ?_
    | refine g_gnil ?_
    | refine g_rI0 ?_
    | refine g_rU ?_
    | refine g_rSS ?_
    | refine g_rBB ?_
    | refine g_sib ?_
    | refine g_sii ?_
    | refine g_lc ?_
    | refine g_for ?_
    | refine g_istr ?_
    | refine g_istrv ?_
    | refine g_ilst ?_
    | refine g_itup ?_
    | refine g_irng1 ?_
    | refine g_irng2 ?_
    | refine g_ienum ?_
    | refine g_abs ?_
    | refine g_mx ?_
    | refine g_mn ?_
    | refine g_isN ?_
    | refine g_inC ?_
    | refine g_nfld ?_
    | refine g_ienT ?_
    | refine g_sl ?_
    | refine g_np ?_
    | refine g_pt ?_
    | refine g_ptv ?_
    | refine g_star ?_
    | refine g_bmL ?_)
  | walk_at "goA"
  | walk_at "goT"
  | walk_at "goB")
local macro_rules | `(tactic| walk_at "go") => `(tactic| repeat walk_at "go1")
local macro_rules | `(tactic| walk_at "tl") => `(tactic| first | (with_reducible exact tx_lt _) | exact (SX.S_tl _).symm | exact rfl)
local macro_rules | `(tactic| walk_at "ts") => `(tactic| (have := sizeLine_eq; (try simp only [tx_len, List.length_append, List.length_cons, List.length_nil]); first | omega | (decide +kernel)))
local macro_rules | `(tactic| walk_at "goT") => `(tactic| first
  | (with_reducible first
    | refine g_m0 ?_
    | refine g_m1 ?_
    | refine g_str ?_
    | refine g_starts ?_
    | refine g_ends ?_
    | refine g_isdig ?_
    | refine g_js ?_
    | refine g_nt ?_
    | refine g_jsn ?_
    | refine g_jsc ?_
    | refine g_fmt ?_)
  | ((with_reducible refine' g_slS ?gh ?gk); (case gh => walk_at "ts"))
  | ((with_reducible refine' g_jsv ?ge ?gn ?gk); (case ge => walk_at "tl"); (case gn => walk_at "ts"))
  | ((with_reducible refine' g_fmtS ?gn ?gk); (case gn => walk_at "ts"))
  | ((with_reducible refine' g_addS ?ge ?gf ?gn ?gk); (case ge => walk_at "tl"); (case gf => walk_at "tl"); (case gn => walk_at "ts"))
  | ((with_reducible refine' g_tru ?gn ?gk); (case gn => walk_at "ts"))
  | ((with_reducible refine' g_truT ?gh ?gk); (case gh => walk_at "hp"))
  | ((with_reducible refine' g_unl ?gh ?gl ?gk); (case gh => walk_at "hp"); (case gl => rfl)))
local macro_rules | `(tactic| walk_at "pt") => `(tactic| first
  | assumption
  | ((with_reducible refine' PotAt.same ?gz (by assumption)); (case gz => walk_at "pt")))
local macro_rules | `(tactic| walk_at "bt") => `(tactic| first
  | assumption
  | exact But.refl
  | (with_reducible refine But.trans ?_ (by assumption); walk_at "bt")
  | (with_reducible refine But.trans ?_ (But.of (by assumption)); walk_at "bt"))
local macro_rules | `(tactic| walk_at "hp") => `(tactic| first
  | assumption
  | ((with_reducible refine' SqT.of ?gz); (case gz => walk_at "hp"))
  | ((with_reducible refine' SqL.of ?gz); (case gz => walk_at "hp"))
  | ((with_reducible refine' Same.seqT (by assumption) ?gz); (case gz => walk_at "hp"))
  | ((with_reducible refine' Same.seq (by assumption) ?gz); (case gz => walk_at "hp"))
  | ((with_reducible refine' But.tupP (by assumption) ?gz ?gp); (case gz => walk_at "hp"); (case gp => walk_at "pt"))
  | ((with_reducible refine' But.lst (by assumption) ?gn ?gz); (case gn => exact PotAt.ne (by assumption) (by walk_at "pt")); (case gz => walk_at "hp"))
  | ((with_reducible refine' s_at (by assumption) ?gz); (case gz => walk_at "hp")))
local macro_rules | `(tactic| walk_at "goB") => `(tactic| first
  | ((with_reducible refine' u_dipN ?gh ?gn ?g0 ?g1 ?gk); (case gh => walk_at "pt"); (case gn => omega); (case g0 => first | omega | decide +kernel); (case g1 => first | omega | decide +kernel); intro _ _ _ _ _ _))
local macro_rules | `(tactic| walk_at "lk") => `(tactic| first | exact lk_kept | exact lk_no (by decide +kernel))
theorem dropHead (a b : List Dd) : dropAt (a ++ b) ((List.range a.length).map fun (i : Nat) => (i : Int)) = b := by
  unfold dropAt
  have e1 : (a ++ b).length = a.length + b.length := List.length_append
  have hm : ∀ i : Nat, decide ((i : Int) ∈ (List.range a.length).map fun (i : Nat) => (i : Int)) = decide (i < a.length) := fun i => by
    by_cases h : i < a.length
    · rw [decide_eq_true h]
      exact decide_eq_true (List.mem_map.mpr ⟨i, List.mem_range.mpr h, rfl⟩)
    · rw [decide_eq_false h]
      refine decide_eq_false fun z => ?_
      obtain ⟨j, hj, e⟩ := List.mem_map.mp z
      have := List.mem_range.mp hj
      omega
  simp only [hm]
  rw [e1, List.range_add, List.filter_append, List.map_append]
  have f1 : List.filter (fun i => !decide (i < a.length)) (List.range a.length) = [] := by
    rw [List.filter_eq_nil_iff]
    intro i hi
    have := List.mem_range.mp hi
    simp [this]
  rw [f1, List.map_nil, List.nil_append, List.filter_eq_self.mpr, List.map_map]
  · refine List.ext_getElem (by rw [List.length_map, List.length_range]) fun i h1 h2 => ?_
    rw [List.getElem_map, List.getElem_range]
    show (a ++ b)[a.length + i]?.getD _ = _
    rw [List.getElem?_append_right (by omega), show a.length + i - a.length = i by omega, List.getElem?_eq_getElem h2]
    rfl
  · intro i hi
    obtain ⟨j, _, rfl⟩ := List.mem_map.mp hi
    simp
section
variable {P : Program} {w : World} {K : PySem.W.Frag} {mg : Str → Option Value} {base : Heap}
def sp_plansR : Sp := fun vs H Q _ => ∃ p n, vs = [.ref p] ∧ PotAt H p n ∧ 1000 ≤ n ∧ ∀ H', But p H H' → PotAt H' p (n - 1000) → Q (.bl true) H'
theorem u_plansR {p : Addr} {n : Nat} {H : Hp} {Q : VK} {E : XK} (h : PotAt H p n) (hn : 1000 ≤ n) (k : ∀ H', But p H H' → PotAt H' p (n - 1000) → Q (.bl true) H') : sp_plansR [.ref p] H Q E := ⟨p, n, rfl, h, hn, k⟩
theorem sc__law_plans_right : FnScope ["_law_pot_here", "_law_row_here", "_law_more", "_law_work", "_law_read", "_law_other", "_law_both", "_law_rest", "_law_k"] ["_law_pot_here"] (defScope s__law_plans_right) := C8.fnScope_by (by decide +kernel)
theorem c__law_plans_right (T : Tx K mg) : C8.Cal P w K mg base 9 "_law_plans_right" sp_plansR [] := by
  refine calD T.d__law_plans_right T.g__law_plans_right (fun _ _ _ _ _ _ us hl => match us, hl with | [_], _ => rfl) sc__law_plans_right (fun vs H Q E ⟨_, _, e, _⟩ => by rw [e]; rfl) fun fd cdv A outer s H vs Q E hr h => ?_
  obtain ⟨p, n, rfl, hP, hn, k⟩ := h
  refine ⟨_, (pss_cons (ps_par (i := 1) (j := 2) rfl sc__law_plans_right.nd rfl rfl (by decide) rfl rfl (pa_cons (C8.pe_c (c__law_deeds T) hr (by decide) rfl (pa_cons (pv 0) (pa_cons pe_int pa_nil))) (pa_cons (C8.pe_c (c__law_deeds T) hr (by decide) rfl (pa_cons (pv 0) (pa_cons pe_int pa_nil))) pa_nil)) (by rfl))
      (pss_cons (ps_set (i := 3) sc__law_plans_right.nd rfl (Or.inl rfl) (C8.pe_c (c__law_made T) hr (by decide) rfl (pa_cons (pv 0) (pa_cons (pv 1) pa_nil))))
      (pss_cons (ps_set (i := 4) sc__law_plans_right.nd rfl (Or.inl rfl) (C8.pe_c (c_read_plan T) hr (by decide) rfl (pa_cons (C8.pe_c (c_plan_text T) hr (by decide) rfl (pa_cons (pv 3) pa_nil)) pa_nil)))
      (pss_cons (ps_if (pt_not (PW.pt (pw_and (pt_cmpR (o_Plan_eq T hr (by decide)) (pv 4) (pv 3) (nomark _)) (pw_and (pt_cmpR (op_eqD hr.units) (C8.pe_mt0 (c_Plan_deeds T) hr (by decide) (pv 4)) (pv 1) (nomark _)) (pw_and1 (pt_cmpR op_eqS (C8.pe_c (c_plan_text T) hr (by decide) rfl (pa_cons (pv 4) pa_nil)) (C8.pe_c (c_plan_text T) hr (by decide) rfl (pa_cons (pv 3) pa_nil)) (nomark _)))))))
        (pss_one (ps_ret pe_bl))
        pss_nil)
      (pss_cons (ps_set (i := 5) sc__law_plans_right.nd rfl (Or.inl rfl) (C8.pe_c (c_read_plan T) hr (by decide) rfl (pa_cons (C8.pe_c (c_plan_text T) hr (by decide) rfl (pa_cons (pe_cm (m_Plan T) hr (by decide) rfl (pa_cons (pv 2) pa_nil)) pa_nil)) pa_nil)))
      (pss_cons (ps_set (i := 6) sc__law_plans_right.nd rfl (Or.inl rfl) (pe_op (o_Plan_Add T hr (by decide)) (pv 4) (pv 5)))
      (pss_cons (ps_if (pt_not (PW.pt (pw_and (pt_cmpR (o_Plan_eq T hr (by decide)) (pv 6) (C8.pe_c (c_read_plan T) hr (by decide) rfl (pa_cons (C8.pe_c (c_plan_text T) hr (by decide) rfl (pa_cons (pv 6) pa_nil)) pa_nil)) (nomark _)) (pw_and1 (pt_cmpR (op_eqD hr.units) (C8.pe_mt0 (c_Plan_deeds T) hr (by decide) (pv 6)) (pe_op op_ncat (pv 1) (pv 2)) (nomark _))))))
        (pss_one (ps_ret pe_bl))
        pss_nil)
      (pss_cons (ps_set (i := 7) sc__law_plans_right.nd rfl (Or.inl rfl) (C8.pe_mt (c_Plan_without T) hr (by decide) (pv 6) (pa_cons (pe_callTy call_ntuple rfl T.b_tuple (by decide +kernel) (pa_cons (pe_lc (own := [("_law_k", 8)]) rfl sc__law_plans_right.nd (pj_range1 rfl T.b_range (pa_cons (pe_callB call_nlen rfl T.b_len (by decide +kernel) (pa_cons (pv 1) pa_nil)) pa_nil)) (blkOk_by (N := ["_law_pot_here", "_law_row_here", "_law_more", "_law_work", "_law_read", "_law_other", "_law_both", "_law_rest", "_law_k"]) (sc := defScope s__law_plans_right) (by decide +kernel)) (fun _ _ _ _ _ => (pg_name (i := 8) sc__law_plans_right.nd rfl (Or.inl rfl))) (fun _ _ _ _ _ => pts_nil) (fun _ _ _ _ _ => (pv 8))) pa_nil)) pa_nil)))
      (pss_one (ps_ret (pe_and (pe_cmpR (o_Plan_eq T hr (by decide)) (pv 7) (pv 5) (nomark _)) (pe_and (pe_cmpR (op_eqD hr.units) (C8.pe_mt0 (c_Plan_deeds T) hr (by decide) (C8.pe_c (c_read_plan T) hr (by decide) rfl (pa_cons (C8.pe_c (c_plan_text T) hr (by decide) rfl (pa_cons (pv 7) pa_nil)) pa_nil))) (pv 2) (nomark _)) (pe_one (pe_cmpR (op_eqD hr.units) (C8.pe_mt0 (c_Plan_deeds T) hr (by decide) (C8.pe_c (c_read_plan T) hr (by decide) rfl (pa_cons pe_str pa_nil))) (pe_ntup pa_nil) (nomark _))))))))))))))), ?_⟩
  walk_at "st"
  have hsz := sizeLine_eq
  walk_at "go"
  refine u_ldeeds hP (by omega) (by decide) (by decide) fun t1 ds H1 b1 p1 D1 o1 l1 => ?_
  walk_at "go"
  refine u_ldeeds p1 (by omega) (by decide) (by decide) fun t2 es H2 b2 p2 D2 o2 l2 => ?_
  walk_at "go"
  refine u_made p2 (by omega) (D1.pot b2 p1) o1 (by omega) fun w1 H3 b3 p3 P3 => ?_
  have D13 := (D1.pot b2 p1).pot b3 p2
  have D23 := D2.pot b3 p2
  have lw : ds.length ≤ 12 := by omega
  have le : es.length ≤ 12 := by omega
  have ob : ∀ d ∈ ds ++ es, DdOk d := fun d hd => (List.mem_append.mp hd).elim (o1 d) (o2 d)
  have lb : (ds ++ es).length ≤ 12 := by rw [List.length_append]; omega
  walk_at "go"
  refine u_plan_text P3 o1 lw fun H4 s4 => ?_
  walk_at "go"
  refine u_read_plan o1 lw fun r1 H5 s5 n5 P5 => ?_
  have P35 := P3.mono (s4.trans s5)
  obtain ⟨dx, u, g5, _⟩ := id P5
  obtain ⟨dy, v, g35, _⟩ := id P35
  walk_at "go"
  refine u_Plan_eq P5 P35 o1 ?_
  walk_at "go"
  refine u_Plan_deeds P5 fun t5 D5 => ?_
  walk_at "go"
  refine g_eqDs D5 (D13.mono (s4.trans s5)) o1 ?_
  walk_at "go"
  refine u_plan_text P5 o1 lw fun H6 s6 => ?_
  walk_at "go"
  refine u_plan_text (P35.mono s6) o1 lw fun H7 s7 => ?_
  walk_at "go"
  rw [decide_eq_true rfl]
  walk_at "go"
  have s37 : Same H3 H7 := (s4.trans s5).trans (s6.trans s7)
  refine u_Plan (D23.mono s37) le o2 fun r2 H8 s8 n8 P8 => ?_
  walk_at "go"
  refine u_plan_text P8 o2 le fun H9 s9 => ?_
  walk_at "go"
  refine u_read_plan o2 le fun r3 H10 s10 n10 P10 => ?_
  have s5x : Same H5 H10 := (s6.trans s7).trans (s8.trans (s9.trans s10))
  have P5x := P5.mono s5x
  obtain ⟨dx1, u1, g1, _⟩ := id P5x
  obtain ⟨dx2, u2, g2, _⟩ := id P10
  walk_at "go"
  refine u_Plan_add P5x P10 (by omega) o1 o2 fun r4 H11 s11 n11 P11 => ?_
  walk_at "go"
  refine u_plan_text P11 ob lb fun H12 s12 => ?_
  walk_at "go"
  refine u_read_plan ob lb fun r5 H13 s13 n13 P13 => ?_
  have P11x := P11.mono (s12.trans s13)
  obtain ⟨dx3, u3, g3, _⟩ := id P11x
  obtain ⟨dx4, u4, g4, _⟩ := id P13
  walk_at "go"
  refine u_Plan_eq P11x P13 ob ?_
  walk_at "go"
  refine u_Plan_deeds P11x fun t6 D6 => ?_
  have s3x : Same H3 H13 := ((s37.trans s8).trans (s9.trans s10)).trans (s11.trans (s12.trans s13))
  obtain ⟨as1, ha1, pr1⟩ := D13.mono s3x
  obtain ⟨as2, ha2, pr2⟩ := D23.mono s3x
  have la1 := pr1.length
  have la2 := pr2.length
  walk_at "go"
  rename_i q14 H14 s14 h14
  refine g_eqDs (D6.mono s14) ⟨_, h14, PySem.Paired.mono (fun _ _ h => h.mono s14) (pr_app pr1 pr2)⟩ ob ?_
  walk_at "go"
  have P14 := P11x.mono s14
  obtain ⟨dx5, u5, g5', _⟩ := id P14
  walk_at "go"
  rw [Int.toNat_natCast]
  refine lc_val walk_range (fun i => .int (i : Int)) (by omega) (fun _ _ => trivial) ?_ ?_
  · rintro i v H15 H16 kk hi s15 ⟨rfl, rfl⟩ hk
    refine g_name ⟨rfl, ?_⟩
    rw [← Int.zero_add (i : Int)] at hk
    walk_at "go"
    exact hk _ (Same.refl _)
  · intro q15 H15 n15 s15 h15
    walk_at "go"
    rename_i q16 H16 s16 h16
    rw [la1] at h16
    have hns : SqT K H16 q16 (((List.range ds.length).map fun (i : Nat) => (i : Int)).map V.int) := by
      rw [List.map_map]
      exact h16
    refine u_Plan_without (P14.mono (s15.trans s16)) hns (List.pairwise_map.mpr (List.Pairwise.imp (fun {a b} (h : a ≠ b) e => h (Int.ofNat.inj e)) List.nodup_range)) (fun x hx => by
      obtain ⟨i, hi, rfl⟩ := List.mem_map.mp hx
      have := List.mem_range.mp hi
      rw [List.length_append]
      omega) lb (by rw [List.length_map, List.length_range]; omega) ob fun r6 H17 s17 n17 P17 => ?_
    rw [dropHead] at P17
    have s10x : Same H10 H17 := ((s11.trans (s12.trans s13)).trans s14).trans ((s15.trans s16).trans s17)
    have P10x := P10.mono s10x
    obtain ⟨dx6, u6, g6, _⟩ := id P17
    obtain ⟨dx7, u7, g7, _⟩ := id P10x
    walk_at "go"
    refine u_Plan_eq P17 P10x o2 ?_
    walk_at "go"
    refine u_plan_text P17 o2 le fun H18 s18 => ?_
    walk_at "go"
    refine u_read_plan o2 le fun r7 H19 s19 n19 P19 => ?_
    obtain ⟨dx8, u8, g8, _⟩ := id P19
    walk_at "go"
    refine u_Plan_deeds P19 fun t7 D7 => ?_
    have s3y : Same H3 H19 := (((s37.trans s8).trans (s9.trans s10)).trans s10x).trans (s18.trans s19)
    walk_at "go"
    refine g_eqDs D7 (D23.mono s3y) o2 ?_
    walk_at "go"
    refine u_read_plan (ds := []) (by simp) (by decide) fun r8 H20 s20 n20 P20 => ?_
    obtain ⟨dx9, u9, g9, _⟩ := id P20
    walk_at "go"
    refine u_Plan_deeds P20 fun t8 D8 => ?_
    walk_at "go"
    rename_i q21 H21 n21 s21 h21
    refine g_eqDs (D8.mono s21) ⟨[], SqT.of h21, .nil⟩ (by simp) ?_
    walk_at "go"
    have s3z : Same H3 H21 := (s3y.trans s20).trans s21
    exact k H21 (((b1.trans b2).trans b3).trans (But.of s3z)) ((p3.same s3z).le (by omega))
end
end RL
set_option maxHeartbeats 4000000
namespace RL
open PySem PySem.Spec PyProof.Rows L2
local macro_rules | `(tactic| walk_at "hp") => `(tactic| first
  | assumption
  | ((with_reducible refine' SqT.of ?gz); (case gz => walk_at "hp"))
  | ((with_reducible refine' SqL.of ?gz); (case gz => walk_at "hp"))
  | ((with_reducible refine' Same.seqT (by assumption) ?gz); (case gz => walk_at "hp"))
  | ((with_reducible refine' Same.seq (by assumption) ?gz); (case gz => walk_at "hp"))
  | ((with_reducible refine' s_at (by assumption) ?gz); (case gz => walk_at "hp"))
  | ((with_reducible refine' dp_mono (by assumption) ?gz); (case gz => walk_at "hp")))
local macro_rules | `(tactic| walk_at "sm") => `(tactic| first
  | assumption
  | exact Same.refl _
  | (with_reducible refine Same.trans ?_ (by assumption); walk_at "sm"))
local macro_rules | `(tactic| walk_at "st") => `(tactic| try dsimp only [cxOf, L2.Cx.nox, L2.Cx.wish])
local macro_rules | `(tactic| walk_at "sz") => `(tactic| (have := sizeLine_eq; (try simp only [List.length_append, List.length_map, List.length_take, List.length_drop, List.length_cons, List.length_nil]); omega))
local macro_rules | `(tactic| walk_at "lk") => `(tactic| fail)
local macro_rules | `(tactic| walk_at "goB") => `(tactic| fail)
local macro_rules | `(tactic| walk_at "goT") => `(tactic| fail)
local macro_rules | `(tactic| walk_at "goA") => `(tactic| first
  | (with_reducible first
    | refine ifT rfl ?_
    | refine ifF rfl ?_)
  | ((with_reducible refine' g_gtup ?gh ?gl ?gk); (case gh => walk_at "hp"); (case gl => rfl))
  | ((with_reducible refine' g_ixT ?gh ?gl ?gk); (case gh => walk_at "hp"); (case gl => first | rfl | assumption))
  | ((with_reducible refine' g_ixL ?gh ?gl ?gk); (case gh => walk_at "hp"); (case gl => first | rfl | assumption))
  | ((with_reducible refine' g_lenT ?gh ?gk); (case gh => walk_at "hp"))
  | ((with_reducible refine' g_lenL ?gh ?gk); (case gh => walk_at "hp"))
  | ((with_reducible refine' g_inT ?gh ?gf ?gl ?gk); (case gh => walk_at "hp"); (case gf => rfl); (case gl => rfl))
  | ((with_reducible refine' g_isi (d := true) ?gh ?gl ?gk); (case gh => first | exact ty_tup (by walk_at "hp") | exact .base (.int _) | exact .base (.str _)); (case gl => exact kit_ty (by decide +kernel)))
  | ((with_reducible refine' g_isi (d := false) ?gh ?gl ?gk); (case gh => first | exact ty_tup (by walk_at "hp") | exact .base (.int _) | exact .base (.str _)); (case gl => exact kit_ty (by decide +kernel)))
  | ((with_reducible refine' g_new ?gl ?gk); (case gl => first | exact Nat.le_of_ble_eq_true rfl | walk_at "sz"))
  | ((with_reducible refine' g_ilstv ?gh ?gk); (case gh => walk_at "hp"))
  | ((with_reducible refine' g_itupv ?gh ?gk); (case gh => walk_at "hp"))
  | ((with_reducible refine' g_ienumv ?gh ?gk); (case gh => walk_at "hp"))
  | ((with_reducible refine' g_ienTv ?gh ?gk); (case gh => walk_at "hp"))
  | ((with_reducible refine' g_slT ?gh ?gk); (case gh => walk_at "hp"); intro _ _ _ _)
  | ((with_reducible refine' g_slL ?gh ?gk); (case gh => walk_at "hp"))
  | ((with_reducible refine' g_catT ?gh ?gl ?gm ?gk); (case gh => walk_at "hp"); (case gl => walk_at "hp"); (case gm => walk_at "sz"); intro _ _ _ _)
  | ((with_reducible refine' g_catL ?gh ?gl ?gm ?gk); (case gh => walk_at "hp"); (case gl => walk_at "hp"); (case gm => walk_at "sz"))
  | ((with_reducible refine' g_tupL ?gh ?gk); (case gh => walk_at "hp"); intro _ _ _ _)
  | ((with_reducible refine' g_tupT ?gh ?gk); (case gh => walk_at "hp"); intro _ _ _ _)
  | ((with_reducible refine' g_starT ?gh ?gk); (case gh => walk_at "hp"))
  | ((with_reducible refine' g_starL ?gh ?gk); (case gh => walk_at "hp"))
  | ((with_reducible refine' g_tyL ?gh ?gk); (case gh => walk_at "hp"))
  | ((with_reducible refine' g_app ?gh ?gl ?gk); (case gh => walk_at "hp"); (case gl => walk_at "sz"))
  | ((with_reducible refine' g_inL ?gh ?gf ?gl ?gk); (case gh => walk_at "hp"); (case gf => rfl); (case gl => first | rfl | assumption))
  | ((with_reducible refine' g_irng1v ?gh ?gl ?gk); (case gh => omega); (case gl => omega))
  | ((with_reducible refine' g_irng2v ?gh ?gk); (case gh => omega))
  | ((with_reducible refine g_NewT ?_); intro _ _ _ _ _)
  | ((with_reducible refine' g_fldv ?gh ?gc ?gn ?gl ?gk); (case gh => walk_at "hp"); (case gc => assumption); (case gn => assumption); (case gl => first | rfl | walk_at "lk"))
  | ((with_reducible refine' g_fldw ?gh ?gc ?gn ?gl ?gk); (case gh => walk_at "hp"); (case gc => assumption); (case gn => assumption); (case gl => exact Nat.le_of_ble_eq_true rfl))
  | ((with_reducible refine' g_own2 ?gh ?gl ?gk); (case gh => walk_at "hp"); (case gl => walk_at "hp"))
  | ((with_reducible refine' g_own1 ?gh ?gk); (case gh => walk_at "hp"))
  | ((with_reducible refine' g_ownI ?gh ?gk); (case gh => walk_at "hp"))
  | ((with_reducible refine' g_recv ?gh ?gl ?gk); (case gh => walk_at "hp"); (case gl => walk_at "lk"))
  | ((with_reducible refine' g_lenS ?gh ?gk); (case gh => (have := sizeLine_eq; omega)))
  | ((with_reducible refine' ifT ?gh ?gk); (case gh => first | exact decide_eq_true (by omega) | exact nf (decide_eq_false (by omega)) | decide +kernel))
  | ((with_reducible refine' ifF ?gh ?gk); (case gh => first | exact decide_eq_false (by omega) | exact nt (decide_eq_true (by omega)) | decide +kernel)))
local macro_rules | `(tactic| walk_at "go1") => `(tactic| first
  | (with_reducible first
    | refine g_var rfl ?_
    | refine g_op ?_
    | refine g_cons ?_
    | refine g_nil ?_
    | refine g_c ?_
    | refine g_cb ?_
    | refine g_call ?_
    | refine g_seq ?_
    | refine g_asg ?_
    | refine g_name ?_
    | refine g_fld ?_
    | refine g_meth ?_
    | refine g_ifS ?_
    | refine g_if ?_
    | refine g_ret ?_
    | refine g_test ?_
    | refine g_tB ?_
    | refine g_bl ?_
    | refine g_and ?_
    | refine g_or ?_
    | refine g_not ?_
    | refine g_andV ?_
    | refine g_orV ?_
    | refine g_notV ?_
    | refine g_chain ?_
    | refine g_un ?_
    | refine g_ntup ?_
    | refine g_nlst ?_
    | refine g_drop ?_
    | refine g_next ?_
    | refine g_par ?_
    | refine g_par3 ?_
    | refine g_e2 ?_
    | refine g_e3 ?_
    | refine g_retN ?_
    | refine g_gcons ?_
    | refine g_gnil ?_
    | refine g_rI0 ?_
    | refine g_rU ?_
    | refine g_rSS ?_
    | refine g_rBB ?_
    | refine g_sib ?_
    | refine g_sii ?_
    | refine g_lc ?_
    | refine g_for ?_
    | refine g_istr ?_
    | refine g_istrv ?_
    | refine g_ilst ?_
    | refine g_itup ?_
    | refine g_irng1 ?_
    | refine g_irng2 ?_
    | refine g_ienum ?_
    | refine g_abs ?_
    | refine g_mx ?_
    | refine g_mn ?_
    | refine g_isN ?_
    | refine g_inC ?_
    | refine g_nfld ?_
    | refine g_ienT ?_
    | refine g_sl ?_
    | refine g_np ?_
    | refine g_pt ?_
    | refine g_ptv ?_
    | refine g_star ?_
    | refine g_bmL ?_)
  | walk_at "goA"
  | walk_at "goT"
  | walk_at "goB")
local macro_rules | `(tactic| walk_at "go") => `(tactic| repeat walk_at "go1")
local macro_rules | `(tactic| walk_at "tl") => `(tactic| first | (with_reducible exact tx_lt _) | exact (SX.S_tl _).symm | exact rfl)
local macro_rules | `(tactic| walk_at "ts") => `(tactic| (have := sizeLine_eq; (try simp only [tx_len, List.length_append, List.length_cons, List.length_nil]); first | omega | (decide +kernel)))
local macro_rules | `(tactic| walk_at "goT") => `(tactic| first
  | (with_reducible first
    | refine g_m0 ?_
    | refine g_m1 ?_
    | refine g_str ?_
    | refine g_starts ?_
    | refine g_ends ?_
    | refine g_isdig ?_
    | refine g_js ?_
    | refine g_nt ?_
    | refine g_jsn ?_
    | refine g_jsc ?_
    | refine g_fmt ?_)
  | ((with_reducible refine' g_slS ?gh ?gk); (case gh => walk_at "ts"))
  | ((with_reducible refine' g_jsv ?ge ?gn ?gk); (case ge => walk_at "tl"); (case gn => walk_at "ts"))
  | ((with_reducible refine' g_fmtS ?gn ?gk); (case gn => walk_at "ts"))
  | ((with_reducible refine' g_addS ?ge ?gf ?gn ?gk); (case ge => walk_at "tl"); (case gf => walk_at "tl"); (case gn => walk_at "ts"))
  | ((with_reducible refine' g_tru ?gn ?gk); (case gn => walk_at "ts"))
  | ((with_reducible refine' g_truT ?gh ?gk); (case gh => walk_at "hp"))
  | ((with_reducible refine' g_unl ?gh ?gl ?gk); (case gh => walk_at "hp"); (case gl => rfl)))
local macro_rules | `(tactic| walk_at "pt") => `(tactic| first
  | assumption
  | ((with_reducible refine' PotAt.same ?gz (by assumption)); (case gz => walk_at "pt")))
local macro_rules | `(tactic| walk_at "bt") => `(tactic| first
  | assumption
  | exact But.refl
  | (with_reducible refine But.trans ?_ (by assumption); walk_at "bt")
  | (with_reducible refine But.trans ?_ (But.of (by assumption)); walk_at "bt"))
local macro_rules | `(tactic| walk_at "hp") => `(tactic| first
  | assumption
  | ((with_reducible refine' SqT.of ?gz); (case gz => walk_at "hp"))
  | ((with_reducible refine' SqL.of ?gz); (case gz => walk_at "hp"))
  | ((with_reducible refine' Same.seqT (by assumption) ?gz); (case gz => walk_at "hp"))
  | ((with_reducible refine' Same.seq (by assumption) ?gz); (case gz => walk_at "hp"))
  | ((with_reducible refine' But.tupP (by assumption) ?gz ?gp); (case gz => walk_at "hp"); (case gp => walk_at "pt"))
  | ((with_reducible refine' But.lst (by assumption) ?gn ?gz); (case gn => exact PotAt.ne (by assumption) (by walk_at "pt")); (case gz => walk_at "hp"))
  | ((with_reducible refine' s_at (by assumption) ?gz); (case gz => walk_at "hp")))
local macro_rules | `(tactic| walk_at "goB") => `(tactic| first
  | ((with_reducible refine' u_dipN ?gh ?gn ?g0 ?g1 ?gk); (case gh => walk_at "pt"); (case gn => omega); (case g0 => first | omega | decide +kernel); (case g1 => first | omega | decide +kernel); intro _ _ _ _ _ _))
section
variable {P : Program} {w : World} {K : PySem.W.Frag} {mg : Str → Option Value} {base : Heap}
theorem sc__law_divisor : FnScope ["_law_one", "_law_other"] ["_law_one", "_law_other"] (defScope s__law_divisor) := C8.fnScope_by (by decide +kernel)
theorem c__law_divisor (T : Tx K mg) : C8.Cal P w K mg base 1 "_law_divisor" sp_common_divisor [] := by
  refine calD T.d__law_divisor T.g__law_divisor (fun _ _ _ _ _ _ us hl => match us, hl with | [_, _], _ => rfl) sc__law_divisor (fun vs H Q E ⟨i, m, e, _⟩ => by rw [e]; rfl) fun fd cdv A outer s H vs Q E hr h => ?_
  obtain ⟨a, b, rfl, q⟩ := h
  refine ⟨_, (pss_cons (ps_par (i := 0) (j := 1) rfl sc__law_divisor.nd rfl rfl (by decide) rfl rfl (pa_cons (pe_callB call_nabs rfl T.b_abs (by decide +kernel) (pa_cons (pv 0) pa_nil)) (pa_cons (pe_callB call_nabs rfl T.b_abs (by decide +kernel) (pa_cons (pv 1) pa_nil)) pa_nil)) (by rfl))
      (pss_cons (ps_while PassesOwn.never (pt_cmpR op_neI (pv 1) pe_int (nomark _))
        (pss_one (ps_par (i := 0) (j := 1) rfl sc__law_divisor.nd rfl rfl (by decide) rfl rfl (pa_cons (pv 1) (pa_cons (pe_op op_mod (pe_callTy call_intI rfl T.b_int (by decide +kernel) (pa_cons (pv 0) pa_nil)) (pv 1)) pa_nil)) (by rfl))))
      (pss_one (ps_ret (pv 0))))), ?_⟩
  walk_at "st"
  walk_at "go"
  refine g_while (fun m σ' H' => ∃ x y : Nat, m = y ∧ σ' = [some (.int (x : Int)), some (.int (y : Int))] ∧ H' = H ∧ Nat.gcd x y = Int.gcd a b) b.natAbs ⟨a.natAbs, b.natAbs, rfl, rfl, rfl, rfl⟩ ?_
  rintro m σ' H' ⟨x, y, rfl, rfl, rfl, hg⟩
  walk_at "go"
  refine if2 (fun e => ?_) (fun e => ?_)
  · have hy : m ≠ 0 := fun z => by
      rw [z] at e
      simp at e
    refine ⟨fun σ2 H2 => ∃ m', m' < m ∧ ∃ x y : Nat, m' = y ∧ σ2 = [some (.int (x : Int)), some (.int (y : Int))] ∧ H2 = H' ∧ Nat.gcd x y = Int.gcd a b, fun _ _ z => z, ?_⟩
    walk_at "go"
    refine g_rI (show (0 : Int) < (m : Int) by omega) ?_
    walk_at "go"
    refine ⟨x % m, Nat.mod_lt _ (by omega), m, x % m, rfl, rfl, rfl, ?_⟩
    rw [← hg, Nat.gcd_comm x m, Nat.gcd_rec m x, Nat.gcd_comm]
  · have hy : m = 0 := by
      have : ¬ ((m : Int) ≠ 0) := by simpa using e
      omega
    subst hy
    walk_at "go"
    rw [← hg, Nat.gcd_zero_right] at q
    exact q
local macro_rules | `(tactic| walk_at "goB") => `(tactic| with_reducible refine u_common_divisor ?_)
def sp_lowest (K : PySem.W.Frag) : Sp := fun vs H Q _ => ∃ a b q, vs = [.int a, .int b, .int q] ∧ 0 < q ∧ q < 2 ^ 8000 ∧ ∀ t H', Same H H' → SqT K H' t [.int (nrm a b q).1, .int (nrm a b q).2.1, .int (nrm a b q).2.2] → Q (.ref t) H'
theorem u_lowest {a b q : Int} {H : Hp} {Q : VK} {E : XK} (h1 : 0 < q) (h2 : q < 2 ^ 8000) (k : ∀ t H', Same H H' → SqT K H' t [.int (nrm a b q).1, .int (nrm a b q).2.1, .int (nrm a b q).2.2] → Q (.ref t) H') : sp_lowest K [.int a, .int b, .int q] H Q E := ⟨a, b, q, rfl, h1, h2, k⟩
theorem sc__law_lowest : FnScope ["_law_a", "_law_b", "_law_q", "_law_common"] ["_law_a", "_law_b", "_law_q"] (defScope s__law_lowest) := C8.fnScope_by (by decide +kernel)
theorem c__law_lowest (T : Tx K mg) : C8.Cal P w K mg base 2 "_law_lowest" (sp_lowest K) [] := by
  refine calD T.d__law_lowest T.g__law_lowest (fun _ _ _ _ _ _ us hl => match us, hl with | [_, _, _], _ => rfl) sc__law_lowest (fun vs H Q E ⟨_, _, _, e, _⟩ => by rw [e]; rfl) fun fd cdv A outer s H vs Q E hr h => ?_
  obtain ⟨a, b, q, rfl, hq, hq2, k⟩ := h
  refine ⟨_, (pss_cons (ps_set (i := 3) sc__law_lowest.nd rfl (Or.inl rfl) (C8.pe_c (c__law_divisor T) hr (by decide) rfl (pa_cons (C8.pe_c (c__law_divisor T) hr (by decide) rfl (pa_cons (pv 0) (pa_cons (pv 1) pa_nil))) (pa_cons (pv 2) pa_nil))))
      (pss_one (ps_ret (pe_ntup (pa_cons (pe_op op_fdivW (pv 0) (pv 3)) (pa_cons (pe_op op_fdivW (pv 1) (pv 3)) (pa_cons (pe_op op_fdivW (pv 2) (pv 3)) pa_nil))))))), ?_⟩
  walk_at "st"
  have hg := gcd3_pos (a := a) (b := b) hq
  have hg2 := gcd3_le (a := a) (b := b) hq
  walk_at "go"
  have cd : ∀ i, CDivW i (Int.gcd (Int.gcd a b : Int) q : Int) := fun i => wide_div (b := 8000) hg (by omega) (by decide) (by decide)
  refine g_rI (cd a) ?_
  walk_at "go"
  refine g_rI (cd b) ?_
  walk_at "go"
  refine g_rI (cd q) ?_
  walk_at "go"
  rename_i t H2 ht s2 h2
  exact k t H2 s2 (SqT.of h2)
/-! a number, a row -/
def sp_lnum : Sp := fun vs H Q _ => ∃ (p : Addr) (n : Nat) (f : Int), vs = [.ref p, .int f] ∧ PotAt H p n ∧ 6 ≤ n ∧ 100 ≤ f ∧ f ≤ 10 ^ 50 ∧ ∀ (i : Int) H', But p H H' → PotAt H' p (n - 6) → i.natAbs < 10 ^ 50 → Q (.int i) H'
theorem u_lnum {p : Addr} {n : Nat} {f : Int} {H : Hp} {Q : VK} {E : XK} (h : PotAt H p n) (hn : 6 ≤ n) (f0 : 100 ≤ f) (f1 : f ≤ 10 ^ 50) (k : ∀ (i : Int) H', But p H H' → PotAt H' p (n - 6) → i.natAbs < 10 ^ 50 → Q (.int i) H') : sp_lnum [.ref p, .int f] H Q E := ⟨p, n, f, rfl, h, hn, f0, f1, k⟩
theorem sc__law_number : FnScope ["_law_pot_here", "_law_far", "_law_found"] ["_law_pot_here", "_law_far"] (defScope s__law_number) := C8.fnScope_by (by decide +kernel)
theorem c__law_number (T : Tx K mg) : C8.Cal P w K mg base 2 "_law_number" sp_lnum [] := by
  refine calD T.d__law_number T.g__law_number (fun _ _ _ _ _ _ us hl => match us, hl with | [_, _], _ => rfl) sc__law_number (fun vs H Q E ⟨_, _, _, e, _⟩ => by rw [e]; rfl) fun fd cdv A outer s H vs Q E hr h => ?_
  obtain ⟨p, n, f, rfl, hP, hn, f0, f1, k⟩ := h
  refine ⟨_, (pss_cons (ps_set (i := 2) sc__law_number.nd rfl (Or.inl rfl) (pe_ix ix_list (pe_nlst (pa_cons (C8.pe_c (c__law_dip T) hr (by decide) rfl (pa_cons (pv 0) (pa_cons pe_int pa_nil))) (pa_cons (C8.pe_c (c__law_dip T) hr (by decide) rfl (pa_cons (pv 0) (pa_cons pe_int pa_nil))) (pa_cons (C8.pe_c (c__law_dip T) hr (by decide) rfl (pa_cons (pv 0) (pa_cons pe_int pa_nil))) (pa_cons (C8.pe_c (c__law_dip T) hr (by decide) rfl (pa_cons (pv 0) (pa_cons (pv 1) pa_nil))) pa_nil))))) (C8.pe_c (c__law_dip T) hr (by decide) rfl (pa_cons (pv 0) (pa_cons pe_int pa_nil))) (fun _ _ => rfl)))
      (pss_one (ps_ret (pe_op op_mulW (pv 2) (pe_ix ix_list (pe_nlst (pa_cons pe_int (pa_cons (pe_un un_neg pe_int) pa_nil))) (C8.pe_c (c__law_dip T) hr (by decide) rfl (pa_cons (pv 0) (pa_cons pe_int pa_nil))) (fun _ _ => rfl)))))), ?_⟩
  walk_at "st"
  have hsz := sizeLine_eq
  walk_at "go"
  rename_i i1 H1 b1 p1 i10 i11 i2 H2 b2 p2 i20 i21 i3 H3 b3 p3 i30 i31 i4 H4 b4 p4 i40 i41 q5 H5 n5 s5 h5 i6 H6 b6 p6 i60 i61
  obtain ⟨v, hv, x, rfl, x0, x1⟩ := at_all (P := fun v => ∃ x : Int, v = V.int x ∧ 0 ≤ x ∧ x < 10 ^ 50) (xs := [V.int i1, V.int i2, V.int i3, V.int i4]) (by
    intro x hx
    simp only [List.mem_cons, List.not_mem_nil, or_false] at hx
    rcases hx with rfl | rfl | rfl | rfl
    · exact ⟨_, rfl, by omega, by omega⟩
    · exact ⟨_, rfl, by omega, by omega⟩
    · exact ⟨_, rfl, by omega, by omega⟩
    · exact ⟨_, rfl, by omega, by omega⟩) i60 (by simp only [List.length_cons, List.length_nil]; omega)
  walk_at "go"
  rename_i q7 H7 n7 s7 h7 i8 H8 b8 p8 i80 i81
  obtain ⟨v, hv2, y, rfl, hy⟩ := at_all (P := fun v => ∃ x : Int, v = V.int x ∧ (x = 1 ∨ x = -1)) (xs := [V.int 1, V.int (-1)]) (by
    intro x hx
    simp only [List.mem_cons, List.not_mem_nil, or_false] at hx
    rcases hx with rfl | rfl
    · exact ⟨_, rfl, .inl rfl⟩
    · exact ⟨_, rfl, .inr rfl⟩) i80 (by simp only [List.length_cons, List.length_nil]; omega)
  walk_at "go"
  refine g_rI (wide_mul (a := 300) (b := 3) (Nat.lt_of_lt_of_le (show x.natAbs < 10 ^ 50 by omega) (by decide +kernel)) (by omega) (by decide) (by decide) (by decide)) ?_
  walk_at "go"
  refine k _ H8 (by walk_at "bt") (p8.le (by omega)) ?_
  rcases hy with rfl | rfl
  · rw [Int.mul_one]
    omega
  · rw [Int.mul_neg, Int.mul_one]
    omega
def sp_lrow (K : PySem.W.Frag) : Sp := fun vs H Q _ => ∃ (p : Addr) (n : Nat) (f : Int), vs = [.ref p, .int f] ∧ PotAt H p n ∧ 20 ≤ n ∧ 100 ≤ f ∧ f ≤ 10 ^ 50 ∧ ∀ t (a b q : Int) H', But p H H' → PotAt H' p (n - 20) → a.natAbs < 10 ^ 50 → b.natAbs < 10 ^ 50 → 0 < q → q ≤ 10 ^ 50 →
  SqT K H' t [.int (nrm a b q).1, .int (nrm a b q).2.1, .int (nrm a b q).2.2] → Q (.ref t) H'
theorem u_lrow {p : Addr} {n : Nat} {f : Int} {H : Hp} {Q : VK} {E : XK} (h : PotAt H p n) (hn : 20 ≤ n) (f0 : 100 ≤ f) (f1 : f ≤ 10 ^ 50) (k : ∀ t (a b q : Int) H', But p H H' → PotAt H' p (n - 20) → a.natAbs < 10 ^ 50 → b.natAbs < 10 ^ 50 → 0 < q → q ≤ 10 ^ 50 →
  SqT K H' t [.int (nrm a b q).1, .int (nrm a b q).2.1, .int (nrm a b q).2.2] → Q (.ref t) H') : sp_lrow K [.ref p, .int f] H Q E := ⟨p, n, f, rfl, h, hn, f0, f1, k⟩
theorem pow50_8000 {q : Int} (h : q ≤ 10 ^ 50) : q < 2 ^ 8000 := by
  have h2 : (10 : Nat) ^ 50 < 2 ^ 8000 := by decide +kernel
  have h3 : ((2 : Int) ^ 8000) = ((2 ^ 8000 : Nat) : Int) := by norm_cast
  rw [h3]
  generalize (2 : Nat) ^ 8000 = N at *
  omega
theorem sc__law_row : FnScope ["_law_pot_here", "_law_far", "_law_q"] ["_law_pot_here", "_law_far"] (defScope s__law_row) := C8.fnScope_by (by decide +kernel)
theorem c__law_row (T : Tx K mg) : C8.Cal P w K mg base 3 "_law_row" (sp_lrow K) [] := by
  refine calD T.d__law_row T.g__law_row (fun _ _ _ _ _ _ us hl => match us, hl with | [_, _], _ => rfl) sc__law_row (fun vs H Q E ⟨_, _, _, e, _⟩ => by rw [e]; rfl) fun fd cdv A outer s H vs Q E hr h => ?_
  obtain ⟨p, n, f, rfl, hP, hn, f0, f1, k⟩ := h
  refine ⟨_, (pss_cons (ps_set (i := 2) sc__law_row.nd rfl (Or.inl rfl) (pe_ix ix_list (pe_nlst (pa_cons pe_int (pa_cons pe_int (pa_cons (pe_op op_add pe_int (C8.pe_c (c__law_dip T) hr (by decide) rfl (pa_cons (pv 0) (pa_cons pe_int pa_nil)))) (pa_cons (pe_op op_add pe_int (C8.pe_c (c__law_dip T) hr (by decide) rfl (pa_cons (pv 0) (pa_cons pe_int pa_nil)))) (pa_cons (pe_op op_add pe_int (C8.pe_c (c__law_dip T) hr (by decide) rfl (pa_cons (pv 0) (pa_cons (pv 1) pa_nil)))) pa_nil)))))) (C8.pe_c (c__law_dip T) hr (by decide) rfl (pa_cons (pv 0) (pa_cons pe_int pa_nil))) (fun _ _ => rfl)))
      (pss_one (ps_ret (C8.pe_c (c__law_lowest T) hr (by decide) rfl (pa_cons (C8.pe_c (c__law_number T) hr (by decide) rfl (pa_cons (pv 0) (pa_cons (pv 1) pa_nil))) (pa_cons (C8.pe_c (c__law_number T) hr (by decide) rfl (pa_cons (pv 0) (pa_cons (pv 1) pa_nil))) (pa_cons (pv 2) pa_nil))))))), ?_⟩
  walk_at "st"
  have hsz := sizeLine_eq
  walk_at "go"
  rename_i i1 H1 b1 p1 i10 i11 i2 H2 b2 p2 i20 i21 i3 H3 b3 p3 i30 i31 q5 H5 n5 s5 h5 i6 H6 b6 p6 i60 i61
  obtain ⟨v, hv, x, rfl, x0, x1⟩ := at_all (P := fun v => ∃ x : Int, v = V.int x ∧ 0 < x ∧ x ≤ 10 ^ 50) (xs := [V.int 1, V.int 1, V.int (1 + i1), V.int (1 + i2), V.int (1 + i3)]) (by
    intro x hx
    simp only [List.mem_cons, List.not_mem_nil, or_false] at hx
    rcases hx with rfl | rfl | rfl | rfl | rfl
    · exact ⟨_, rfl, by omega, by omega⟩
    · exact ⟨_, rfl, by omega, by omega⟩
    · exact ⟨_, rfl, by omega, by omega⟩
    · exact ⟨_, rfl, by omega, by omega⟩
    · exact ⟨_, rfl, by omega, by omega⟩) i60 (by simp only [List.length_cons, List.length_nil]; omega)
  walk_at "go"
  refine u_lnum p6 (by omega) f0 f1 fun a H7 b7 p7 ha => ?_
  walk_at "go"
  refine u_lnum p7 (by omega) f0 f1 fun b H8 b8 p8 hb => ?_
  walk_at "go"
  refine u_lowest x0 (pow50_8000 x1) fun t H9 s9 h9 => ?_
  walk_at "go"
  exact k t a b x H9 (by walk_at "bt") ((p8.same s9).le (by omega)) ha hb x0 x1 h9
end
end RL
set_option maxHeartbeats 4000000
namespace RL
open PySem PySem.Spec PyProof.Rows L2
local macro_rules | `(tactic| walk_at "hp") => `(tactic| first
  | assumption
  | ((with_reducible refine' SqT.of ?gz); (case gz => walk_at "hp"))
  | ((with_reducible refine' SqL.of ?gz); (case gz => walk_at "hp"))
  | ((with_reducible refine' Same.seqT (by assumption) ?gz); (case gz => walk_at "hp"))
  | ((with_reducible refine' Same.seq (by assumption) ?gz); (case gz => walk_at "hp"))
  | ((with_reducible refine' s_at (by assumption) ?gz); (case gz => walk_at "hp"))
  | ((with_reducible refine' dp_mono (by assumption) ?gz); (case gz => walk_at "hp")))
local macro_rules | `(tactic| walk_at "sm") => `(tactic| first
  | assumption
  | exact Same.refl _
  | (with_reducible refine Same.trans ?_ (by assumption); walk_at "sm"))
local macro_rules | `(tactic| walk_at "st") => `(tactic| try dsimp only [cxOf, L2.Cx.nox, L2.Cx.wish])
local macro_rules | `(tactic| walk_at "sz") => `(tactic| (have := sizeLine_eq; (try simp only [List.length_append, List.length_map, List.length_take, List.length_drop, List.length_cons, List.length_nil]); omega))
local macro_rules | `(tactic| walk_at "lk") => `(tactic| fail)
local macro_rules | `(tactic| walk_at "goB") => `(tactic| fail)
local macro_rules | `(tactic| walk_at "goT") => `(tactic| fail)
local macro_rules | `(tactic| walk_at "goA") => `(tactic| first
  | (with_reducible first
    | refine ifT rfl ?_
    | refine ifF rfl ?_)
  | ((with_reducible refine' g_gtup ?gh ?gl ?gk); (case gh => walk_at "hp"); (case gl => rfl))
  | ((with_reducible refine' g_ixT ?gh ?gl ?gk); (case gh => walk_at "hp"); (case gl => first | rfl | assumption))
  | ((with_reducible refine' g_ixL ?gh ?gl ?gk); (case gh => walk_at "hp"); (case gl => first | rfl | assumption))
  | ((with_reducible refine' g_lenT ?gh ?gk); (case gh => walk_at "hp"))
  | ((with_reducible refine' g_lenL ?gh ?gk); (case gh => walk_at "hp"))
  | ((with_reducible refine' g_inT ?gh ?gf ?gl ?gk); (case gh => walk_at "hp"); (case gf => rfl); (case gl => rfl))
  | ((with_reducible refine' g_isi (d := true) ?gh ?gl ?gk); (case gh => first | exact ty_tup (by walk_at "hp") | exact .base (.int _) | exact .base (.str _)); (case gl => exact kit_ty (by decide +kernel)))
  | ((with_reducible refine' g_isi (d := false) ?gh ?gl ?gk); (case gh => first | exact ty_tup (by walk_at "hp") | exact .base (.int _) | exact .base (.str _)); (case gl => exact kit_ty (by decide +kernel)))
  | ((with_reducible refine' g_new ?gl ?gk); (case gl => first | exact Nat.le_of_ble_eq_true rfl | walk_at "sz"))
  | ((with_reducible refine' g_ilstv ?gh ?gk); (case gh => walk_at "hp"))
  | ((with_reducible refine' g_itupv ?gh ?gk); (case gh => walk_at "hp"))
  | ((with_reducible refine' g_ienumv ?gh ?gk); (case gh => walk_at "hp"))
  | ((with_reducible refine' g_ienTv ?gh ?gk); (case gh => walk_at "hp"))
  | ((with_reducible refine' g_slT ?gh ?gk); (case gh => walk_at "hp"); intro _ _ _ _)
  | ((with_reducible refine' g_slL ?gh ?gk); (case gh => walk_at "hp"))
  | ((with_reducible refine' g_catT ?gh ?gl ?gm ?gk); (case gh => walk_at "hp"); (case gl => walk_at "hp"); (case gm => walk_at "sz"); intro _ _ _ _)
  | ((with_reducible refine' g_catL ?gh ?gl ?gm ?gk); (case gh => walk_at "hp"); (case gl => walk_at "hp"); (case gm => walk_at "sz"))
  | ((with_reducible refine' g_tupL ?gh ?gk); (case gh => walk_at "hp"); intro _ _ _ _)
  | ((with_reducible refine' g_tupT ?gh ?gk); (case gh => walk_at "hp"); intro _ _ _ _)
  | ((with_reducible refine' g_starT ?gh ?gk); (case gh => walk_at "hp"))
  | ((with_reducible refine' g_starL ?gh ?gk); (case gh => walk_at "hp"))
  | ((with_reducible refine' g_tyL ?gh ?gk); (case gh => walk_at "hp"))
  | ((with_reducible refine' g_app ?gh ?gl ?gk); (case gh => walk_at "hp"); (case gl => walk_at "sz"))
  | ((with_reducible refine' g_inL ?gh ?gf ?gl ?gk); (case gh => walk_at "hp"); (case gf => rfl); (case gl => first | rfl | assumption))
  | ((with_reducible refine' g_irng1v ?gh ?gl ?gk); (case gh => omega); (case gl => omega))
  | ((with_reducible refine' g_irng2v ?gh ?gk); (case gh => omega))
  | ((with_reducible refine g_NewT ?_); intro _ _ _ _ _)
  | ((with_reducible refine' g_fldv ?gh ?gc ?gn ?gl ?gk); (case gh => walk_at "hp"); (case gc => assumption); (case gn => assumption); (case gl => first | rfl | walk_at "lk"))
  | ((with_reducible refine' g_fldw ?gh ?gc ?gn ?gl ?gk); (case gh => walk_at "hp"); (case gc => assumption); (case gn => assumption); (case gl => exact Nat.le_of_ble_eq_true rfl))
  | ((with_reducible refine' g_own2 ?gh ?gl ?gk); (case gh => walk_at "hp"); (case gl => walk_at "hp"))
  | ((with_reducible refine' g_own1 ?gh ?gk); (case gh => walk_at "hp"))
  | ((with_reducible refine' g_ownI ?gh ?gk); (case gh => walk_at "hp"))
  | ((with_reducible refine' g_recv ?gh ?gl ?gk); (case gh => walk_at "hp"); (case gl => walk_at "lk"))
  | ((with_reducible refine' g_lenS ?gh ?gk); (case gh => (have := sizeLine_eq; omega)))
  | ((with_reducible refine' ifT ?gh ?gk); (case gh => first | exact decide_eq_true (by omega) | exact nf (decide_eq_false (by omega)) | decide +kernel))
  | ((with_reducible refine' ifF ?gh ?gk); (case gh => first | exact decide_eq_false (by omega) | exact nt (decide_eq_true (by omega)) | decide +kernel)))
local macro_rules | `(tactic| walk_at "go1") => `(tactic| first
  | (with_reducible first
    | refine g_var rfl ?_
    | refine g_op ?_
    | refine g_cons ?_
    | refine g_nil ?_
    | refine g_c ?_
    | refine g_cb ?_
    | refine g_call ?_
    | refine g_seq ?_
    | refine g_asg ?_
    | refine g_name ?_
    | refine g_fld ?_
    | refine g_meth ?_
    | refine g_ifS ?_
    | refine g_if ?_
    | refine g_ret ?_
    | refine g_test ?_
    | refine g_tB ?_
    | refine g_bl ?_
    | refine g_and ?_
    | refine g_or ?_
    | refine g_not ?_
    | refine g_andV ?_
    | refine g_orV ?_
    | refine g_notV ?_
    | refine g_chain ?_
    | refine g_un ?_
    | refine g_ntup ?_
    | refine g_nlst ?_
    | refine g_drop ?_
    | refine g_next ?_
    | refine g_par ?_
    | refine g_par3 ?_
    | refine g_e2 ?_
    | refine g_e3 ?_
    | refine g_retN ?_
    | refine g_gcons ?_
    | refine g_gnil ?_
    | refine g_rI0 ?_
    | refine g_rU ?_
    | refine g_rSS ?_
    | refine g_rBB ?_
    | refine g_sib ?_
    | refine g_sii ?_
    | refine g_lc ?_
    | refine g_for ?_
    | refine g_istr ?_
    | refine g_istrv ?_
    | refine g_ilst ?_
    | refine g_itup ?_
    | refine g_irng1 ?_
    | refine g_irng2 ?_
    | refine g_ienum ?_
    | refine g_abs ?_
    | refine g_mx ?_
    | refine g_mn ?_
    | refine g_isN ?_
    | refine g_inC ?_
    | refine g_nfld ?_
    | refine g_ienT ?_
    | refine g_sl ?_
    | refine g_np ?_
    | refine g_pt ?_
    | refine g_ptv ?_
    | refine g_star ?_
    | refine g_bmL ?_)
  | walk_at "goA"
  | walk_at "goT"
  | walk_at "goB")
local macro_rules | `(tactic| walk_at "go") => `(tactic| repeat walk_at "go1")
/-! forms in plain numbers -/
theorem nrm_scale {a b q k : Int} (hk : 0 < k) : nrm (k * a) (k * b) (k * q) = nrm a b q := by
  have e1 : (Int.gcd (k * a) (k * b) : Int) = k * (Int.gcd a b : Int) := by
    rw [Int.gcd_mul_left]
    push_cast
    rw [Int.natAbs_of_nonneg (Int.le_of_lt hk)]
  have e2 : (Int.gcd (Int.gcd (k * a) (k * b) : Int) (k * q) : Int) = k * (Int.gcd (Int.gcd a b : Int) q : Int) := by
    rw [e1, Int.gcd_mul_left]
    push_cast
    rw [Int.natAbs_of_nonneg (Int.le_of_lt hk)]
  unfold nrm
  rw [e2, Int.mul_ediv_mul_of_pos _ _ hk, Int.mul_ediv_mul_of_pos _ _ hk, Int.mul_ediv_mul_of_pos _ _ hk]
theorem nrm_eqv {a b q a' b' q' : Int} (h : 0 < q) (h' : 0 < q') (e1 : a * q' = a' * q) (e2 : b * q' = b' * q) : nrm a b q = nrm a' b' q' := by
  rw [← nrm_scale (a := a) (b := b) (q := q) h', ← nrm_scale (a := a') (b := b') (q := q') h, Int.mul_comm q' a, Int.mul_comm q' b, e1, e2, Int.mul_comm q' q, Int.mul_comm q a', Int.mul_comm q b']
theorem nrm_self {a b q : Int} (h : 0 < q) : 0 < (nrm a b q).2.2 ∧ (nrm a b q).1 * q = a * (nrm a b q).2.2 ∧ (nrm a b q).2.1 * q = b * (nrm a b q).2.2 := by
  have hg := gcd3_pos (a := a) (b := b) h
  have d1 : (Int.gcd (Int.gcd a b : Int) q : Int) ∣ a := Int.dvd_trans (Int.gcd_dvd_left ..) (Int.gcd_dvd_left ..)
  have d2 : (Int.gcd (Int.gcd a b : Int) q : Int) ∣ b := Int.dvd_trans (Int.gcd_dvd_left ..) (Int.gcd_dvd_right ..)
  have d3 : (Int.gcd (Int.gcd a b : Int) q : Int) ∣ q := Int.gcd_dvd_right ..
  unfold nrm
  dsimp only
  generalize (Int.gcd (Int.gcd a b : Int) q : Int) = g at hg d1 d2 d3
  obtain ⟨x, rfl⟩ := d1
  obtain ⟨y, rfl⟩ := d2
  obtain ⟨z, rfl⟩ := d3
  have hg0 : g ≠ 0 := by omega
  rw [Int.mul_ediv_cancel_left _ hg0, Int.mul_ediv_cancel_left _ hg0, Int.mul_ediv_cancel_left _ hg0]
  refine ⟨?_, by grind, by grind⟩
  rcases Int.lt_trichotomy z 0 with lt | eq | gt
  · have := Int.mul_neg_of_pos_of_neg hg lt
    omega
  · rw [eq, Int.mul_zero] at h
    omega
  · exact gt
theorem nrm_nrm {a b q : Int} (h : 0 < q) : nrm (nrm a b q).1 (nrm a b q).2.1 (nrm a b q).2.2 = nrm a b q := by
  obtain ⟨h1, h2, h3⟩ := nrm_self (a := a) (b := b) h
  exact nrm_eqv h1 h h2 h3
theorem addF_comm (f g : F3) : addF f g = addF g f := by
  unfold addF
  rw [Int.add_comm, Int.add_comm (f.2.1 * g.2.2), Int.mul_comm f.2.2]
theorem mul_neg1 (f : F3) : mulF f (-1) = negF f := by
  unfold mulF negF
  rw [Int.mul_neg, Int.mul_one, Int.mul_neg, Int.mul_one]
theorem sub_back {f g : F3} (hf : 0 < f.2.2) (hg : 0 < g.2.2) (n : nrm f.1 f.2.1 f.2.2 = f) : subF (addF f g) g = f := by
  obtain ⟨a, b, q⟩ := f
  obtain ⟨c, e, r⟩ := g
  dsimp only at hf hg n
  have hqr : 0 < q * r := Int.mul_pos hf hg
  obtain ⟨p1, p2, p3⟩ := nrm_self (a := a * r + c * q) (b := b * r + e * q) hqr
  obtain ⟨m1, m2, m3⟩ := nrm_self (a := -c) (b := -e) hg
  unfold subF negF addF
  dsimp only
  generalize nrm (a * r + c * q) (b * r + e * q) (q * r) = F at p1 p2 p3
  generalize nrm (-c) (-e) r = N at m1 m2 m3
  obtain ⟨F1, F2, F3'⟩ := F
  obtain ⟨N1, N2, N3⟩ := N
  dsimp only at p1 p2 p3 m1 m2 m3 ⊢
  rw [← n]
  refine nrm_eqv (Int.mul_pos p1 m1) hf ?_ ?_
  · refine Int.eq_of_mul_eq_mul_right (show r ≠ 0 by omega) ?_
    grind
  · refine Int.eq_of_mul_eq_mul_right (show r ≠ 0 by omega) ?_
    grind
end RL
set_option maxHeartbeats 4000000
namespace RL
open PySem PySem.Spec PyProof.Rows L2
local macro_rules | `(tactic| walk_at "hp") => `(tactic| first
  | assumption
  | ((with_reducible refine' SqT.of ?gz); (case gz => walk_at "hp"))
  | ((with_reducible refine' SqL.of ?gz); (case gz => walk_at "hp"))
  | ((with_reducible refine' Same.seqT (by assumption) ?gz); (case gz => walk_at "hp"))
  | ((with_reducible refine' Same.seq (by assumption) ?gz); (case gz => walk_at "hp"))
  | ((with_reducible refine' s_at (by assumption) ?gz); (case gz => walk_at "hp"))
  | ((with_reducible refine' dp_mono (by assumption) ?gz); (case gz => walk_at "hp")))
local macro_rules | `(tactic| walk_at "sm") => `(tactic| first
  | assumption
  | exact Same.refl _
  | (with_reducible refine Same.trans ?_ (by assumption); walk_at "sm"))
local macro_rules | `(tactic| walk_at "st") => `(tactic| try dsimp only [cxOf, L2.Cx.nox, L2.Cx.wish])
local macro_rules | `(tactic| walk_at "sz") => `(tactic| (have := sizeLine_eq; (try simp only [List.length_append, List.length_map, List.length_take, List.length_drop, List.length_cons, List.length_nil]); omega))
local macro_rules | `(tactic| walk_at "lk") => `(tactic| fail)
local macro_rules | `(tactic| walk_at "goB") => `(tactic| fail)
local macro_rules | `(tactic| walk_at "goT") => `(tactic| fail)
local macro_rules | `(tactic| walk_at "goA") => `(tactic| first
  | (with_reducible first
    | refine ifT rfl ?_
    | refine ifF rfl ?_)
  | ((with_reducible refine' g_gtup ?gh ?gl ?gk); (case gh => walk_at "hp"); (case gl => rfl))
  | ((with_reducible refine' g_ixT ?gh ?gl ?gk); (case gh => walk_at "hp"); (case gl => first | rfl | assumption))
  | ((with_reducible refine' g_ixL ?gh ?gl ?gk); (case gh => walk_at "hp"); (case gl => first | rfl | assumption))
  | ((with_reducible refine' g_lenT ?gh ?gk); (case gh => walk_at "hp"))
  | ((with_reducible refine' g_lenL ?gh ?gk); (case gh => walk_at "hp"))
  | ((with_reducible refine' g_inT ?gh ?gf ?gl ?gk); (case gh => walk_at "hp"); (case gf => rfl); (case gl => rfl))
  | ((with_reducible refine' g_isi (d := true) ?gh ?gl ?gk); (case gh => first | exact ty_tup (by walk_at "hp") | exact .base (.int _) | exact .base (.str _)); (case gl => exact kit_ty (by decide +kernel)))
  | ((with_reducible refine' g_isi (d := false) ?gh ?gl ?gk); (case gh => first | exact ty_tup (by walk_at "hp") | exact .base (.int _) | exact .base (.str _)); (case gl => exact kit_ty (by decide +kernel)))
  | ((with_reducible refine' g_new ?gl ?gk); (case gl => first | exact Nat.le_of_ble_eq_true rfl | walk_at "sz"))
  | ((with_reducible refine' g_ilstv ?gh ?gk); (case gh => walk_at "hp"))
  | ((with_reducible refine' g_itupv ?gh ?gk); (case gh => walk_at "hp"))
  | ((with_reducible refine' g_ienumv ?gh ?gk); (case gh => walk_at "hp"))
  | ((with_reducible refine' g_ienTv ?gh ?gk); (case gh => walk_at "hp"))
  | ((with_reducible refine' g_slT ?gh ?gk); (case gh => walk_at "hp"); intro _ _ _ _)
  | ((with_reducible refine' g_slL ?gh ?gk); (case gh => walk_at "hp"))
  | ((with_reducible refine' g_catT ?gh ?gl ?gm ?gk); (case gh => walk_at "hp"); (case gl => walk_at "hp"); (case gm => walk_at "sz"); intro _ _ _ _)
  | ((with_reducible refine' g_catL ?gh ?gl ?gm ?gk); (case gh => walk_at "hp"); (case gl => walk_at "hp"); (case gm => walk_at "sz"))
  | ((with_reducible refine' g_tupL ?gh ?gk); (case gh => walk_at "hp"); intro _ _ _ _)
  | ((with_reducible refine' g_tupT ?gh ?gk); (case gh => walk_at "hp"); intro _ _ _ _)
  | ((with_reducible refine' g_starT ?gh ?gk); (case gh => walk_at "hp"))
  | ((with_reducible refine' g_starL ?gh ?gk); (case gh => walk_at "hp"))
  | ((with_reducible refine' g_tyL ?gh ?gk); (case gh => walk_at "hp"))
  | ((with_reducible refine' g_app ?gh ?gl ?gk); (case gh => walk_at "hp"); (case gl => walk_at "sz"))
  | ((with_reducible refine' g_inL ?gh ?gf ?gl ?gk); (case gh => walk_at "hp"); (case gf => rfl); (case gl => first | rfl | assumption))
  | ((with_reducible refine' g_irng1v ?gh ?gl ?gk); (case gh => omega); (case gl => omega))
  | ((with_reducible refine' g_irng2v ?gh ?gk); (case gh => omega))
  | ((with_reducible refine g_NewT ?_); intro _ _ _ _ _)
  | ((with_reducible refine' g_fldv ?gh ?gc ?gn ?gl ?gk); (case gh => walk_at "hp"); (case gc => assumption); (case gn => assumption); (case gl => first | rfl | walk_at "lk"))
  | ((with_reducible refine' g_fldw ?gh ?gc ?gn ?gl ?gk); (case gh => walk_at "hp"); (case gc => assumption); (case gn => assumption); (case gl => exact Nat.le_of_ble_eq_true rfl))
  | ((with_reducible refine' g_own2 ?gh ?gl ?gk); (case gh => walk_at "hp"); (case gl => walk_at "hp"))
  | ((with_reducible refine' g_own1 ?gh ?gk); (case gh => walk_at "hp"))
  | ((with_reducible refine' g_ownI ?gh ?gk); (case gh => walk_at "hp"))
  | ((with_reducible refine' g_recv ?gh ?gl ?gk); (case gh => walk_at "hp"); (case gl => walk_at "lk"))
  | ((with_reducible refine' g_lenS ?gh ?gk); (case gh => (have := sizeLine_eq; omega)))
  | ((with_reducible refine' ifT ?gh ?gk); (case gh => first | exact decide_eq_true (by omega) | exact nf (decide_eq_false (by omega)) | decide +kernel))
  | ((with_reducible refine' ifF ?gh ?gk); (case gh => first | exact decide_eq_false (by omega) | exact nt (decide_eq_true (by omega)) | decide +kernel)))
local macro_rules | `(tactic| walk_at "go1") => `(tactic| first
  | (with_reducible first
    | refine g_var rfl ?_
    | refine g_op ?_
    | refine g_cons ?_
    | refine g_nil ?_
    | refine g_c ?_
    | refine g_cb ?_
    | refine g_call ?_
    | refine g_seq ?_
    | refine g_asg ?_
    | refine g_name ?_
    | refine g_fld ?_
    | refine g_meth ?_
    | refine g_ifS ?_
    | refine g_if ?_
    | refine g_ret ?_
    | refine g_test ?_
    | refine g_tB ?_
    | refine g_bl ?_
    | refine g_and ?_
    | refine g_or ?_
    | refine g_not ?_
    | refine g_andV ?_
    | refine g_orV ?_
    | refine g_notV ?_
    | refine g_chain ?_
    | refine g_un ?_
    | refine g_ntup ?_
    | refine g_nlst ?_
    | refine g_drop ?_
    | refine g_next ?_
    | refine g_par ?_
    | refine g_par3 ?_
    | refine g_e2 ?_
    | refine g_e3 ?_
    | refine g_retN ?_
    | refine g_gcons ?_
    | refine g_gnil ?_
    | refine g_rI0 ?_
    | refine g_rU ?_
    | refine g_rSS ?_
    | refine g_rBB ?_
    | refine g_sib ?_
    | refine g_sii ?_
    | refine g_lc ?_
    | refine g_for ?_
    | refine g_istr ?_
    | refine g_istrv ?_
    | refine g_ilst ?_
    | refine g_itup ?_
    | refine g_irng1 ?_
    | refine g_irng2 ?_
    | refine g_ienum ?_
    | refine g_abs ?_
    | refine g_mx ?_
    | refine g_mn ?_
    | refine g_isN ?_
    | refine g_inC ?_
    | refine g_nfld ?_
    | refine g_ienT ?_
    | refine g_sl ?_
    | refine g_np ?_
    | refine g_pt ?_
    | refine g_ptv ?_
    | refine g_star ?_
    | refine g_bmL ?_)
  | walk_at "goA"
  | walk_at "goT"
  | walk_at "goB")
local macro_rules | `(tactic| walk_at "go") => `(tactic| repeat walk_at "go1")
local macro_rules | `(tactic| walk_at "tl") => `(tactic| first | (with_reducible exact tx_lt _) | exact (SX.S_tl _).symm | exact rfl)
local macro_rules | `(tactic| walk_at "ts") => `(tactic| (have := sizeLine_eq; (try simp only [tx_len, List.length_append, List.length_cons, List.length_nil]); first | omega | (decide +kernel)))
local macro_rules | `(tactic| walk_at "goT") => `(tactic| first
  | (with_reducible first
    | refine g_m0 ?_
    | refine g_m1 ?_
    | refine g_str ?_
    | refine g_starts ?_
    | refine g_ends ?_
    | refine g_isdig ?_
    | refine g_js ?_
    | refine g_nt ?_
    | refine g_jsn ?_
    | refine g_jsc ?_
    | refine g_fmt ?_)
  | ((with_reducible refine' g_slS ?gh ?gk); (case gh => walk_at "ts"))
  | ((with_reducible refine' g_jsv ?ge ?gn ?gk); (case ge => walk_at "tl"); (case gn => walk_at "ts"))
  | ((with_reducible refine' g_fmtS ?gn ?gk); (case gn => walk_at "ts"))
  | ((with_reducible refine' g_addS ?ge ?gf ?gn ?gk); (case ge => walk_at "tl"); (case gf => walk_at "tl"); (case gn => walk_at "ts"))
  | ((with_reducible refine' g_tru ?gn ?gk); (case gn => walk_at "ts"))
  | ((with_reducible refine' g_truT ?gh ?gk); (case gh => walk_at "hp"))
  | ((with_reducible refine' g_unl ?gh ?gl ?gk); (case gh => walk_at "hp"); (case gl => rfl)))
local macro_rules | `(tactic| walk_at "pt") => `(tactic| first
  | assumption
  | ((with_reducible refine' PotAt.same ?gz (by assumption)); (case gz => walk_at "pt")))
local macro_rules | `(tactic| walk_at "bt") => `(tactic| first
  | assumption
  | exact But.refl
  | (with_reducible refine But.trans ?_ (by assumption); walk_at "bt")
  | (with_reducible refine But.trans ?_ (But.of (by assumption)); walk_at "bt"))
local macro_rules | `(tactic| walk_at "hp") => `(tactic| first
  | assumption
  | ((with_reducible refine' SqT.of ?gz); (case gz => walk_at "hp"))
  | ((with_reducible refine' SqL.of ?gz); (case gz => walk_at "hp"))
  | ((with_reducible refine' Same.seqT (by assumption) ?gz); (case gz => walk_at "hp"))
  | ((with_reducible refine' Same.seq (by assumption) ?gz); (case gz => walk_at "hp"))
  | ((with_reducible refine' But.tupP (by assumption) ?gz ?gp); (case gz => walk_at "hp"); (case gp => walk_at "pt"))
  | ((with_reducible refine' But.lst (by assumption) ?gn ?gz); (case gn => exact PotAt.ne (by assumption) (by walk_at "pt")); (case gz => walk_at "hp"))
  | ((with_reducible refine' s_at (by assumption) ?gz); (case gz => walk_at "hp")))
local macro_rules | `(tactic| walk_at "goB") => `(tactic| first
  | ((with_reducible refine' u_dipN ?gh ?gn ?g0 ?g1 ?gk); (case gh => walk_at "pt"); (case gn => omega); (case g0 => first | omega | decide +kernel); (case g1 => first | omega | decide +kernel); intro _ _ _ _ _ _))
local macro_rules | `(tactic| walk_at "lk") => `(tactic| first | exact lk_row | exact lk_no (by decide +kernel))
theorem FBd.up {n m : Nat} {f : F3} (b : FBd n f) (h : n ≤ m) : FBd m f := ⟨Nat.lt_of_lt_of_le b.a (Nat.pow_le_pow_right (by decide) h), Nat.lt_of_lt_of_le b.b (Nat.pow_le_pow_right (by decide) h), b.q0, Nat.lt_of_lt_of_le b.q (Nat.pow_le_pow_right (by decide) h)⟩
theorem FBd.ok {n : Nat} {f : F3} (b : FBd n f) (hn : n ≤ 1600) (nn : nrm f.1 f.2.1 f.2.2 = f) : FOk f := by
  have h2 : (2 : Nat) ^ 1600 ≤ 10 ^ 500 := by decide +kernel
  have b2 := b.up hn
  exact ⟨b.q0, nn, Nat.lt_of_lt_of_le b2.a h2, Nat.lt_of_lt_of_le b2.b h2, Nat.lt_of_lt_of_le b2.q h2⟩
theorem mul_bd {i j : Int} {n m : Nat} (h1 : i.natAbs < 2 ^ n) (h2 : j.natAbs < 2 ^ m) : (i * j).natAbs < 2 ^ (n + m) := by
  rw [Int.natAbs_mul, Nat.pow_add]
  exact Nat.mul_lt_mul'' h1 h2
theorem sum_bd {i j : Int} {n : Nat} (h1 : i.natAbs < 2 ^ n) (h2 : j.natAbs < 2 ^ n) : (i + j).natAbs < 2 ^ (n + 1) := by
  rw [Nat.pow_succ]
  have := Int.natAbs_add_le i j
  omega
theorem add_bd {n m : Nat} {f g : F3} (b1 : FBd n f) (b2 : FBd m g) : FBd (n + m + 1) (addF f g) := by
  have up : ∀ {x : Nat}, x < 2 ^ (m + n) → x < 2 ^ (n + m) := fun h => by rwa [Nat.add_comm n m]
  exact nrm_bd (Int.mul_pos b1.q0 b2.q0) (sum_bd (mul_bd b1.a b2.q) (up (mul_bd b2.a b1.q))) (sum_bd (mul_bd b1.b b2.q) (up (mul_bd b2.b b1.q))) (Nat.lt_of_lt_of_le (mul_bd b1.q b2.q) (Nat.pow_le_pow_right (by decide) (by omega)))
theorem neg_bd {n : Nat} {f : F3} (b : FBd n f) : FBd n (negF f) := nrm_bd b.q0 (by rw [Int.natAbs_neg]; exact b.a) (by rw [Int.natAbs_neg]; exact b.b) b.q
theorem add_nn {f g : F3} (h1 : 0 < f.2.2) (h2 : 0 < g.2.2) : nrm (addF f g).1 (addF f g).2.1 (addF f g).2.2 = addF f g := nrm_nrm (Int.mul_pos h1 h2)
theorem neg_nn {f : F3} (h1 : 0 < f.2.2) : nrm (negF f).1 (negF f).2.1 (negF f).2.2 = negF f := nrm_nrm h1
theorem FormAt.but {K : PySem.W.Frag} {H H' : Hp} {p D : Addr} {xs : List V} {f : F3} (b : But D H H') (hD : H D = some (.lst xs)) : FormAt K H p f → FormAt K H' p f := fun ⟨dx, t, h1, h2⟩ =>
  ⟨dx, t, b p _ (ne_of h1 hD (by intro z; cases z)) h1, b.tup hD h2⟩
section
variable {P : Program} {w : World} {K : PySem.W.Frag} {mg : Str → Option Value} {base : Heap}
def sp_formsR : Sp := fun vs H Q _ => ∃ p n, vs = [.ref p] ∧ PotAt H p n ∧ 1000 ≤ n ∧ ∀ H', But p H H' → PotAt H' p (n - 1000) → Q (.bl true) H'
theorem u_formsR {p : Addr} {n : Nat} {H : Hp} {Q : VK} {E : XK} (h : PotAt H p n) (hn : 1000 ≤ n) (k : ∀ H', But p H H' → PotAt H' p (n - 1000) → Q (.bl true) H') : sp_formsR [.ref p] H Q E := ⟨p, n, rfl, h, hn, k⟩
theorem sc__law_forms_right : FnScope ["_law_pot_here", "_law_one", "_law_two", "_law_made_here", "_law_read", "_law_k", "_law_both", "_law_form"] ["_law_pot_here"] (defScope s__law_forms_right) := C8.fnScope_by (by decide +kernel)
theorem c__law_forms_right (T : Tx K mg) : C8.Cal P w K mg base 7 "_law_forms_right" sp_formsR [] := by
  refine calD T.d__law_forms_right T.g__law_forms_right (fun _ _ _ _ _ _ us hl => match us, hl with | [_], _ => rfl) sc__law_forms_right (fun vs H Q E ⟨_, _, e, _⟩ => by rw [e]; rfl) fun fd cdv A outer s H vs Q E hr h => ?_
  obtain ⟨p, n, rfl, hP, hn, k⟩ := h
  refine ⟨_, (pss_cons (ps_par (i := 1) (j := 2) rfl sc__law_forms_right.nd rfl rfl (by decide) rfl rfl (pa_cons (C8.pe_c (c__law_row T) hr (by decide) rfl (pa_cons (pv 0) (pa_cons (pe_op op_powB pe_int pe_int) pa_nil))) (pa_cons (C8.pe_c (c__law_row T) hr (by decide) rfl (pa_cons (pv 0) (pa_cons (pe_op op_powB pe_int pe_int) pa_nil))) pa_nil)) (by rfl))
      (pss_cons (ps_set (i := 3) sc__law_forms_right.nd rfl (Or.inl rfl) (pe_nlst (pa_cons (pe_cm (m_Form T) hr (by decide) rfl (pa_cons (pe_ix ix_tup (pv 1) pe_int (fun _ _ => rfl)) (pa_cons (pe_ix ix_tup (pv 1) pe_int (fun _ _ => rfl)) (pa_cons (pe_ix ix_tup (pv 1) pe_int (fun _ _ => rfl)) pa_nil)))) (pa_cons (pe_cm (m_Form T) hr (by decide) rfl (pa_cons (pe_ix ix_tup (pv 2) pe_int (fun _ _ => rfl)) (pa_cons (pe_ix ix_tup (pv 2) pe_int (fun _ _ => rfl)) (pa_cons (pe_ix ix_tup (pv 2) pe_int (fun _ _ => rfl)) pa_nil)))) pa_nil))))
      (pss_cons (ps_setLc (i := 4) (own := [("_law_form", 7)]) rfl sc__law_forms_right.nd rfl rfl (sw_true rfl rfl rfl (by decide +kernel)) (pj_list (pv 3)) (blkOk_by (N := ["_law_pot_here", "_law_one", "_law_two", "_law_made_here", "_law_read", "_law_k", "_law_both", "_law_form"]) (sc := defScope s__law_forms_right) (by decide +kernel)) (fun _ _ _ _ _ => (pg_name (i := 7) sc__law_forms_right.nd rfl (Or.inl rfl))) (fun _ _ _ _ _ => pts_nil) (fun _ _ _ _ _ => (C8.pe_c (c_read_form T) hr (by decide) rfl (pa_cons (C8.pe_c (c_form_text T) hr (by decide) rfl (pa_cons (pv 7) pa_nil)) pa_nil))))
      (pss_cons (ps_for PassesOwn.never rfl (pj_range1 rfl T.b_range (pa_cons pe_int pa_nil)) (pg_name (i := 5) sc__law_forms_right.nd rfl (Or.inl rfl))
        (pss_one (ps_if (pt_not (PW.pt (pw_and (pt_cmpR (o_Form_eq T hr (by decide)) (pe_ix ix_list (pv 4) (pv 5) (fun _ _ => rfl)) (pe_ix ix_list (pv 3) (pv 5) (fun _ _ => rfl)) (nomark _)) (pw_and1 (pt_cmpR op_eqS (C8.pe_c (c_form_text T) hr (by decide) rfl (pa_cons (pe_ix ix_list (pv 4) (pv 5) (fun _ _ => rfl)) pa_nil)) (C8.pe_c (c_form_text T) hr (by decide) rfl (pa_cons (pe_ix ix_list (pv 3) (pv 5) (fun _ _ => rfl)) pa_nil)) (nomark _))))))
          (pss_one (ps_ret pe_bl))
          pss_nil)))
      (pss_cons (ps_set (i := 6) sc__law_forms_right.nd rfl (Or.inl rfl) (pe_op (o_Form_Add T hr (by decide)) (pe_ix ix_list (pv 4) pe_int (fun _ _ => rfl)) (pe_ix ix_list (pv 4) pe_int (fun _ _ => rfl))))
      (pss_cons (ps_if (pt_not (PW.pt (pw_and (pt_cmpR (o_Form_eq T hr (by decide)) (pv 6) (C8.pe_c (c_read_form T) hr (by decide) rfl (pa_cons (C8.pe_c (c_form_text T) hr (by decide) rfl (pa_cons (pv 6) pa_nil)) pa_nil)) (nomark _)) (pw_and1 (pt_cmpR (o_Form_eq T hr (by decide)) (pv 6) (pe_op (o_Form_Add T hr (by decide)) (pe_ix ix_list (pv 3) pe_int (fun _ _ => rfl)) (pe_ix ix_list (pv 3) pe_int (fun _ _ => rfl))) (nomark _))))))
        (pss_one (ps_ret pe_bl))
        pss_nil)
      (pss_one (ps_ret (pe_and (pe_cmpR (o_Form_eq T hr (by decide)) (C8.pe_c (c_read_form T) hr (by decide) rfl (pa_cons (C8.pe_c (c_form_text T) hr (by decide) rfl (pa_cons (pe_op (o_Form_Sub T hr (by decide)) (pv 6) (pe_ix ix_list (pv 4) pe_int (fun _ _ => rfl))) pa_nil)) pa_nil)) (pe_ix ix_list (pv 3) pe_int (fun _ _ => rfl)) (nomark _)) (pe_one (pe_cmpR (o_Form_eq T hr (by decide)) (C8.pe_c (c_read_form T) hr (by decide) rfl (pa_cons (C8.pe_c (c_form_text T) hr (by decide) rfl (pa_cons (pe_un (u_Form_neg' T hr (by decide)) (pv 6)) pa_nil)) pa_nil)) (pe_op (o_Form_Mult T hr (by decide)) (pv 6) (pe_un un_neg pe_int)) (nomark _)))))))))))), ?_⟩
  walk_at "st"
  have hsz := sizeLine_eq
  walk_at "go"
  refine g_rI (show CPowB 10 50 from ⟨by decide, by decide, by decide +kernel⟩) ?_
  walk_at "go"
  refine u_lrow hP (by omega) (by decide +kernel) (by decide +kernel) fun t1 a b q H1 b1 p1 la lb q0 lq h1 => ?_
  walk_at "go"
  refine g_rI (show CPowB 10 8 from ⟨by decide, by decide, by decide +kernel⟩) ?_
  walk_at "go"
  refine u_lrow p1 (by omega) (by decide +kernel) (by decide +kernel) fun t2 c e r H2 b2 p2 lc le r0 lr h2 => ?_
  have p50 : (10 : Nat) ^ 50 < 2 ^ 200 := by decide +kernel
  have bf : FBd 200 (nrm a b q) := nrm_bd q0 (Nat.lt_trans la p50) (Nat.lt_trans lb p50) (Nat.lt_of_le_of_lt (show q.natAbs ≤ 10 ^ 50 by omega) p50)
  have bg : FBd 200 (nrm c e r) := nrm_bd r0 (Nat.lt_trans lc p50) (Nat.lt_trans le p50) (Nat.lt_of_le_of_lt (show r.natAbs ≤ 10 ^ 50 by omega) p50)
  have nf := nrm_nrm (a := a) (b := b) q0
  have ng := nrm_nrm (a := c) (b := e) r0
  generalize nrm a b q = f at bf nf h1
  generalize nrm c e r = g at bg ng h2
  have h12 := b2.tupP h1 p1
  have f8 := bf.up (show 200 ≤ 3000 by decide)
  have g8 := bg.up (show 200 ≤ 3000 by decide)
  have fo := bf.ok (by decide) nf
  have go' := bg.ok (by decide) ng
  walk_at "go"
  refine u_Form bf.q0 f8.q8 fun r1 H3 s3 n3 F3a => ?_
  rw [nf] at F3a
  have h23 := Same.seqT s3 h2
  walk_at "go"
  refine u_Form bg.q0 g8.q8 fun r2 H4 s4 n4 F4 => ?_
  rw [ng] at F4
  walk_at "go"
  rename_i qM H5 n5 s5 h5
  have F15 := F3a.mono (s4.trans s5)
  have F25 := F4.mono s5
  refine lc_ref walk_list (fun i v H => ∃ (r : Addr) (g' : F3), v = .ref r ∧ [f, g][i]? = some g' ∧ FormAt K H r g') (fun i y H H' e ⟨r, g', h1, h2, h3⟩ => ⟨r, g', h1, h2, h3.mono e⟩) (fun i y H H' D xs hD b ⟨r, g', h1, h2, h3⟩ => ⟨r, g', h1, h2, FormAt.but b hD h3⟩) (by simp only [List.length_cons, List.length_nil]; omega) (fun H' s' => SqL.of (s' _ _ h5)) ?_ ?_
  · rintro i v H6 H7 kk hi s6 ⟨rfl, hv⟩ hk
    refine g_name ⟨rfl, ?_⟩
    have hi2 : i < 2 := hi
    rcases (show i = 0 ∨ i = 1 by omega) with rfl | rfl
    · cases (Option.some.inj hv)
      walk_at "go"
      refine u_form_text (F15.mono s6) fo.a fo.b fo.q fun H8 s8 => ?_
      walk_at "go"
      exact u_read_form fo fun r' H9 s9 n9 F9 => hk _ H9 (s8.trans s9) ⟨r', f, rfl, rfl, F9⟩
    · cases (Option.some.inj hv)
      walk_at "go"
      refine u_form_text (F25.mono s6) go'.a go'.b go'.q fun H8 s8 => ?_
      walk_at "go"
      exact u_read_form go' fun r' H9 s9 n9 F9 => hk _ H9 (s8.trans s9) ⟨r', g, rfl, rfl, F9⟩
  · intro qR H6 ys n6 s6 h6 ly hy
    match ys, ly, hy, h6 with
    | [y0, y1], _, hy, h6 =>
    obtain ⟨u0, g0, rfl, e0, G0⟩ := hy 0 y0 rfl
    obtain ⟨u1, g1, rfl, e1, G1⟩ := hy 1 y1 rfl
    cases (Option.some.inj e0)
    cases (Option.some.inj e1)
    walk_at "go"
    refine for_w walk_range (fun i σ' H' => Same H6 H' ∧ ∃ y, σ' = [some (.ref p), some (.ref t1), some (.ref t2), some (.ref qM), some (.ref qR), y, none, none]) ⟨Same.refl _, none, rfl⟩ (fun _ _ _ _ _ => trivial) ?_ ?_
    · rintro i v σ' H7 H7' hi ⟨s7, y, rfl⟩ ⟨rfl, rfl⟩
      have hi2 : i < 2 := hi
      rcases (show i = 0 ∨ i = 1 by omega) with rfl | rfl
      · have X7 := G0.mono s7
        have Y7 := F15.mono (s6.trans s7)
        obtain ⟨d1, w1, g1', _⟩ := id X7
        obtain ⟨d2, w2, g2', _⟩ := id Y7
        walk_at "go"
        refine u_Form_eq X7 Y7 ?_
        walk_at "go"
        refine u_form_text X7 fo.a fo.b fo.q fun H8 s8 => ?_
        walk_at "go"
        refine u_form_text (Y7.mono s8) fo.a fo.b fo.q fun H9 s9 => ?_
        walk_at "go"
        rw [decide_eq_true rfl]
        walk_at "go"
        exact ⟨(s7.trans s8).trans s9, _, rfl⟩
      · have X7 := G1.mono s7
        have Y7 := F25.mono (s6.trans s7)
        obtain ⟨d1, w1, g1', _⟩ := id X7
        obtain ⟨d2, w2, g2', _⟩ := id Y7
        walk_at "go"
        refine u_Form_eq X7 Y7 ?_
        walk_at "go"
        refine u_form_text X7 go'.a go'.b go'.q fun H8 s8 => ?_
        walk_at "go"
        refine u_form_text (Y7.mono s8) go'.a go'.b go'.q fun H9 s9 => ?_
        walk_at "go"
        rw [decide_eq_true rfl]
        walk_at "go"
        exact ⟨(s7.trans s8).trans s9, _, rfl⟩
    · rintro σ' H7 ⟨s7, y, rfl⟩
      have h57 := s7 _ _ (s6 _ _ h5)
      have h67 := s7 _ _ h6
      have X0 := G0.mono s7
      have X1 := G1.mono s7
      have Y0 := F15.mono (s6.trans s7)
      have Y1 := F25.mono (s6.trans s7)
      obtain ⟨d1, w1, i1, _⟩ := id X0
      obtain ⟨d2, w2, i2, _⟩ := id X1
      have bF := add_bd bf bg
      have nF := add_nn bf.q0 bg.q0
      have oF := bF.ok (by decide) nF
      have F8 := bF.up (show 200 + 200 + 1 ≤ 3000 by decide)
      walk_at "go"
      refine u_Form_add X0 X1 f8 g8 fun u3 H8 s8 n8 Z8 => ?_
      walk_at "go"
      refine u_form_text Z8 oF.a oF.b oF.q fun H9 s9 => ?_
      walk_at "go"
      refine u_read_form oF fun u4 H10 s10 n10 Z10 => ?_
      have Z810 := Z8.mono (s9.trans s10)
      obtain ⟨d3, w3, i3, _⟩ := id Z810
      obtain ⟨d4, w4, i4, _⟩ := id Z10
      walk_at "go"
      refine u_Form_eq Z810 Z10 ?_
      have s710 := s8.trans (s9.trans s10)
      have Y0' := Y0.mono s710
      have Y1' := Y1.mono s710
      obtain ⟨d5, w5, i5, _⟩ := id Y0'
      obtain ⟨d6, w6, i6, _⟩ := id Y1'
      walk_at "go"
      refine u_Form_add Y1' Y0' g8 f8 fun u5 H11 s11 n11 Z11 => ?_
      rw [addF_comm] at Z11
      have Z811 := Z810.mono s11
      obtain ⟨d7, w7, i7, _⟩ := id Z811
      obtain ⟨d8, w8, i8, _⟩ := id Z11
      walk_at "go"
      refine u_Form_eq Z811 Z11 ?_
      have X1' := X1.mono (s710.trans s11)
      obtain ⟨d9, w9, i9, _⟩ := id X1'
      walk_at "go"
      refine u_Form_sub Z811 X1' F8 g8 fun u6 H12 s12 n12 Z12 => ?_
      rw [sub_back bf.q0 bg.q0 nf] at Z12
      walk_at "go"
      refine u_form_text Z12 fo.a fo.b fo.q fun H13 s13 => ?_
      walk_at "go"
      refine u_read_form fo fun u7 H14 s14 n14 Z14 => ?_
      have s714 := (s710.trans s11).trans (s12.trans (s13.trans s14))
      have Y0'' := Y0.mono s714
      obtain ⟨d10, w10, i10, _⟩ := id Y0''
      obtain ⟨d11, w11, i11, _⟩ := id Z14
      walk_at "go"
      refine u_Form_eq Z14 Y0'' ?_
      have Z814 := Z811.mono (s12.trans (s13.trans s14))
      obtain ⟨d12, w12, i12, _⟩ := id Z814
      walk_at "go"
      refine u_Form_neg Z814 F8 fun u8 H15 s15 n15 Z15 => ?_
      have bN := neg_bd bF
      have oN := bN.ok (by decide) (neg_nn bF.q0)
      walk_at "go"
      refine u_form_text Z15 oN.a oN.b oN.q fun H16 s16 => ?_
      walk_at "go"
      refine u_read_form oN fun u9 H17 s17 n17 Z17 => ?_
      have Z817 := Z814.mono (s15.trans (s16.trans s17))
      obtain ⟨d13, w13, i13, _⟩ := id Z817
      walk_at "go"
      refine u_Form_mul Z817 F8 (by decide +kernel) fun u10 H18 s18 n18 Z18 => ?_
      rw [mul_neg1] at Z18
      have Z17' := Z17.mono s18
      obtain ⟨d14, w14, i14, _⟩ := id Z17'
      obtain ⟨d15, w15, i15, _⟩ := id Z18
      walk_at "go"
      refine u_Form_eq Z17' Z18 ?_
      walk_at "go"
      have sAll : Same H2 H18 := ((((s3.trans s4).trans s5).trans s6).trans s7).trans (s714.trans ((s15.trans (s16.trans s17)).trans s18))
      exact k H18 ((b1.trans b2).trans (But.of sAll)) ((p2.same sAll).le (by omega))
end
end RL
set_option maxHeartbeats 2000000
/-! roundline: xs[::k], k 1 or -1 -/
namespace RL
open PySem PySem.Spec PyProof.Rows L2
section
variable {X : Cx} {e st : Expr} {te ts : TE} {p3 pos : Pos}
def vStp (K : PySem.W.Frag) (Q : VK) (x y : V) (H : Hp) : Prop := ∃ a xs i, x = .ref a ∧ y = .int i ∧ (i = 1 ∨ i = -1) ∧ SqL K H a xs ∧ (i = 1 → NewT H (.lst xs) Q) ∧ (i = -1 → NewT H (.lst xs.reverse) Q)
def nStp (K : PySem.W.Frag) (te ts : TE) : TE := fun σ H Q => te σ H fun x H1 => ts σ H1 fun y H2 => vStp K Q x y H2
theorem pick_one (items : Array Value) : slicePick items none none (some 1) = items := by
  have h : slicePick items none none (some 1) = slicePick items none none none := rfl
  rw [h, slicePick_all]
theorem pe_nstep (he : PE X e te) (hst : PE X st ts) : PE X (.Subscript e (.Slice none none (some st) p3) pos) (nStp X.K te ts) := by
  refine ⟨fun pins s σ H Q I h => Subscript_ (thn (he.run pins s σ H _ I h) fun v s1 ⟨x, H1, I1, r1, q1⟩ => ?_)⟩
  refine wpAny_Slice (thn (po_none.run pins s1 σ H1 (fun o H2 => o = none ∧ H2 = H1) I1 ⟨rfl, rfl⟩) fun vl s2 ⟨l, H2, I2, pl, el, e2⟩ => ?_)
  subst el e2
  refine thn (po_none.run pins s2 σ H2 (fun o H3 => o = none ∧ H3 = H2) I2 ⟨rfl, rfl⟩) fun vu s3 ⟨u, H3, I3, pu, eu, e3⟩ => ?_
  subst eu e3
  refine thn ((po_some (pe_m hst)).run pins s3 σ H3 (fun o H4 => ∃ i, o = some i ∧ vStp X.K Q x (.int i) H4) I3 ⟨_, q1, fun y H4 z => ?_⟩) fun vs s4 ⟨o, H4, I4, ps, i, eo, z⟩ => ?_
  · obtain ⟨a, xs, i, ex, ey, _⟩ := id z
    subst ey
    exact ⟨i, rfl, i, rfl, z⟩
  · subst eo
    obtain ⟨a, xs, j, ex, ey, hj, hx, k1, k2⟩ := z
    cases ey
    subst ex
    cases r1
    have I5 : Inv X pins σ H4 { s4 with heap := s4.heap.push { cls := .type "slice", data := .fields #[vl, vu, vs] } } := I4.kept (t' := s4.toks) fun _ _ q => Heap.get?_push_of_some _ q
    obtain ⟨its, rv, hl, hz⟩ := I5.list hx
    have hn := rv.length
    show wpAny _ X.A (subscriptTail e (.Slice none none (some st) p3) (.ref a) (.ref s4.heap.objs.size)) _ _ { s4 with heap := s4.heap.push { cls := .type "slice", data := .fields #[vl, vu, vs] } }
    refine tail_any (ops := [.ref a, .ref s4.heap.objs.size]) hl.isList.typeIs (PySem.slot_list_getitem.lookup) ?_ (by with_unfolding_all rfl)
    refine wpAny_getItem_list_slice hl.isList (Heap.IsSliceOf.new _ vl vu vs) pl pu ps (by rcases hj with rfl | rfl <;> decide) ?_ (by rw [List.size_toArray]; omega)
    rcases hj with rfl | rfl
    · rw [pick_one]
      exact ⟨.ref _, _, I5.laid (t' := s4.toks) (o := .lst xs) (fun _ _ q => Heap.get?_push_of_some _ q) (Nat.le_refl _) ⟨hz, _, 0, rv, Heap.get?_push_size _ rfl⟩, rfl, (k1 rfl).old _ (I5.hok.fresh (Nat.le_refl _))⟩
    · rw [PySem.W.krv_pick]
      exact ⟨.ref _, _, I5.laid (t' := s4.toks) (o := .lst xs.reverse) (fun _ _ q => Heap.get?_push_of_some _ q) (Nat.le_refl _) ⟨by rw [List.length_reverse]; exact hz, _, 0, rv.reverse, Heap.get?_push_size _ rfl⟩, rfl, (k2 rfl).old _ (I5.hok.fresh (Nat.le_refl _))⟩
end
section
variable {K : PySem.W.Frag} {te ts : TE} {σ : L2.St} {H : Hp} {Q : VK}
theorem g_stp (h : te σ H fun x H1 => ts σ H1 fun y H2 => vStp K Q x y H2) : nStp K te ts σ H Q := h
end
end RL
set_option maxHeartbeats 4000000
namespace RL
open PySem PySem.Spec PyProof.Rows L2
local macro_rules | `(tactic| walk_at "hp") => `(tactic| first
  | assumption
  | ((with_reducible refine' SqT.of ?gz); (case gz => walk_at "hp"))
  | ((with_reducible refine' SqL.of ?gz); (case gz => walk_at "hp"))
  | ((with_reducible refine' Same.seqT (by assumption) ?gz); (case gz => walk_at "hp"))
  | ((with_reducible refine' Same.seq (by assumption) ?gz); (case gz => walk_at "hp"))
  | ((with_reducible refine' s_at (by assumption) ?gz); (case gz => walk_at "hp"))
  | ((with_reducible refine' dp_mono (by assumption) ?gz); (case gz => walk_at "hp")))
local macro_rules | `(tactic| walk_at "sm") => `(tactic| first
  | assumption
  | exact Same.refl _
  | (with_reducible refine Same.trans ?_ (by assumption); walk_at "sm"))
local macro_rules | `(tactic| walk_at "st") => `(tactic| try dsimp only [cxOf, L2.Cx.nox, L2.Cx.wish])
local macro_rules | `(tactic| walk_at "sz") => `(tactic| (have := sizeLine_eq; (try simp only [List.length_append, List.length_map, List.length_take, List.length_drop, List.length_cons, List.length_nil]); omega))
local macro_rules | `(tactic| walk_at "lk") => `(tactic| fail)
local macro_rules | `(tactic| walk_at "goB") => `(tactic| fail)
local macro_rules | `(tactic| walk_at "goT") => `(tactic| fail)
local macro_rules | `(tactic| walk_at "goA") => `(tactic| first
  | (with_reducible first
    | refine ifT rfl ?_
    | refine ifF rfl ?_)
  | ((with_reducible refine' g_gtup ?gh ?gl ?gk); (case gh => walk_at "hp"); (case gl => rfl))
  | ((with_reducible refine' g_ixT ?gh ?gl ?gk); (case gh => walk_at "hp"); (case gl => first | rfl | assumption))
  | ((with_reducible refine' g_ixL ?gh ?gl ?gk); (case gh => walk_at "hp"); (case gl => first | rfl | assumption))
  | ((with_reducible refine' g_lenT ?gh ?gk); (case gh => walk_at "hp"))
  | ((with_reducible refine' g_lenL ?gh ?gk); (case gh => walk_at "hp"))
  | ((with_reducible refine' g_inT ?gh ?gf ?gl ?gk); (case gh => walk_at "hp"); (case gf => rfl); (case gl => rfl))
  | ((with_reducible refine' g_isi (d := true) ?gh ?gl ?gk); (case gh => first | exact ty_tup (by walk_at "hp") | exact .base (.int _) | exact .base (.str _)); (case gl => exact kit_ty (by decide +kernel)))
  | ((with_reducible refine' g_isi (d := false) ?gh ?gl ?gk); (case gh => first | exact ty_tup (by walk_at "hp") | exact .base (.int _) | exact .base (.str _)); (case gl => exact kit_ty (by decide +kernel)))
  | ((with_reducible refine' g_new ?gl ?gk); (case gl => first | exact Nat.le_of_ble_eq_true rfl | walk_at "sz"))
  | ((with_reducible refine' g_ilstv ?gh ?gk); (case gh => walk_at "hp"))
  | ((with_reducible refine' g_itupv ?gh ?gk); (case gh => walk_at "hp"))
  | ((with_reducible refine' g_ienumv ?gh ?gk); (case gh => walk_at "hp"))
  | ((with_reducible refine' g_ienTv ?gh ?gk); (case gh => walk_at "hp"))
  | ((with_reducible refine' g_slT ?gh ?gk); (case gh => walk_at "hp"); intro _ _ _ _)
  | ((with_reducible refine' g_slL ?gh ?gk); (case gh => walk_at "hp"))
  | ((with_reducible refine' g_catT ?gh ?gl ?gm ?gk); (case gh => walk_at "hp"); (case gl => walk_at "hp"); (case gm => walk_at "sz"); intro _ _ _ _)
  | ((with_reducible refine' g_catL ?gh ?gl ?gm ?gk); (case gh => walk_at "hp"); (case gl => walk_at "hp"); (case gm => walk_at "sz"))
  | ((with_reducible refine' g_tupL ?gh ?gk); (case gh => walk_at "hp"); intro _ _ _ _)
  | ((with_reducible refine' g_tupT ?gh ?gk); (case gh => walk_at "hp"); intro _ _ _ _)
  | ((with_reducible refine' g_starT ?gh ?gk); (case gh => walk_at "hp"))
  | ((with_reducible refine' g_starL ?gh ?gk); (case gh => walk_at "hp"))
  | ((with_reducible refine' g_tyL ?gh ?gk); (case gh => walk_at "hp"))
  | ((with_reducible refine' g_app ?gh ?gl ?gk); (case gh => walk_at "hp"); (case gl => walk_at "sz"))
  | ((with_reducible refine' g_inL ?gh ?gf ?gl ?gk); (case gh => walk_at "hp"); (case gf => rfl); (case gl => first | rfl | assumption))
  | ((with_reducible refine' g_irng1v ?gh ?gl ?gk); (case gh => omega); (case gl => omega))
  | ((with_reducible refine' g_irng2v ?gh ?gk); (case gh => omega))
  | ((with_reducible refine g_NewT ?_); intro _ _ _ _ _)
  | ((with_reducible refine' g_fldv ?gh ?gc ?gn ?gl ?gk); (case gh => walk_at "hp"); (case gc => assumption); (case gn => assumption); (case gl => first | rfl | walk_at "lk"))
  | ((with_reducible refine' g_fldw ?gh ?gc ?gn ?gl ?gk); (case gh => walk_at "hp"); (case gc => assumption); (case gn => assumption); (case gl => exact Nat.le_of_ble_eq_true rfl))
  | ((with_reducible refine' g_own2 ?gh ?gl ?gk); (case gh => walk_at "hp"); (case gl => walk_at "hp"))
  | ((with_reducible refine' g_own1 ?gh ?gk); (case gh => walk_at "hp"))
  | ((with_reducible refine' g_ownI ?gh ?gk); (case gh => walk_at "hp"))
  | ((with_reducible refine' g_recv ?gh ?gl ?gk); (case gh => walk_at "hp"); (case gl => walk_at "lk"))
  | ((with_reducible refine' g_lenS ?gh ?gk); (case gh => (have := sizeLine_eq; omega)))
  | ((with_reducible refine' ifT ?gh ?gk); (case gh => first | exact decide_eq_true (by omega) | exact nf (decide_eq_false (by omega)) | decide +kernel))
  | ((with_reducible refine' ifF ?gh ?gk); (case gh => first | exact decide_eq_false (by omega) | exact nt (decide_eq_true (by omega)) | decide +kernel)))
local macro_rules | `(tactic| walk_at "go1") => `(tactic| first
  | (with_reducible first
    | refine g_var rfl ?_
    | refine g_op ?_
    | refine g_cons ?_
    | refine g_nil ?_
    | refine g_c ?_
    | refine g_cb ?_
    | refine g_call ?_
    | refine g_seq ?_
    | refine g_asg ?_
    | refine g_name ?_
    | refine g_fld ?_
    | refine g_meth ?_
    | refine g_ifS ?_
    | refine g_if ?_
    | refine g_ret ?_
    | refine g_test ?_
    | refine g_tB ?_
    | refine g_bl ?_
    | refine g_and ?_
    | refine g_or ?_
    | refine g_not ?_
    | refine g_andV ?_
    | refine g_orV ?_
    | refine g_notV ?_
    | refine g_chain ?_
    | refine g_un ?_
    | refine g_ntup ?_
    | refine g_nlst ?_
    | refine g_drop ?_
    | refine g_next ?_
    | refine g_par ?_
    | refine g_par3 ?_
    | refine g_e2 ?_
    | refine g_e3 ?_
    | refine g_retN ?_
    | refine g_gcons ?_
    | refine g_gnil ?_
    | refine g_rI0 ?_
    | refine g_rU ?_
    | refine g_rSS ?_
    | refine g_rBB ?_
    | refine g_sib ?_
    | refine g_sii ?_
    | refine g_lc ?_
    | refine g_for ?_
    | refine g_istr ?_
    | refine g_istrv ?_
    | refine g_ilst ?_
    | refine g_itup ?_
    | refine g_irng1 ?_
    | refine g_irng2 ?_
    | refine g_ienum ?_
    | refine g_abs ?_
    | refine g_mx ?_
    | refine g_mn ?_
    | refine g_isN ?_
    | refine g_inC ?_
    | refine g_nfld ?_
    | refine g_ienT ?_
    | refine g_sl ?_
    | refine g_np ?_
    | refine g_pt ?_
    | refine g_ptv ?_
    | refine g_star ?_
    | refine g_bmL ?_)
  | walk_at "goA"
  | walk_at "goT"
  | walk_at "goB")
local macro_rules | `(tactic| walk_at "go") => `(tactic| repeat walk_at "go1")
local macro_rules | `(tactic| walk_at "tl") => `(tactic| first | (with_reducible exact tx_lt _) | exact (SX.S_tl _).symm | exact rfl)
local macro_rules | `(tactic| walk_at "ts") => `(tactic| (have := sizeLine_eq; (try simp only [tx_len, List.length_append, List.length_cons, List.length_nil]); first | omega | (decide +kernel)))
local macro_rules | `(tactic| walk_at "goT") => `(tactic| first
  | (with_reducible first
    | refine g_m0 ?_
    | refine g_m1 ?_
    | refine g_str ?_
    | refine g_starts ?_
    | refine g_ends ?_
    | refine g_isdig ?_
    | refine g_js ?_
    | refine g_nt ?_
    | refine g_jsn ?_
    | refine g_jsc ?_
    | refine g_fmt ?_)
  | ((with_reducible refine' g_slS ?gh ?gk); (case gh => walk_at "ts"))
  | ((with_reducible refine' g_jsv ?ge ?gn ?gk); (case ge => walk_at "tl"); (case gn => walk_at "ts"))
  | ((with_reducible refine' g_fmtS ?gn ?gk); (case gn => walk_at "ts"))
  | ((with_reducible refine' g_addS ?ge ?gf ?gn ?gk); (case ge => walk_at "tl"); (case gf => walk_at "tl"); (case gn => walk_at "ts"))
  | ((with_reducible refine' g_tru ?gn ?gk); (case gn => walk_at "ts"))
  | ((with_reducible refine' g_truT ?gh ?gk); (case gh => walk_at "hp"))
  | ((with_reducible refine' g_unl ?gh ?gl ?gk); (case gh => walk_at "hp"); (case gl => rfl)))
local macro_rules | `(tactic| walk_at "pt") => `(tactic| first
  | assumption
  | ((with_reducible refine' PotAt.same ?gz (by assumption)); (case gz => walk_at "pt")))
local macro_rules | `(tactic| walk_at "bt") => `(tactic| first
  | assumption
  | exact But.refl
  | (with_reducible refine But.trans ?_ (by assumption); walk_at "bt")
  | (with_reducible refine But.trans ?_ (But.of (by assumption)); walk_at "bt"))
local macro_rules | `(tactic| walk_at "hp") => `(tactic| first
  | assumption
  | ((with_reducible refine' SqT.of ?gz); (case gz => walk_at "hp"))
  | ((with_reducible refine' SqL.of ?gz); (case gz => walk_at "hp"))
  | ((with_reducible refine' Same.seqT (by assumption) ?gz); (case gz => walk_at "hp"))
  | ((with_reducible refine' Same.seq (by assumption) ?gz); (case gz => walk_at "hp"))
  | ((with_reducible refine' But.tupP (by assumption) ?gz ?gp); (case gz => walk_at "hp"); (case gp => walk_at "pt"))
  | ((with_reducible refine' But.lst (by assumption) ?gn ?gz); (case gn => exact PotAt.ne (by assumption) (by walk_at "pt")); (case gz => walk_at "hp"))
  | ((with_reducible refine' s_at (by assumption) ?gz); (case gz => walk_at "hp")))
local macro_rules | `(tactic| walk_at "goB") => `(tactic| first
  | ((with_reducible refine' u_dipN ?gh ?gn ?g0 ?g1 ?gk); (case gh => walk_at "pt"); (case gn => omega); (case g0 => first | omega | decide +kernel); (case g1 => first | omega | decide +kernel); intro _ _ _ _ _ _))
local macro_rules | `(tactic| walk_at "goB") => `(tactic| first | (with_reducible refine g_stp ?_))
section
variable {P : Program} {w : World} {K : PySem.W.Frag} {mg : Str → Option Value} {base : Heap}
theorem But.free {H0 H : Hp} {p l : Addr} {r : Nat} (b : But p H0 H) (hp : PotAt H p r) (n : H l = none) : H0 l = none := by
  cases e : H0 l with
  | none => rfl
  | some o =>
    have ne := hp.ne n
    rw [b l o ne e] at n
    cases n
theorem filt_idx (xs : List Int) (g : Int → Bool) (h : Int → V) : ((List.range xs.length).filter fun i => g (xs.getD i 0)).map (fun i => h (xs.getD i 0)) = (xs.filter g).map h := by
  have ex : xs = (List.range xs.length).map fun i => xs.getD i 0 := by
    refine List.ext_getElem (by rw [List.length_map, List.length_range]) fun i h1 h2 => ?_
    rw [List.getElem_map, List.getElem_range, List.getD_eq_getElem?_getD, List.getElem?_eq_getElem h1]
    rfl
  have e2 : (((List.range xs.length).map fun i => xs.getD i 0).filter g).map h = ((List.range xs.length).filter fun i => g (xs.getD i 0)).map (fun i => h (xs.getD i 0)) := by
    rw [List.filter_map, List.map_map]
    rfl
  rw [← e2, ← ex]
theorem g_ins {l : Addr} {xs : List V} {i : Int} {y : V} {H : Hp} {Q : VK} (h : H l = some (.lst xs)) (n : xs.length < sizeLine) (h0 : 0 ≤ i) (h1 : i < 2 ^ 63) (k : ChgT H l (.lst (xs.take i.toNat ++ [y] ++ xs.drop i.toNat)) (Q .non)) : rInsN (.ref l) [.int i, y] H Q := ⟨l, xs, i, y, rfl, rfl, h, n, h0, h1, k⟩
/-- what _law_some gives -/
structure SomeAt (H : Hp) (p c x : Addr) (m : Nat) (cs xs : List Int) : Prop where
  m1 : 1 ≤ m
  m2 : m ≤ 720
  hc : H c = some (.lst (cs.map V.int))
  hx : H x = some (.lst (xs.map V.int))
  nc : c ≠ p
  nx : x ≠ p
  dc : cs.Nodup
  bc : ∀ k ∈ cs, 0 ≤ k ∧ k < (m : Int)
  dx : xs.Nodup
  bx : ∀ k ∈ xs, 1 ≤ k ∧ k ≤ 10 ^ 50
  lx : xs.length ≤ 5
def sp_some (K : PySem.W.Frag) : Sp := fun vs H Q _ => ∃ (p : Addr) (n : Nat) (f : Int), vs = [.ref p, .int f] ∧ PotAt H p n ∧ 150 ≤ n ∧ 100 ≤ f ∧ f ≤ 10 ^ 50 ∧ ∀ t c x m cs xs H', But p H H' → PotAt H' p (n - 150) → SqT K H' t [natV m, .ref c, .ref x] → SomeAt H' p c x m cs xs → Q (.ref t) H'
theorem u_some {p : Addr} {n : Nat} {f : Int} {H : Hp} {Q : VK} {E : XK} (h : PotAt H p n) (hn : 150 ≤ n) (f0 : 100 ≤ f) (f1 : f ≤ 10 ^ 50) (k : ∀ t c x m cs xs H', But p H H' → PotAt H' p (n - 150) → SqT K H' t [natV m, .ref c, .ref x] → SomeAt H' p c x m cs xs → Q (.ref t) H') : sp_some K [.ref p, .int f] H Q E := ⟨p, n, f, rfl, h, hn, f0, f1, k⟩
theorem sc__law_some : FnScope ["_law_pot_here", "_law_far", "_law_modulus", "_law_classes", "_law_size", "_law_rest", "_law_changed", "_law_lap", "_law_one", "_law_k", "_law_other"] ["_law_pot_here", "_law_far"] (defScope s__law_some) := C8.fnScope_by (by decide +kernel)
theorem c__law_some (T : Tx K mg) : C8.Cal P w K mg base 2 "_law_some" (sp_some K) [] := by
  refine calD T.d__law_some T.g__law_some (fun _ _ _ _ _ _ us hl => match us, hl with | [_, _], _ => rfl) sc__law_some (fun vs H Q E ⟨_, _, _, e, _⟩ => by rw [e]; rfl) fun fd cdv A outer s H vs Q E hr h => ?_
  obtain ⟨p, n, f, rfl, hP, hn, f0, f1, k⟩ := h
  refine ⟨_, (pss_cons (ps_set (i := 2) sc__law_some.nd rfl (Or.inl rfl) (pe_ix ix_list (pe_nlst (pa_cons (pe_op op_add pe_int (C8.pe_c (c__law_dip T) hr (by decide) rfl (pa_cons (pv 0) (pa_cons pe_int pa_nil)))) (pa_cons (pe_op op_add pe_int (C8.pe_c (c__law_dip T) hr (by decide) rfl (pa_cons (pv 0) (pa_cons pe_int pa_nil)))) (pa_cons pe_int (pa_cons pe_int (pa_cons (pe_op op_add pe_int (C8.pe_c (c__law_dip T) hr (by decide) rfl (pa_cons (pv 0) (pa_cons pe_int pa_nil)))) pa_nil)))))) (C8.pe_c (c__law_dip T) hr (by decide) rfl (pa_cons (pv 0) (pa_cons pe_int pa_nil))) (fun _ _ => rfl)))
      (C8.pss_cut (ps_if (PW.pt (pw_and (pt_cmpR op_lt (pv 2) pe_int (nomark _)) (pw_and1 (pt_cmpR op_eqI (C8.pe_c (c__law_dip T) hr (by decide) rfl (pa_cons (pv 0) (pa_cons pe_int pa_nil))) pe_int (nomark _)))))
        (pss_one (ps_setLc (i := 3) (own := [("_law_k", 9)]) rfl sc__law_some.nd rfl rfl (sw_true rfl rfl rfl (by decide +kernel)) (pj_range1 rfl T.b_range (pa_cons (pv 2) pa_nil)) (blkOk_by (N := ["_law_pot_here", "_law_far", "_law_modulus", "_law_classes", "_law_size", "_law_rest", "_law_changed", "_law_lap", "_law_one", "_law_k", "_law_other"]) (sc := defScope s__law_some) (by decide +kernel)) (fun _ _ _ _ _ => (pg_name (i := 9) sc__law_some.nd rfl (Or.inl rfl))) (fun _ _ _ _ _ => (pts_one (pt_cmpR op_eqI (C8.pe_c (c__law_dip T) hr (by decide) rfl (pa_cons (pv 0) (pa_cons pe_int pa_nil))) pe_int (nomark _)))) (fun _ _ _ _ _ => (pv 9))))
        (pss_cons (ps_asg (pe_ntup (pa_cons (pe_op op_add pe_int (C8.pe_c (c__law_dip T) hr (by decide) rfl (pa_cons (pv 0) (pa_cons pe_int pa_nil)))) (pa_cons (C8.pe_c (c__law_dip T) hr (by decide) rfl (pa_cons (pv 0) (pa_cons pe_int pa_nil))) pa_nil))) (pg_tup rfl (pgs_cons (pg_name (i := 4) sc__law_some.nd rfl (Or.inr rfl)) (pgs_cons (pg_name (i := 5) sc__law_some.nd rfl (Or.inr rfl)) pgs_nil))))
        (pss_one (ps_setLc (i := 3) (own := [("_law_k", 9)]) rfl sc__law_some.nd rfl rfl (sw_true rfl rfl rfl (by decide +kernel)) (pj_range1 rfl T.b_range (pa_cons (pv 2) pa_nil)) (blkOk_by (N := ["_law_pot_here", "_law_far", "_law_modulus", "_law_classes", "_law_size", "_law_rest", "_law_changed", "_law_lap", "_law_one", "_law_k", "_law_other"]) (sc := defScope s__law_some) (by decide +kernel)) (fun _ _ _ _ _ => (pg_name (i := 9) sc__law_some.nd rfl (Or.inl rfl))) (fun _ _ _ _ _ => (pts_one (pt_cmpR op_eqI (pe_op op_mod (pv 9) (pv 4)) (pv 5) (nomark _)))) (fun _ _ _ _ _ => (pv 9))))))
      (pss_cons (ps_set (i := 6) sc__law_some.nd rfl (Or.inl rfl) (pe_nlst pa_nil))
      (pss_cons (ps_for PassesOwn.never rfl (pj_range1 rfl T.b_range (pa_cons (C8.pe_c (c__law_dip T) hr (by decide) rfl (pa_cons (pv 0) (pa_cons pe_int pa_nil))) pa_nil)) (pg_name (i := 7) sc__law_some.nd rfl (Or.inl rfl))
        (pss_cons (ps_set (i := 8) sc__law_some.nd rfl (Or.inr rfl) (pe_op op_add pe_int (pe_ix ix_list (pe_nlst (pa_cons (C8.pe_c (c__law_dip T) hr (by decide) rfl (pa_cons (pv 0) (pa_cons pe_int pa_nil))) (pa_cons (C8.pe_c (c__law_dip T) hr (by decide) rfl (pa_cons (pv 0) (pa_cons pe_int pa_nil))) (pa_cons (C8.pe_c (c__law_dip T) hr (by decide) rfl (pa_cons (pv 0) (pa_cons (pe_op op_powB pe_int pe_int) pa_nil))) (pa_cons (C8.pe_c (c__law_dip T) hr (by decide) rfl (pa_cons (pv 0) (pa_cons (pv 1) pa_nil))) pa_nil))))) (C8.pe_c (c__law_dip T) hr (by decide) rfl (pa_cons (pv 0) (pa_cons pe_int pa_nil))) (fun _ _ => rfl))))
        (pss_cons (ps_setLc (i := 6) (own := [("_law_other", 10)]) rfl sc__law_some.nd rfl rfl (sw_true rfl rfl rfl (by decide +kernel)) (pj_list (pv 6)) (blkOk_by (N := ["_law_pot_here", "_law_far", "_law_modulus", "_law_classes", "_law_size", "_law_rest", "_law_changed", "_law_lap", "_law_one", "_law_k", "_law_other"]) (sc := defScope s__law_some) (by decide +kernel)) (fun _ _ _ _ _ => (pg_name (i := 10) sc__law_some.nd rfl (Or.inl rfl))) (fun _ _ _ _ _ => (pts_one (pt_cmpR op_neI (pv 10) (pv 8) (nomark _)))) (fun _ _ _ _ _ => (pv 10)))
        (pss_one (ps_expr (pe_bm PySem.F.plainAttrs_list PySem.F.slot_list_insert PySem.F.type_list_insert mt_ninsert (pv 6) (pa_cons (C8.pe_c (c__law_dip T) hr (by decide) rfl (pa_cons (pv 0) (pa_cons (pe_op op_add (pe_callB call_nlen rfl T.b_len (by decide +kernel) (pa_cons (pv 6) pa_nil)) pe_int) pa_nil))) (pa_cons (pv 8) pa_nil))))))))
      (pss_one (ps_ret (pe_ntup (pa_cons (pv 2) (pa_cons (pe_nstep (pv 3) (pe_ix ix_list (pe_nlst (pa_cons pe_int (pa_cons (pe_un un_neg pe_int) pa_nil))) (C8.pe_c (c__law_dip T) hr (by decide) rfl (pa_cons (pv 0) (pa_cons pe_int pa_nil))) (fun _ _ => rfl))) (pa_cons (pv 6) pa_nil)))))))))), ?_⟩
  walk_at "st"
  have hsz := sizeLine_eq
  walk_at "go"
  rename_i i1 H1 b1 p1 i10 i11 i2 H2 b2 p2 i20 i21 i3 H3 b3 p3 i30 i31 q4 H4 n4 s4 h4 i5 H5 b5 p5 i50 i51
  obtain ⟨v, hv, m, rfl, m1, m2⟩ := at_all (P := fun v => ∃ m : Nat, v = natV m ∧ 1 ≤ m ∧ m ≤ 720) (xs := [V.int (1 + i1), V.int (1 + i2), V.int 60, V.int 720, V.int (1 + i3)]) (by
    have mk : ∀ i : Int, 0 ≤ i → i < 720 → ∃ m : Nat, V.int (1 + i) = natV m ∧ 1 ≤ m ∧ m ≤ 720 := fun i h0 h1 => ⟨(1 + i).toNat, by
      show V.int (1 + i) = V.int (((1 + i).toNat : Nat) : Int)
      rw [Int.toNat_of_nonneg (by omega)], by omega, by omega⟩
    intro x hx
    simp only [List.mem_cons, List.not_mem_nil, or_false] at hx
    rcases hx with rfl | rfl | rfl | rfl | rfl
    · exact mk _ i10 (by omega)
    · exact mk _ i20 (by omega)
    · exact ⟨60, rfl, by decide, by decide⟩
    · exact ⟨720, rfl, by decide, by decide⟩
    · exact mk _ i30 (by omega)) i50 (by simp only [List.length_cons, List.length_nil]; omega)
  walk_at "go"
  have b05 : But p H H5 := by walk_at "bt"
  -- behind the if: the classes stand
  refine ⟨fun σ' H' => But p H H' ∧ PotAt H' p (n - 70) ∧ ∃ (c : Addr) (x4 x5 : Option V) (cs : List Int), σ' = [some (.ref p), some (.int f), some (natV m), some (.ref c), x4, x5, none, none, none, none, none] ∧ H' c = some (.lst (cs.map V.int)) ∧ c ≠ p ∧ cs.Nodup ∧ ∀ k ∈ cs, 0 ≤ k ∧ k < (m : Int), ?_, ?_⟩
  · walk_at "go"
    refine if2 (fun e => ?_) (fun e => ?_)
    · have m60 : (m : Int) < 61 := of_decide_eq_true e
      walk_at "go"
      rename_i j6 J6 c6 r6 j60 j61
      refine if2 (fun e => ?_) (fun e => ?_)
      · walk_at "go"
        have b56 : But p H J6 := by walk_at "bt"
        refine lc_inv walk_range p ⟨_, r6.at.choose_spec⟩ (fun i l H' => But p H H' ∧ PotAt H' p (n - 5 - i) ∧ ∃ js : List Int, l = js.map V.int ∧ js.length ≤ i ∧ js.Nodup ∧ ∀ k ∈ js, 0 ≤ k ∧ k < (i : Int)) (by omega) (fun i l H' _ h => by
          obtain ⟨_, _, js, rfl, hl, _⟩ := h
          rw [List.length_map]
          exact hl) (fun D hD => ⟨b56.newD hD, (r6.le (by omega)).but (fun c o nc e => by rw [upd_ne nc]; exact e) (Ne.symm (r6.ne hD)), [], rfl, Nat.le_refl _, List.Pairwise.nil, by simp⟩)
          (fun i l H3 H4 D xs hD h3 b ⟨c1, c2, c3⟩ => ⟨c1.fr (b56.free r6 hD) b, c2.but b (Ne.symm (r6.ne hD)), c3⟩) ?_ ?_
        · rintro i v l H3 H4 kk ee hi ⟨c1, c2, js, rfl, hl, nd, bj⟩ ⟨rfl, rfl⟩ hk he
          refine g_name ⟨rfl, ?_⟩
          walk_at "go"
          rename_i i7 H7 b7 p7 i70 i71
          refine if2 (fun e => ?_) (fun e => ?_)
          · walk_at "go"
            refine hk _ H7 b7 ⟨c1.trans b7, p7.le (by omega), js ++ [0 + (i : Int)], by rw [List.map_append]; rfl, by rw [List.length_append]; exact Nat.succ_le_succ hl, ?_, fun k hk => ?_⟩
            · refine List.pairwise_append.mpr ⟨nd, List.pairwise_singleton .., fun a ha b hb => ?_⟩
              rw [List.mem_singleton.mp hb]
              have := (bj a ha).2
              omega
            · rcases List.mem_append.mp hk with hk | hk
              · have := bj k hk
                omega
              · rw [List.mem_singleton.mp hk]
                omega
          · exact he H7 b7 ⟨c1.trans b7, p7.le (by omega), js, rfl, by omega, nd, fun k hk => by
              have := bj k hk
              omega⟩
        · rintro c H3 l nq ⟨c1, c2, js, rfl, hl, nd, bj⟩ h3
          walk_at "go"
          exact ⟨c1, c2.le (by omega), c, _, _, js, rfl, h3, r6.ne nq, nd, fun k hk => by
            have := bj k hk
            omega⟩
      · walk_at "go"
        rename_i i6 H6 b6 p6 i60 i61 i7 H7 b7 p7 i70 i71 q8 H8 n8 s8 h8
        refine lc_fil walk_range (fun i => decide ((i : Int) % (3 + i6) = i7)) (fun i => .int (i : Int)) (by omega) (fun _ _ => trivial) ?_ ?_
        · rintro i v H9 H10 k1 k2 hi s9 ⟨rfl, rfl⟩ h1 h2
          refine g_name ⟨rfl, ?_⟩
          rw [← Int.zero_add (i : Int)] at h1 h2
          walk_at "go"
          refine g_rI (by omega) ?_
          walk_at "go"
          refine if2 (fun e => ?_) (fun e => ?_)
          · walk_at "go"
            exact h1 e _ (Same.refl _)
          · exact h2 e _ (Same.refl _)
        · walk_at "go"
          rename_i c H9 n9 s9 h9
          have p9 := (p7.same s8).same s9
          refine ⟨by walk_at "bt", p9.le (by omega), c, _, _, ((List.range m).filter fun (i : Nat) => decide ((i : Int) % (3 + i6) = i7)).map fun (i : Nat) => (i : Int), rfl, ?_, (p7.same s8).ne n9, ?_, ?_⟩
          · rw [h9, Int.toNat_natCast, List.map_map]
            rfl
          · exact List.pairwise_map.mpr (List.Pairwise.imp (fun {a b} (h : a ≠ b) e => h (Int.ofNat.inj e)) (List.Pairwise.sublist (List.filter_sublist ..) List.nodup_range))
          · intro k hk
            obtain ⟨i, hi, rfl⟩ := List.mem_map.mp hk
            have := List.mem_range.mp (List.mem_filter.mp hi).1
            omega
    · walk_at "go"
      rename_i i6 H6 b6 p6 i60 i61 i7 H7 b7 p7 i70 i71 q8 H8 n8 s8 h8
      refine lc_fil walk_range (fun i => decide ((i : Int) % (3 + i6) = i7)) (fun i => .int (i : Int)) (by omega) (fun _ _ => trivial) ?_ ?_
      · rintro i v H9 H10 k1 k2 hi s9 ⟨rfl, rfl⟩ h1 h2
        refine g_name ⟨rfl, ?_⟩
        rw [← Int.zero_add (i : Int)] at h1 h2
        walk_at "go"
        refine g_rI (by omega) ?_
        walk_at "go"
        refine if2 (fun e => ?_) (fun e => ?_)
        · walk_at "go"
          exact h1 e _ (Same.refl _)
        · exact h2 e _ (Same.refl _)
      · walk_at "go"
        rename_i c H9 n9 s9 h9
        have p9 := (p7.same s8).same s9
        refine ⟨by walk_at "bt", p9.le (by omega), c, _, _, ((List.range m).filter fun (i : Nat) => decide ((i : Int) % (3 + i6) = i7)).map fun (i : Nat) => (i : Int), rfl, ?_, (p7.same s8).ne n9, ?_, ?_⟩
        · rw [h9, Int.toNat_natCast, List.map_map]
          rfl
        · exact List.pairwise_map.mpr (List.Pairwise.imp (fun {a b} (h : a ≠ b) e => h (Int.ofNat.inj e)) (List.Pairwise.sublist (List.filter_sublist ..) List.nodup_range))
        · intro k hk
          obtain ⟨i, hi, rfl⟩ := List.mem_map.mp hk
          have := List.mem_range.mp (List.mem_filter.mp hi).1
          omega
  · rintro σ' H' ⟨bH, pH, c, x4, x5, cs, rfl, hc, nc, dc, bc⟩
    walk_at "go"
    rename_i q6 H6 n6 s6 h6 i7 H7 b7 p7 i70 i71
    have p6 := pH.same s6
    have ne6 : q6 ≠ p := pH.ne n6
    have hc6 : H7 c = some (.lst (cs.map V.int)) := b7 c _ nc (s6 _ _ hc)
    have b07 : But p H H7 := by walk_at "bt"
    refine for_w walk_range (fun i σ' H' => But p H7 H' ∧ PotAt H' p (n - 80 - 7 * i) ∧ ∃ (ch : Addr) (xs : List Int) (y z : Option V), σ' = [some (.ref p), some (.int f), some (natV m), some (.ref c), x4, x5, some (.ref ch), y, z, none, none] ∧ H' ch = some (.lst (xs.map V.int)) ∧ ch ≠ p ∧ ch ≠ c ∧ xs.Nodup ∧ (∀ k ∈ xs, 1 ≤ k ∧ k ≤ 10 ^ 50) ∧ xs.length ≤ i)
      ⟨But.refl, p7.le (by omega), q6, [], none, none, rfl, b7 q6 _ ne6 h6, ne6, (fun e => by rw [e, hc] at n6; cases n6), List.Pairwise.nil, by simp, Nat.le_refl _⟩ (fun _ _ _ _ _ => trivial) ?_ ?_
    · rintro i v σ' H8 H9 hi ⟨b8, p8, ch, xs, y, z, rfl, h8, nchp, nchc, dx, bx, lx⟩ ⟨rfl, rfl⟩
      have hi6 : i < 6 := by omega
      walk_at "go"
      refine g_rI (show CPowB 10 9 from ⟨by decide, by decide, by decide +kernel⟩) ?_
      walk_at "go"
      rename_i j1 A1 c1 r1 a10 a11 j2 A2 c2 r2 a20 a21 j3 A3 c3 r3 a30 a31 j4 A4 c4 r4 a40 a41 qL HL nL sL hL j5 A5 c5 r5 a50 a51
      have e9 : (10 : Int) ^ (9 : Int).toNat < 10 ^ 10 := by decide +kernel
      obtain ⟨v, hv, x, rfl, x0, x1⟩ := at_all (P := fun v => ∃ x : Int, v = V.int x ∧ 0 ≤ x ∧ x < 10 ^ 50) (xs := [V.int j1, V.int j2, V.int j3, V.int j4]) (by
        intro x hx
        simp only [List.mem_cons, List.not_mem_nil, or_false] at hx
        rcases hx with rfl | rfl | rfl | rfl
        · exact ⟨_, rfl, by omega, by omega⟩
        · exact ⟨_, rfl, by omega, by omega⟩
        · exact ⟨_, rfl, by omega, by omega⟩
        · exact ⟨_, rfl, by omega, by omega⟩) a50 (by simp only [List.length_cons, List.length_nil]; omega)
      have hA := (show But p H9 A5 by walk_at "bt") ch _ nchp h8
      walk_at "go"
      refine lc_fil walk_list (fun i => !decide (xs.getD i 0 = 1 + x)) (fun i => .int (xs.getD i 0)) (by rw [List.length_map]; omega) (fun H' s' => SqL.of (s' _ _ hA)) ?_ ?_
      · rintro u v B3 B4 k1 k2 hu s3 ⟨rfl, hv⟩ h1 h2
        rw [List.length_map] at hu
        rw [List.getElem?_map, List.getElem?_eq_getElem hu] at hv
        have ev := (Option.some.inj hv).symm
        subst ev
        have eg : xs.getD u 0 = xs[u] := by rw [List.getD_eq_getElem?_getD, List.getElem?_eq_getElem hu]; rfl
        rw [eg] at h1 h2
        refine g_name ⟨rfl, ?_⟩
        walk_at "go"
        refine if2 (fun e => ?_) (fun e => ?_)
        · walk_at "go"
          exact h1 e _ (Same.refl _)
        · exact h2 e _ (Same.refl _)
      · rw [List.length_map, filt_idx xs (fun k => !decide (k = 1 + x)) V.int]
        walk_at "go"
        rename_i qN HN nN sN hN
        have ly := List.length_filter_le (fun k => !decide (k = 1 + x)) xs
        have ny : ∀ k ∈ xs.filter (fun k => !decide (k = 1 + x)), k ∈ xs ∧ k ≠ 1 + x := fun k hk => by
          obtain ⟨h1, h2⟩ := List.mem_filter.mp hk
          exact ⟨h1, of_decide_eq_false (by simpa using h2)⟩
        have dy : (xs.filter (fun k => !decide (k = 1 + x))).Nodup := List.Pairwise.sublist (List.filter_sublist ..) dx
        generalize xs.filter (fun k => !decide (k = 1 + x)) = ys at hN ly ny dy
        have nqp : qN ≠ p := r5.ne nN
        have n7 : H7 qN = none := But.free (show But p H7 A5 by walk_at "bt") r5 nN
        have nqc : qN ≠ c := fun e => by rw [e, hc6] at n7; cases n7
        rw [List.length_map]
        refine u_dipN (r5.same sN) (by omega) (by omega) (by omega) fun j B bB pB j0 j1' => ?_
        walk_at "go"
        refine g_ins (bB qN _ nqp hN) (by rw [List.length_map]; omega) j0 (by omega) ?_
        intro H' b' h'
        have pm : (ys.take j.toNat ++ [1 + x] ++ ys.drop j.toNat).Perm ((1 + x) :: ys) := by
          rw [List.append_assoc]
          have := List.perm_middle (a := 1 + x) (l₁ := ys.take j.toNat) (l₂ := ys.drop j.toNat)
          rwa [List.take_append_drop] at this
        refine ⟨But.fr (show But p H7 B by walk_at "bt") n7 b', (pB.but b' (Ne.symm nqp)).le (by omega), qN, ys.take j.toNat ++ [1 + x] ++ ys.drop j.toNat, _, _, rfl, ?_, nqp, nqc, pm.nodup_iff.mpr (List.nodup_cons.mpr ⟨fun z => (ny _ z).2 rfl, dy⟩), fun k hk => ?_, ?_⟩
        · rw [h', List.map_append, List.map_append, List.map_take, List.map_drop]
          rfl
        · rcases List.mem_cons.mp (pm.mem_iff.mp hk) with rfl | hk
          · omega
          · exact bx k (ny k hk).1
        · rw [pm.length_eq, List.length_cons]
          omega
    · rintro σ' H8 ⟨b8, p8, ch, xs, y, z, rfl, h8, nchp, nchc, dx, bx, lx⟩
      have hc8 := b8 c _ nc hc6
      walk_at "go"
      rename_i qS HS nS sS hS i9 H9' b9 p9 i90 i91
      obtain ⟨v, hv, x, rfl, hx⟩ := at_all (P := fun v => ∃ x : Int, v = V.int x ∧ (x = 1 ∨ x = -1)) (xs := [V.int 1, V.int (-1)]) (by
        intro x hx
        simp only [List.mem_cons, List.not_mem_nil, or_false] at hx
        rcases hx with rfl | rfl
        · exact ⟨_, rfl, .inl rfl⟩
        · exact ⟨_, rfl, .inr rfl⟩) i90 (by simp only [List.length_cons, List.length_nil]; omega)
      walk_at "go"
      have hc9 := b9 c _ nc (sS _ _ hc8)
      have hx9 := b9 ch _ nchp (sS _ _ h8)
      have b0 : But p H H9' := by walk_at "bt"
      have fin : ∀ js : List Int, js.Perm cs → NewT H9' (.lst (js.map V.int)) fun x H1 => tCons (tVar 6) tNil [some (.ref p), some (.int f), some (natV m), some (.ref c), x4, x5, some (.ref ch), y, z, none, none] H1 fun xs H2 => (natV m :: x :: xs).length ≤ sizeLine ∧ NewT H2 (.tup (natV m :: x :: xs)) Q := by
        intro js pm q10 H10 n10 s10 h10
        walk_at "go"
        rename_i q11 H11 n11 s11 h11
        have s911 := s10.trans s11
        refine k q11 q10 ch m js xs H11 (b0.trans (But.of s911)) ((p9.same s911).le (by omega)) (SqT.of h11) ⟨m1, m2, s11 _ _ h10, s911 _ _ hx9, p9.ne n10, nchp, pm.nodup_iff.mpr dc, fun k hk => bc k (pm.mem_iff.mp hk), dx, bx, ?_⟩
        omega
      refine ⟨c, _, x, rfl, rfl, hx, SqL.of hc9, fun _ => fin cs (.refl _), fun _ => ?_⟩
      rw [← List.map_reverse]
      exact fin cs.reverse (List.reverse_perm cs)
end
end RL
set_option maxHeartbeats 4000000
namespace RL
open PySem PySem.Spec PyProof.Rows L2
local macro_rules | `(tactic| walk_at "hp") => `(tactic| first
  | assumption
  | ((with_reducible refine' SqT.of ?gz); (case gz => walk_at "hp"))
  | ((with_reducible refine' SqL.of ?gz); (case gz => walk_at "hp"))
  | ((with_reducible refine' Same.seqT (by assumption) ?gz); (case gz => walk_at "hp"))
  | ((with_reducible refine' Same.seq (by assumption) ?gz); (case gz => walk_at "hp"))
  | ((with_reducible refine' s_at (by assumption) ?gz); (case gz => walk_at "hp"))
  | ((with_reducible refine' dp_mono (by assumption) ?gz); (case gz => walk_at "hp")))
local macro_rules | `(tactic| walk_at "sm") => `(tactic| first
  | assumption
  | exact Same.refl _
  | (with_reducible refine Same.trans ?_ (by assumption); walk_at "sm"))
local macro_rules | `(tactic| walk_at "st") => `(tactic| try dsimp only [cxOf, L2.Cx.nox, L2.Cx.wish])
local macro_rules | `(tactic| walk_at "sz") => `(tactic| (have := sizeLine_eq; (try simp only [List.length_append, List.length_map, List.length_take, List.length_drop, List.length_cons, List.length_nil]); omega))
local macro_rules | `(tactic| walk_at "lk") => `(tactic| fail)
local macro_rules | `(tactic| walk_at "goB") => `(tactic| fail)
local macro_rules | `(tactic| walk_at "goT") => `(tactic| fail)
local macro_rules | `(tactic| walk_at "goA") => `(tactic| first
  | (with_reducible first
    | refine ifT rfl ?_
    | refine ifF rfl ?_)
  | ((with_reducible refine' g_gtup ?gh ?gl ?gk); (case gh => walk_at "hp"); (case gl => rfl))
  | ((with_reducible refine' g_ixT ?gh ?gl ?gk); (case gh => walk_at "hp"); (case gl => first | rfl | assumption))
  | ((with_reducible refine' g_ixL ?gh ?gl ?gk); (case gh => walk_at "hp"); (case gl => first | rfl | assumption))
  | ((with_reducible refine' g_lenT ?gh ?gk); (case gh => walk_at "hp"))
  | ((with_reducible refine' g_lenL ?gh ?gk); (case gh => walk_at "hp"))
  | ((with_reducible refine' g_inT ?gh ?gf ?gl ?gk); (case gh => walk_at "hp"); (case gf => rfl); (case gl => rfl))
  | ((with_reducible refine' g_isi (d := true) ?gh ?gl ?gk); (case gh => first | exact ty_tup (by walk_at "hp") | exact .base (.int _) | exact .base (.str _)); (case gl => exact kit_ty (by decide +kernel)))
  | ((with_reducible refine' g_isi (d := false) ?gh ?gl ?gk); (case gh => first | exact ty_tup (by walk_at "hp") | exact .base (.int _) | exact .base (.str _)); (case gl => exact kit_ty (by decide +kernel)))
  | ((with_reducible refine' g_new ?gl ?gk); (case gl => first | exact Nat.le_of_ble_eq_true rfl | walk_at "sz"))
  | ((with_reducible refine' g_ilstv ?gh ?gk); (case gh => walk_at "hp"))
  | ((with_reducible refine' g_itupv ?gh ?gk); (case gh => walk_at "hp"))
  | ((with_reducible refine' g_ienumv ?gh ?gk); (case gh => walk_at "hp"))
  | ((with_reducible refine' g_ienTv ?gh ?gk); (case gh => walk_at "hp"))
  | ((with_reducible refine' g_slT ?gh ?gk); (case gh => walk_at "hp"); intro _ _ _ _)
  | ((with_reducible refine' g_slL ?gh ?gk); (case gh => walk_at "hp"))
  | ((with_reducible refine' g_catT ?gh ?gl ?gm ?gk); (case gh => walk_at "hp"); (case gl => walk_at "hp"); (case gm => walk_at "sz"); intro _ _ _ _)
  | ((with_reducible refine' g_catL ?gh ?gl ?gm ?gk); (case gh => walk_at "hp"); (case gl => walk_at "hp"); (case gm => walk_at "sz"))
  | ((with_reducible refine' g_tupL ?gh ?gk); (case gh => walk_at "hp"); intro _ _ _ _)
  | ((with_reducible refine' g_tupT ?gh ?gk); (case gh => walk_at "hp"); intro _ _ _ _)
  | ((with_reducible refine' g_starT ?gh ?gk); (case gh => walk_at "hp"))
  | ((with_reducible refine' g_starL ?gh ?gk); (case gh => walk_at "hp"))
  | ((with_reducible refine' g_tyL ?gh ?gk); (case gh => walk_at "hp"))
  | ((with_reducible refine' g_app ?gh ?gl ?gk); (case gh => walk_at "hp"); (case gl => walk_at "sz"))
  | ((with_reducible refine' g_inL ?gh ?gf ?gl ?gk); (case gh => walk_at "hp"); (case gf => rfl); (case gl => first | rfl | assumption))
  | ((with_reducible refine' g_irng1v ?gh ?gl ?gk); (case gh => omega); (case gl => omega))
  | ((with_reducible refine' g_irng2v ?gh ?gk); (case gh => omega))
  | ((with_reducible refine g_NewT ?_); intro _ _ _ _ _)
  | ((with_reducible refine' g_fldv ?gh ?gc ?gn ?gl ?gk); (case gh => walk_at "hp"); (case gc => assumption); (case gn => assumption); (case gl => first | rfl | walk_at "lk"))
  | ((with_reducible refine' g_fldw ?gh ?gc ?gn ?gl ?gk); (case gh => walk_at "hp"); (case gc => assumption); (case gn => assumption); (case gl => exact Nat.le_of_ble_eq_true rfl))
  | ((with_reducible refine' g_own2 ?gh ?gl ?gk); (case gh => walk_at "hp"); (case gl => walk_at "hp"))
  | ((with_reducible refine' g_own1 ?gh ?gk); (case gh => walk_at "hp"))
  | ((with_reducible refine' g_ownI ?gh ?gk); (case gh => walk_at "hp"))
  | ((with_reducible refine' g_recv ?gh ?gl ?gk); (case gh => walk_at "hp"); (case gl => walk_at "lk"))
  | ((with_reducible refine' g_lenS ?gh ?gk); (case gh => (have := sizeLine_eq; omega)))
  | ((with_reducible refine' ifT ?gh ?gk); (case gh => first | exact decide_eq_true (by omega) | exact nf (decide_eq_false (by omega)) | decide +kernel))
  | ((with_reducible refine' ifF ?gh ?gk); (case gh => first | exact decide_eq_false (by omega) | exact nt (decide_eq_true (by omega)) | decide +kernel)))
local macro_rules | `(tactic| walk_at "go1") => `(tactic| first
  | (with_reducible first
    | refine g_var rfl ?_
    | refine g_op ?_
    | refine g_cons ?_
    | refine g_nil ?_
    | refine g_c ?_
    | refine g_cb ?_
    | refine g_call ?_
    | refine g_seq ?_
    | refine g_asg ?_
    | refine g_name ?_
    | refine g_fld ?_
    | refine g_meth ?_
    | refine g_ifS ?_
    | refine g_if ?_
    | refine g_ret ?_
    | refine g_test ?_
    | refine g_tB ?_
    | refine g_bl ?_
    | refine g_and ?_
    | refine g_or ?_
    | refine g_not ?_
    | refine g_andV ?_
    | refine g_orV ?_
    | refine g_notV ?_
    | refine g_chain ?_
    | refine g_un ?_
    | refine g_ntup ?_
    | refine g_nlst ?_
    | refine g_drop ?_
    | refine g_next ?_
    | refine g_par ?_
    | refine g_par3 ?_
    | refine g_e2 ?_
    | refine g_e3 ?_
    | refine g_retN ?_
    | refine g_gcons ?_
    | refine g_gnil ?_
    | refine g_rI0 ?_
    | refine g_rU ?_
    | refine g_rSS ?_
    | refine g_rBB ?_
    | refine g_sib ?_
    | refine g_sii ?_
    | refine g_lc ?_
    | refine g_for ?_
    | refine g_istr ?_
    | refine g_istrv ?_
    | refine g_ilst ?_
    | refine g_itup ?_
    | refine g_irng1 ?_
    | refine g_irng2 ?_
    | refine g_ienum ?_
    | refine g_abs ?_
    | refine g_mx ?_
    | refine g_mn ?_
    | refine g_isN ?_
    | refine g_inC ?_
    | refine g_nfld ?_
    | refine g_ienT ?_
    | refine g_sl ?_
    | refine g_np ?_
    | refine g_pt ?_
    | refine g_ptv ?_
    | refine g_star ?_
    | refine g_bmL ?_)
  | walk_at "goA"
  | walk_at "goT"
  | walk_at "goB")
local macro_rules | `(tactic| walk_at "go") => `(tactic| repeat walk_at "go1")
local macro_rules | `(tactic| walk_at "tl") => `(tactic| first | (with_reducible exact tx_lt _) | exact (SX.S_tl _).symm | exact rfl)
local macro_rules | `(tactic| walk_at "ts") => `(tactic| (have := sizeLine_eq; (try simp only [tx_len, List.length_append, List.length_cons, List.length_nil]); first | omega | (decide +kernel)))
local macro_rules | `(tactic| walk_at "goT") => `(tactic| first
  | (with_reducible first
    | refine g_m0 ?_
    | refine g_m1 ?_
    | refine g_str ?_
    | refine g_starts ?_
    | refine g_ends ?_
    | refine g_isdig ?_
    | refine g_js ?_
    | refine g_nt ?_
    | refine g_jsn ?_
    | refine g_jsc ?_
    | refine g_fmt ?_)
  | ((with_reducible refine' g_slS ?gh ?gk); (case gh => walk_at "ts"))
  | ((with_reducible refine' g_jsv ?ge ?gn ?gk); (case ge => walk_at "tl"); (case gn => walk_at "ts"))
  | ((with_reducible refine' g_fmtS ?gn ?gk); (case gn => walk_at "ts"))
  | ((with_reducible refine' g_addS ?ge ?gf ?gn ?gk); (case ge => walk_at "tl"); (case gf => walk_at "tl"); (case gn => walk_at "ts"))
  | ((with_reducible refine' g_tru ?gn ?gk); (case gn => walk_at "ts"))
  | ((with_reducible refine' g_truT ?gh ?gk); (case gh => walk_at "hp"))
  | ((with_reducible refine' g_unl ?gh ?gl ?gk); (case gh => walk_at "hp"); (case gl => rfl)))
local macro_rules | `(tactic| walk_at "pt") => `(tactic| first
  | assumption
  | ((with_reducible refine' PotAt.same ?gz (by assumption)); (case gz => walk_at "pt")))
local macro_rules | `(tactic| walk_at "bt") => `(tactic| first
  | assumption
  | exact But.refl
  | (with_reducible refine But.trans ?_ (by assumption); walk_at "bt")
  | (with_reducible refine But.trans ?_ (But.of (by assumption)); walk_at "bt"))
local macro_rules | `(tactic| walk_at "hp") => `(tactic| first
  | assumption
  | ((with_reducible refine' SqT.of ?gz); (case gz => walk_at "hp"))
  | ((with_reducible refine' SqL.of ?gz); (case gz => walk_at "hp"))
  | ((with_reducible refine' Same.seqT (by assumption) ?gz); (case gz => walk_at "hp"))
  | ((with_reducible refine' Same.seq (by assumption) ?gz); (case gz => walk_at "hp"))
  | ((with_reducible refine' But.tupP (by assumption) ?gz ?gp); (case gz => walk_at "hp"); (case gp => walk_at "pt"))
  | ((with_reducible refine' But.lst (by assumption) ?gn ?gz); (case gn => exact PotAt.ne (by assumption) (by walk_at "pt")); (case gz => walk_at "hp"))
  | ((with_reducible refine' s_at (by assumption) ?gz); (case gz => walk_at "hp")))
local macro_rules | `(tactic| walk_at "goB") => `(tactic| first
  | ((with_reducible refine' u_dipN ?gh ?gn ?g0 ?g1 ?gk); (case gh => walk_at "pt"); (case gn => omega); (case g0 => first | omega | decide +kernel); (case g1 => first | omega | decide +kernel); intro _ _ _ _ _ _))
section
variable {J : It} {n : Nat} {G : Hp → Prop} {Y : Nat → Hp → V → Hp → Prop} {g : TG} {te : TE} {vs : List Nat} {σ : L2.St} {H1 : Hp} {Q : VK}
/-- .. R minds no list of references -/
theorem lc_refs (w : Walk J n G Y) (R : Nat → V → Hp → Prop) (isr : ∀ i y H, R i y H → ∃ r, y = V.ref r) (mono : ∀ i y H H', Same H H' → R i y H → R i y H') (stab : ∀ i y H H' D xs, H D = some (.lst xs) → (∀ x ∈ xs, ∃ r, x = V.ref r) → But D H H' → R i y H → R i y H') (hn : n ≤ sizeLine)
    (hG : ∀ H', Same H1 H' → G H')
    (turn : ∀ i x H2 H3 (k : VK), i < n → Same H1 H2 → Y i H2 x H3 → (∀ y H5, Same H2 H5 → R i y H5 → k y H5) → g x (wipe σ vs) H3 fun σ2 H4 => wipe σ2 vs = wipe σ vs ∧ te σ2 H4 k)
    (done : ∀ p H2 ys, H1 p = none → Same H1 H2 → H2 p = some (.lst ys) → ys.length = n → (∀ (i : Nat) y, ys[i]? = some y → R i y H2) → Q (.ref p) H2) :
    LcT J g tYes te vs σ H1 Q := by
  intro D hD
  refine lc_it w (fun i H => Same H1 H ∧ ∃ ys, H D = some (.lst ys) ∧ ys.length = i ∧ ∀ (j : Nat) y, ys[j]? = some y → R j y H) ⟨same_new hD, [], upd_same, rfl, fun j y e => by simp at e⟩ (fun i H _ p => hG H p.1) ?_ ?_
  · rintro i x H2 H3 hi ⟨s1, ys, hy, hl, hr⟩ hY
    rw [yes_eq]
    refine turn i x H2 H3 _ hi s1 hY fun y H5 s2 r => ?_
    have h5 : H5 D = some (.lst ys) := s2 D _ hy
    have b5 := But_new (ys := ys ++ [y]) h5
    have rys : ∀ x ∈ ys, ∃ r, x = V.ref r := fun x hx => by
      obtain ⟨j, hj, e⟩ := List.mem_iff_getElem.mp hx
      exact isr j x _ (hr j x (by rw [← e]; exact List.getElem?_eq_getElem hj))
    refine ⟨ys, h5, by omega, b5.same (s1.trans s2) hD, ys ++ [y], upd_same, by simp [hl], fun j z e => ?_⟩
    rcases Nat.lt_or_ge j ys.length with hj | hj
    · rw [List.getElem?_append_left hj] at e
      exact stab _ _ _ _ _ _ h5 rys b5 (mono _ _ _ _ s2 (hr j z e))
    · rw [List.getElem?_append_right hj] at e
      have e0 : j - ys.length = 0 := by
        rcases Nat.eq_zero_or_pos (j - ys.length) with q | q
        · exact q
        · rw [List.getElem?_eq_none (by simp only [List.length_singleton]; omega)] at e
          cases e
      rw [e0] at e
      have ey : y = z := Option.some.inj e
      have ej : j = i := by omega
      subst ey ej
      exact stab _ _ _ _ _ _ h5 rys b5 r
  · rintro H2 ⟨s1, ys, hy, hl, hr⟩
    exact done D H2 ys hD s1 hy hl hr
end
theorem nodup_len : ∀ {l D : List Int}, l.Nodup → (∀ x ∈ l, x ∈ D) → l.length ≤ D.length
  | [], _, _, _ => Nat.zero_le _
  | x :: l, D, nd, h => by
    obtain ⟨n1, n2⟩ := List.nodup_cons.mp nd
    have hx := h x (List.mem_cons_self ..)
    have := nodup_len (l := l) (D := D.erase x) n2 fun y hy => (List.mem_erase_of_ne (fun e => n1 (by rw [← e]; exact hy))).mpr (h y (List.mem_cons_of_mem _ hy))
    rw [List.length_erase_of_mem hx] at this
    have hp : 0 < D.length := List.length_pos_of_mem hx
    rw [List.length_cons]
    omega
theorem cs_len {m : Nat} {cs : List Int} (nd : cs.Nodup) (b : ∀ k ∈ cs, 0 ≤ k ∧ k < (m : Int)) : cs.length ≤ m := by
  have := nodup_len (D := (List.range m).map fun (i : Nat) => (i : Int)) nd fun x hx => by
    have := b x hx
    exact List.mem_map.mpr ⟨x.toNat, List.mem_range.mpr (by omega), by omega⟩
  rwa [List.length_map, List.length_range] at this
theorem made_ok {m : Nat} {cs xs : List Int} {s : Ds} (a : Arg3 m cs xs) (h : Made m cs xs s) : s.Ok ∧ s.fl.length ≤ m ∧ s.xs.Perm xs := by
  obtain ⟨js, L, pm, asc, lp, rfl⟩ := h
  have hm : 0 < m := a.m1
  have l0 := (ck_g hm cs 0).1
  have hp : 0 < (ckF m cs).length := by omega
  refine ⟨⟨cut_canon lp hp, asc, fun x hx => a.bx x (pm.mem_iff.mp hx)⟩, ?_, pm⟩
  show ((ckF m cs).take L).length ≤ m
  rw [List.length_take]
  omega
theorem sok_of {m : Nat} {cs xs : List Int} {s : Ds} (a : Arg3 m cs xs) (h : Made m cs xs s) (bx : ∀ k ∈ xs, 1 ≤ k ∧ k ≤ 10 ^ 50) (lx : xs.length ≤ 5) : SOk s ∧ s.fl.length ≤ m ∧ s.xs.length ≤ 5 := by
  obtain ⟨o, l, pm⟩ := made_ok a h
  have e := pm.length_eq
  have m2 := a.m2
  refine ⟨⟨o, by omega, by omega, fun k hk => ?_⟩, l, by omega⟩
  have := bx k (pm.mem_iff.mp hk)
  have p50 : (10 : Nat) ^ 50 < 10 ^ 500 := by decide +kernel
  exact Nat.lt_of_le_of_lt (show k.natAbs ≤ 10 ^ 50 by omega) p50
/-- far out, the members tell the flags -/
theorem far_mem (s : Ds) : ∃ B : Nat, ∀ d : Nat, B ≤ d → s.mem (d : Int) = gF s.fl d := by
  obtain ⟨B, hB⟩ := above s.xs
  refine ⟨B, fun d hd => ?_⟩
  unfold Ds.mem
  have : ¬ (d : Int) ∈ s.xs := fun z => by
    have := hB _ z
    omega
  rw [decide_eq_false this, Int.toNat_natCast]
  simp
theorem per_of_mem {s : Ds} (o : s.Ok) {L B : Nat} (h : ∀ d : Nat, B ≤ d → s.mem ((d + L : Nat) : Int) = s.mem (d : Int)) : s.fl.length ∣ L := by
  obtain ⟨C, hC⟩ := far_mem s
  refine o.canon.min L fun i => ?_
  have p0 : 0 < s.fl.length := o.canon.pos
  have big : B + C ≤ i + s.fl.length * (B + C) := by
    have : 1 * (B + C) ≤ s.fl.length * (B + C) := Nat.mul_le_mul_right _ p0
    omega
  have e : ∀ j, gF s.fl (j + s.fl.length * (B + C)) = gF s.fl j := fun j => (gF_len s.fl).mul _ j
  rw [← e i, ← e (i + L), show i + L + s.fl.length * (B + C) = i + s.fl.length * (B + C) + L by omega]
  have := h (i + s.fl.length * (B + C)) (by omega)
  rwa [hC _ (by omega), hC _ (by omega)] at this
/-- a set whose members come of two others' has a modulus that divides theirs -/
theorem join_dvd {s t u : Ds} (o : u.Ok) (f : Bool → Bool → Bool) (h : ∀ d : Int, u.mem d = f (s.mem d) (t.mem d)) : u.fl.length ∣ Nat.lcm s.fl.length t.fl.length := by
  obtain ⟨B, hB⟩ := far_mem s
  obtain ⟨C, hC⟩ := far_mem t
  refine per_of_mem o (B := B + C) fun d hd => ?_
  rw [h, h, hB _ (by omega), hB _ (by omega), hC _ (by omega), hC _ (by omega), (gF_len s.fl).of_dvd (Nat.dvd_lcm_left ..) d, (gF_len t.fl).of_dvd (Nat.dvd_lcm_right ..) d]
section
variable {P : Program} {w : World} {K : PySem.W.Frag} {mg : Str → Option Value} {base : Heap}
theorem SomeAt.but {H H' : Hp} {p c x : Addr} {m : Nat} {cs xs : List Int} (b : But p H H') (h : SomeAt H p c x m cs xs) : SomeAt H' p c x m cs xs := { h with hc := b c _ h.nc h.hc, hx := b x _ h.nx h.hx }
def sp_setsR : Sp := fun vs H Q _ => ∃ p n, vs = [.ref p] ∧ PotAt H p n ∧ 1000 ≤ n ∧ ∀ H', But p H H' → PotAt H' p (n - 1000) → Q (.bl true) H'
theorem u_setsR {p : Addr} {n : Nat} {H : Hp} {Q : VK} {E : XK} (h : PotAt H p n) (hn : 1000 ≤ n) (k : ∀ H', But p H H' → PotAt H' p (n - 1000) → Q (.bl true) H') : sp_setsR [.ref p] H Q E := ⟨p, n, rfl, h, hn, k⟩
theorem DstAt.but {H H' : Hp} {p D : Addr} {xs : List V} {s : Ds} (b : But D H H') (hD : H D = some (.lst xs)) (hr : ∀ x ∈ xs, ∃ r, x = V.ref r) (h0 : 0 < s.fl.length) : DstAt K H p s → DstAt K H' p s := fun ⟨dx, q, h1, dy, a, t, c, h2, h3, h4⟩ => by
  refine ⟨dx, q, b p _ (ne_of h1 hD (by intro z; cases z)) h1, dy, a, t, c, b q _ (ne_of h2 hD (by intro z; cases z)) h2, ?_, b.tup hD h4⟩
  rcases h3 with (h3 | ⟨o, h3⟩) | h3
  · refine .inl (.inl (b a _ (fun e => ?_) h3))
    rw [e, hD] at h3
    cases (Option.some.inj h3)
    obtain ⟨fl, zs⟩ := s
    cases fl with
    | nil => exact absurd h0 (by simp)
    | cons x r =>
      obtain ⟨r, er⟩ := hr (.bl x) (List.mem_cons_self ..)
      cases er
  · exact .inl (.inr ⟨o, b a _ (ne_of h3 hD (by intro z; cases z)) h3⟩)
  · exact .inr h3
theorem sc__law_sets_right : FnScope ["_law_pot_here", "_law_one", "_law_two", "_law_k", "_law_made_here", "_law_read", "_law_both", "_law_apart", "_law_some_here"] ["_law_pot_here"] (defScope s__law_sets_right) := C8.fnScope_by (by decide +kernel)
theorem c__law_sets_right (T : Tx K mg) : C8.Cal P w K mg base 11 "_law_sets_right" sp_setsR [] := by
  refine calD T.d__law_sets_right T.g__law_sets_right (fun _ _ _ _ _ _ us hl => match us, hl with | [_], _ => rfl) sc__law_sets_right (fun vs H Q E ⟨_, _, e, _⟩ => by rw [e]; rfl) fun fd cdv A outer s H vs Q E hr h => ?_
  obtain ⟨p, n, rfl, hP, hn, k⟩ := h
  refine ⟨_, (pss_cons (ps_asg (pe_ntup (pa_cons (C8.pe_c (c__law_some T) hr (by decide) rfl (pa_cons (pv 0) (pa_cons (pe_op op_powB pe_int pe_int) pa_nil))) (pa_cons (C8.pe_c (c__law_some T) hr (by decide) rfl (pa_cons (pv 0) (pa_cons (pe_op op_powB pe_int pe_int) pa_nil))) pa_nil))) (pg_tup rfl (pgs_cons (pg_name (i := 1) sc__law_sets_right.nd rfl (Or.inr rfl)) (pgs_cons (pg_name (i := 2) sc__law_sets_right.nd rfl (Or.inl rfl)) pgs_nil))))
      (pss_cons (ps_set (i := 2) sc__law_sets_right.nd rfl (Or.inl rfl) (pe_ntup (pa_cons (pe_op op_add pe_int (C8.pe_c (c__law_dip T) hr (by decide) rfl (pa_cons (pv 0) (pa_cons pe_int pa_nil)))) (pa_cons (pe_nlst (pa_cons pe_int pa_nil)) (pa_cons (pe_ix ix_tup (pv 2) pe_int (fun _ _ => rfl)) pa_nil)))))
      (pss_cons (ps_set (i := 1) sc__law_sets_right.nd rfl (Or.inr rfl) (pe_ntup (pa_cons (pe_callB (call_nmin rfl) rfl T.b_min (by decide +kernel) (pa_cons (pe_ix ix_tup (pv 1) pe_int (fun _ _ => rfl)) (pa_cons pe_int pa_nil))) (pa_cons (pe_lc (own := [("_law_k", 3)]) rfl sc__law_sets_right.nd (pj_list (pe_ix ix_tup (pv 1) pe_int (fun _ _ => rfl))) (blkOk_by (N := ["_law_pot_here", "_law_one", "_law_two", "_law_k", "_law_made_here", "_law_read", "_law_both", "_law_apart", "_law_some_here"]) (sc := defScope s__law_sets_right) (by decide +kernel)) (fun _ _ _ _ _ => (pg_name (i := 3) sc__law_sets_right.nd rfl (Or.inl rfl))) (fun _ _ _ _ _ => (pts_one (pt_cmpR op_lt (pv 3) (pe_callB (call_nmin rfl) rfl T.b_min (by decide +kernel) (pa_cons (pe_ix (ix_tupK (K := K) rfl) (pv 1) pe_int (fun _ _ => rfl)) (pa_cons pe_int pa_nil))) (nomark _)))) (fun _ _ _ _ _ => (pv 3))) (pa_cons (pe_ix ix_tup (pv 1) pe_int (fun _ _ => rfl)) pa_nil)))))
      (pss_cons (ps_setLc (i := 4) (own := [("_law_some_here", 8)]) rfl sc__law_sets_right.nd rfl rfl (sw_true rfl rfl rfl (by decide +kernel)) (pj_tup (pe_ntup (pa_cons (pv 1) (pa_cons (pv 2) pa_nil)))) (blkOk_by (N := ["_law_pot_here", "_law_one", "_law_two", "_law_k", "_law_made_here", "_law_read", "_law_both", "_law_apart", "_law_some_here"]) (sc := defScope s__law_sets_right) (by decide +kernel)) (fun _ _ _ _ _ => (pg_name (i := 8) sc__law_sets_right.nd rfl (Or.inl rfl))) (fun _ _ _ _ _ => pts_nil) (fun _ _ _ _ _ => (pe_cm (m_Distances T) hr (by decide) rfl (pa_cons (pe_ix (ix_tupK (K := K) rfl) (pv 8) pe_int (fun _ _ => rfl)) (pa_cons (pe_callTy (call_ntupleK (K := K) rfl) rfl T.b_tuple (by decide +kernel) (pa_cons (pe_ix (ix_tupK (K := K) rfl) (pv 8) pe_int (fun _ _ => rfl)) pa_nil)) (pa_cons (pe_callTy (call_ntupleK (K := K) rfl) rfl T.b_tuple (by decide +kernel) (pa_cons (pe_ix (ix_tupK (K := K) rfl) (pv 8) pe_int (fun _ _ => rfl)) pa_nil)) pa_nil))))))
      (pss_cons (ps_setLc (i := 5) (own := [("_law_some_here", 8)]) rfl sc__law_sets_right.nd rfl rfl (sw_true rfl rfl rfl (by decide +kernel)) (pj_list (pv 4)) (blkOk_by (N := ["_law_pot_here", "_law_one", "_law_two", "_law_k", "_law_made_here", "_law_read", "_law_both", "_law_apart", "_law_some_here"]) (sc := defScope s__law_sets_right) (by decide +kernel)) (fun _ _ _ _ _ => (pg_name (i := 8) sc__law_sets_right.nd rfl (Or.inl rfl))) (fun _ _ _ _ _ => pts_nil) (fun _ _ _ _ _ => (C8.pe_c (c_read_set T) hr (by decide) rfl (pa_cons (C8.pe_c (c_set_text T) hr (by decide) rfl (pa_cons (pv 8) pa_nil)) pa_nil))))
      (pss_cons (ps_for PassesOwn.never rfl (pj_range1 rfl T.b_range (pa_cons pe_int pa_nil)) (pg_name (i := 3) sc__law_sets_right.nd rfl (Or.inl rfl))
        (pss_one (ps_if (pt_not (PW.pt (pw_and (pt_cmpR (o_Distances_eq T hr (by decide)) (pe_ix ix_list (pv 5) (pv 3) (fun _ _ => rfl)) (pe_ix ix_list (pv 4) (pv 3) (fun _ _ => rfl)) (nomark _)) (pw_and1 (pt_cmpR op_eqS (C8.pe_c (c_set_text T) hr (by decide) rfl (pa_cons (pe_ix ix_list (pv 5) (pv 3) (fun _ _ => rfl)) pa_nil)) (C8.pe_c (c_set_text T) hr (by decide) rfl (pa_cons (pe_ix ix_list (pv 4) (pv 3) (fun _ _ => rfl)) pa_nil)) (nomark _))))))
          (pss_one (ps_ret pe_bl))
          pss_nil)))
      (pss_cons (ps_set (i := 6) sc__law_sets_right.nd rfl (Or.inl rfl) (pe_op (o_Distances_BitOr T hr (by decide)) (pe_ix ix_list (pv 5) pe_int (fun _ _ => rfl)) (pe_ix ix_list (pv 5) pe_int (fun _ _ => rfl))))
      (pss_cons (ps_if (pt_not (PW.pt (pw_and (pt_cmpR (o_Distances_eq T hr (by decide)) (pv 6) (C8.pe_c (c_read_set T) hr (by decide) rfl (pa_cons (C8.pe_c (c_set_text T) hr (by decide) rfl (pa_cons (pv 6) pa_nil)) pa_nil)) (nomark _)) (pw_and1 (pt_cmpR (o_Distances_eq T hr (by decide)) (pv 6) (pe_op (o_Distances_BitOr T hr (by decide)) (pe_ix ix_list (pv 4) pe_int (fun _ _ => rfl)) (pe_ix ix_list (pv 4) pe_int (fun _ _ => rfl))) (nomark _))))))
        (pss_one (ps_ret pe_bl))
        pss_nil)
      (pss_cons (ps_set (i := 7) sc__law_sets_right.nd rfl (Or.inl rfl) (pe_op (o_Distances_BitXor T hr (by decide)) (pe_ix ix_list (pv 5) pe_int (fun _ _ => rfl)) (pe_ix ix_list (pv 5) pe_int (fun _ _ => rfl))))
      (pss_one (ps_ret (pe_and (pe_cmpR (o_Distances_eq T hr (by decide)) (C8.pe_c (c_read_set T) hr (by decide) rfl (pa_cons (C8.pe_c (c_set_text T) hr (by decide) rfl (pa_cons (pe_op (o_Distances_BitXor T hr (by decide)) (pv 7) (pe_ix ix_list (pv 5) pe_int (fun _ _ => rfl))) pa_nil)) pa_nil)) (pe_ix ix_list (pv 4) pe_int (fun _ _ => rfl)) (nomark _)) (pe_one (pe_cmpR (o_Distances_eq T hr (by decide)) (C8.pe_c (c_read_set T) hr (by decide) rfl (pa_cons (C8.pe_c (c_set_text T) hr (by decide) rfl (pa_cons (pe_op (o_Distances_Sub T hr (by decide)) (pv 6) (pe_ix ix_list (pv 5) pe_int (fun _ _ => rfl))) pa_nil)) pa_nil)) (pe_op (o_Distances_Sub T hr (by decide)) (pe_ix ix_list (pv 4) pe_int (fun _ _ => rfl)) (pe_ix ix_list (pv 4) pe_int (fun _ _ => rfl))) (nomark _))))))))))))))), ?_⟩
  walk_at "st"
  have hsz := sizeLine_eq
  walk_at "go"
  refine g_rI (show CPowB 10 50 from ⟨by decide, by decide, by decide +kernel⟩) ?_
  walk_at "go"
  refine u_some hP (by omega) (by decide +kernel) (by decide +kernel) fun t1 c1 x1 m1 cs1 xs1 H1 b1 p1 h1 S1 => ?_
  walk_at "go"
  refine g_rI (show CPowB 10 9 from ⟨by decide, by decide, by decide +kernel⟩) ?_
  walk_at "go"
  refine u_some p1 (by omega) (by decide +kernel) (by decide +kernel) fun t2 c2 x2 m2 cs2 xs2 H2 b2 p2 h2 S2 => ?_
  have S12 := S1.but b2
  have h12 := b2.tupP h1 p1
  walk_at "go"
  rename_i q0 H2' n0 s0 h0 i3 H3 b3 p3 i30 i31 q4 H4 n4 s4 h4 q5 H5 n5 s5 h5
  have s35 := s4.trans s5
  have S15 := ((S12.but (But.of s0)).but b3).but (But.of s35)
  have S25 := ((S2.but (But.of s0)).but b3).but (But.of s35)
  have p5 := p3.same s35
  have h15 : SqT K H5 t1 [natV m1, .ref c1, .ref x1] := Same.seqT s35 (b3.tupP (Same.seqT s0 h12) (p2.same s0))
  have l1 := cs_len S1.dc S1.bc
  have m12 := S1.m2
  have m11 := S1.m1
  refine g_ilstv (SqL.of S15.hc) ?_
  refine lc_fil walk_list (fun i => decide (cs1.getD i 0 < min (m1 : Int) 90)) (fun i => .int (cs1.getD i 0)) (by rw [List.length_map]; omega) (fun H' s' => SqL.of (s' _ _ S15.hc)) ?_ ?_
  · rintro u v B3 B4 k1 k2 hu s6 ⟨rfl, hv⟩ hk1 hk2
    rw [List.length_map] at hu
    rw [List.getElem?_map, List.getElem?_eq_getElem hu] at hv
    have ev := (Option.some.inj hv).symm
    subst ev
    have eg : cs1.getD u 0 = cs1[u] := by rw [List.getD_eq_getElem?_getD, List.getElem?_eq_getElem hu]; rfl
    rw [eg] at hk1 hk2
    refine g_name ⟨rfl, ?_⟩
    walk_at "go"
    refine if2 (fun e => ?_) (fun e => ?_)
    · walk_at "go"
      exact hk1 e _ (Same.refl _)
    · exact hk2 e _ (Same.refl _)
  · rw [List.length_map, filt_idx cs1 (fun k => decide (k < min (m1 : Int) 90)) V.int]
    have f1 : ∀ k ∈ cs1.filter (fun k => decide (k < min (m1 : Int) 90)), k ∈ cs1 ∧ k < min (m1 : Int) 90 := fun k hk => ⟨(List.mem_filter.mp hk).1, of_decide_eq_true (List.mem_filter.mp hk).2⟩
    have d1 : (cs1.filter (fun k => decide (k < min (m1 : Int) 90))).Nodup := List.Pairwise.sublist (List.filter_sublist ..) S1.dc
    generalize cs1.filter (fun k => decide (k < min (m1 : Int) 90)) = ks at f1 d1
    have em : (min (m1 : Int) 90) = ((min m1 90 : Nat) : Int) := by omega
    have bk : ∀ k ∈ ks, 0 ≤ k ∧ k < ((min m1 90 : Nat) : Int) := fun k hk => ⟨(S1.bc k (f1 k hk).1).1, by rw [← em]; exact (f1 k hk).2⟩
    have A1 : Arg3 (min m1 90) ks xs1 := ⟨by omega, by omega, d1, bk, by have := cs_len d1 bk; omega, S1.dx, fun k hk => (S1.bx k hk).1, by have := S1.lx; omega⟩
    have A2 : Arg3 (1 + i3).toNat [0] xs2 := ⟨by omega, by omega, by simp, fun k hk => by rw [List.mem_singleton.mp hk]; omega, by simp, S2.dx, fun k hk => (S2.bx k hk).1, by have := S2.lx; omega⟩
    have ei : 1 + i3 = (((1 + i3).toNat : Nat) : Int) := by omega
    have hM2 : (1 + i3).toNat ≤ 7 := by omega
    rw [em]
    rw [ei] at h5
    generalize (1 + i3).toNat = M2 at A2 hM2 h5
    have hM1 : min m1 90 ≤ 90 := by omega
    generalize min m1 90 = M1 at A1 hM1 bk
    walk_at "go"
    rename_i q6 H6 n6 s6 h6 q7 H7 n7 s7 h7 q8 H8 n8 s8 h8
    have s58 := (s6.trans s7).trans s8
    have hx1 := s58 _ _ S15.hx
    have hx2 := s58 _ _ S25.hx
    have hk6 := (s7.trans s8) _ _ h6
    have hq4 : H8 q4 = some (.lst [.int 0]) := s58 _ _ (s5 _ _ h4)
    have h78 := s8 _ _ h7
    have h58 := s58 _ _ h5
    refine lc_refs walk_tup (fun i v H => ∃ r s, v = .ref r ∧ DstAt K H r s ∧ 0 < s.fl.length ∧ (i = 0 → Made M1 ks xs1 s) ∧ (i = 1 → Made M2 [0] xs2 s)) (fun i y H ⟨r, s, e, _⟩ => ⟨r, e⟩) (fun i y H H' e ⟨r, s, h1, h2, h3⟩ => ⟨r, s, h1, h2.mono e, h3⟩)
      (fun i y H H' D xs hD hr b ⟨r, s, h1, h2, h0, h3⟩ => ⟨r, s, h1, DstAt.but b hD hr h0 h2, h0, h3⟩) (by simp only [List.length_cons, List.length_nil]; omega) (fun H' s' => SqT.of (s' _ _ h8)) ?_ ?_
    · rintro i v B9 B10 kk hi s9 ⟨rfl, hv⟩ hk
      refine g_name ⟨rfl, ?_⟩
      have hi2 : i < 2 := hi
      have hx1' := s9 _ _ hx1
      have hx2' := s9 _ _ hx2
      have hk6' := s9 _ _ hk6
      have hq4' := s9 _ _ hq4
      have h78' := s9 _ _ h78
      have h58' := s9 _ _ h58
      rcases (show i = 0 ∨ i = 1 by omega) with rfl | rfl
      · cases (Option.some.inj hv)
        walk_at "go"
        rename_i qa Ha sa ha qb Hb sb hb
        exact u_Distances (Same.seqT sb ha) hb A1 fun r H' s s' n' md hD => hk _ H' ((sa.trans sb).trans s') ⟨r, s, rfl, hD, (made_ok A1 md).1.canon.pos, fun _ => md, fun e => by cases e⟩
      · cases (Option.some.inj hv)
        walk_at "go"
        rename_i qa Ha sa ha qb Hb sb hb
        exact u_Distances (cs := [0]) (xs := xs2) (Same.seqT sb ha) hb A2 fun r H' s s' n' md hD => hk _ H' ((sa.trans sb).trans s') ⟨r, s, rfl, hD, (made_ok A2 md).1.canon.pos, fun e => (by cases e), fun _ => md⟩
    · intro qM H9 ys n9 s9 h9 ly hy
      match ys, ly, hy, h9 with
      | [y0, y1], _, hy, h9 =>
      obtain ⟨u0, e0, rfl, G0, z0, md0, _⟩ := hy 0 y0 rfl
      obtain ⟨u1, e1, rfl, G1, z1, _, md1⟩ := hy 1 y1 rfl
      obtain ⟨K0, L0, X0⟩ := sok_of A1 (md0 rfl) S1.bx S1.lx
      obtain ⟨K1, L1, X1⟩ := sok_of A2 (md1 rfl) S2.bx S2.lx
      walk_at "go"
      refine lc_refs walk_list (fun i v H => ∃ r s, v = .ref r ∧ [e0, e1][i]? = some s ∧ DstAt K H r s ∧ 0 < s.fl.length) (fun i y H ⟨r, s, e, _⟩ => ⟨r, e⟩) (fun i y H H' e ⟨r, s, h1, h2, h3, h4⟩ => ⟨r, s, h1, h2, h3.mono e, h4⟩)
        (fun i y H H' D xs hD hr b ⟨r, s, h1, h2, h3, h4⟩ => ⟨r, s, h1, h2, DstAt.but b hD hr h4 h3, h4⟩) (by simp only [List.length_cons, List.length_nil]; omega) (fun H' s' => SqL.of (s' _ _ h9)) ?_ ?_
      · rintro i v B9 B10 kk hi s10 ⟨rfl, hv⟩ hk
        refine g_name ⟨rfl, ?_⟩
        have hi2 : i < 2 := hi
        rcases (show i = 0 ∨ i = 1 by omega) with rfl | rfl
        · cases (Option.some.inj hv)
          walk_at "go"
          refine u_set_text (G0.mono s10) K0.t fun H11 s11 => ?_
          walk_at "go"
          exact u_read_set K0 fun r H12 s12 n12 D12 => hk _ H12 (s11.trans s12) ⟨r, e0, rfl, rfl, D12, z0⟩
        · cases (Option.some.inj hv)
          walk_at "go"
          refine u_set_text (G1.mono s10) K1.t fun H11 s11 => ?_
          walk_at "go"
          exact u_read_set K1 fun r H12 s12 n12 D12 => hk _ H12 (s11.trans s12) ⟨r, e1, rfl, rfl, D12, z1⟩
      · intro qR H16 ys n16 s16 h16 ly hy
        match ys, ly, hy, h16 with
        | [y0, y1], _, hy, h16 =>
        obtain ⟨v0, f0, rfl, a0, R0, _⟩ := hy 0 y0 rfl
        obtain ⟨v1, f1', rfl, a1, R1, _⟩ := hy 1 y1 rfl
        cases (Option.some.inj a0)
        cases (Option.some.inj a1)
        walk_at "go"
        refine for_w walk_range (fun i σ' H' => Same H16 H' ∧ ∃ y, σ' = [some (.ref p), some (.ref q7), some (.ref q5), y, some (.ref qM), some (.ref qR), none, none, none]) ⟨Same.refl _, none, rfl⟩ (fun _ _ _ _ _ => trivial) ?_ ?_
        · rintro i v σ' H17 H17' hi ⟨s17, y, rfl⟩ ⟨rfl, rfl⟩
          have hi2 : i < 2 := hi
          rcases (show i = 0 ∨ i = 1 by omega) with rfl | rfl
          · have X7 := R0.mono s17
            have Y7 := G0.mono (s16.trans s17)
            obtain ⟨d1, w1, g1', _⟩ := id X7
            obtain ⟨d2, w2, g2', _⟩ := id Y7
            walk_at "go"
            refine u_Distances_eq X7 Y7 ?_
            walk_at "go"
            refine u_set_text X7 K0.t fun H18 s18 => ?_
            walk_at "go"
            refine u_set_text (Y7.mono s18) K0.t fun H19 s19 => ?_
            walk_at "go"
            rw [decide_eq_true rfl]
            walk_at "go"
            exact ⟨(s17.trans s18).trans s19, _, rfl⟩
          · have X7 := R1.mono s17
            have Y7 := G1.mono (s16.trans s17)
            obtain ⟨d1, w1, g1', _⟩ := id X7
            obtain ⟨d2, w2, g2', _⟩ := id Y7
            walk_at "go"
            refine u_Distances_eq X7 Y7 ?_
            walk_at "go"
            refine u_set_text X7 K1.t fun H18 s18 => ?_
            walk_at "go"
            refine u_set_text (Y7.mono s18) K1.t fun H19 s19 => ?_
            walk_at "go"
            rw [decide_eq_true rfl]
            walk_at "go"
            exact ⟨(s17.trans s18).trans s19, _, rfl⟩
        · rintro σ' H17 ⟨s17, y, rfl⟩
          have h9' := s17 _ _ (s16 _ _ h9)
          have h16' := s17 _ _ h16
          have U0 := R0.mono s17
          have U1 := R1.mono s17
          have W0 := G0.mono (s16.trans s17)
          have W1 := G1.mono (s16.trans s17)
          obtain ⟨d1, w1, i1, _⟩ := id U0
          obtain ⟨d2, w2, i2, _⟩ := id U1
          have pr1 : e0.fl.length * e1.fl.length ≤ 90 * 7 := Nat.mul_le_mul (by omega) (by omega)
          have lc1 : Nat.lcm e0.fl.length e1.fl.length ≤ 630 := Nat.le_trans (Nat.div_le_self _ _) pr1
          have lp1 : 0 < Nat.lcm e0.fl.length e1.fl.length := Nat.lcm_pos K0.ok.canon.pos K1.ok.canon.pos
          walk_at "go"
          refine u_J U0 U1 K0.ok K1.ok (by omega) (by omega) fun r3 H18 t3 s18 n18 o3 mem3 xl3 xb3 dv3 D18 => ?_
          have K3 : SOk t3 := ⟨o3, by have := Nat.le_of_dvd lp1 dv3; omega, by omega, fun k hk => (xb3 k hk).elim (K0.b k) (K1.b k)⟩
          walk_at "go"
          refine u_set_text D18 K3.t fun H19 s19 => ?_
          walk_at "go"
          refine u_read_set K3 fun r4 H20 s20 n20 D20 => ?_
          have D1820 := D18.mono (s19.trans s20)
          obtain ⟨d3, w3, i3', _⟩ := id D1820
          obtain ⟨d4, w4, i4, _⟩ := id D20
          walk_at "go"
          refine u_Distances_eq D1820 D20 ?_
          have s1720 := s18.trans (s19.trans s20)
          have W0' := W0.mono s1720
          have W1' := W1.mono s1720
          obtain ⟨d5, w5, i5, _⟩ := id W0'
          obtain ⟨d6, w6, i6, _⟩ := id W1'
          walk_at "go"
          refine u_J W1' W0' K1.ok K0.ok (by rw [Nat.mul_comm]; omega) (by omega) fun r5 H21 t5 s21 n21 o5 mem5 _ _ _ D21 => ?_
          have e53 : t5 = t3 := Ds.ext o5 o3 fun d _ => by rw [mem5, mem3, Bool.or_comm]
          rw [e53] at D21
          have D1821 := D1820.mono s21
          obtain ⟨d7, w7, i7, _⟩ := id D1821
          obtain ⟨d8, w8, i8, _⟩ := id D21
          walk_at "go"
          refine u_Distances_eq D1821 D21 ?_
          have s1721 := s1720.trans s21
          have U0' := U0.mono s1721
          have U1' := U1.mono s1721
          obtain ⟨d9, w9, i9, _⟩ := id U0'
          obtain ⟨d10, w10, i10, _⟩ := id U1'
          walk_at "go"
          refine u_J U0' U1' K0.ok K1.ok (by omega) (by omega) fun r6 H22 t6 s22 n22 o6 mem6 xl6 xb6 dv6 D22 => ?_
          have l6 : t6.fl.length ≤ 630 := Nat.le_trans (Nat.le_of_dvd lp1 dv6) lc1
          have pr6 : t6.fl.length * e1.fl.length ≤ 630 * 7 := Nat.mul_le_mul l6 (by omega)
          have U1'' := U1'.mono s22
          obtain ⟨d11, w11, i11, _⟩ := id D22
          obtain ⟨d12, w12, i12, _⟩ := id U1''
          walk_at "go"
          refine u_J D22 U1'' o6 K1.ok (by omega) (by omega) fun r7 H23 t7 s23 n23 o7 mem7 _ _ _ D23 => ?_
          have e70 : t7 = e0 := Ds.ext o7 K0.ok fun d _ => by
            rw [mem7, mem6]
            cases e0.mem d <;> cases e1.mem d <;> rfl
          rw [e70] at D23
          walk_at "go"
          refine u_set_text D23 K0.t fun H24 s24 => ?_
          walk_at "go"
          refine u_read_set K0 fun r8 H25 s25 n25 D25 => ?_
          have s2125 := (s22.trans s23).trans (s24.trans s25)
          have W0'' := W0.mono (s1721.trans s2125)
          obtain ⟨d13, w13, i13, _⟩ := id W0''
          obtain ⟨d14, w14, i14, _⟩ := id D25
          walk_at "go"
          refine u_Distances_eq D25 W0'' ?_
          have D3z := D1821.mono s2125
          have U0z := U0'.mono s2125
          obtain ⟨d15, w15, i15, _⟩ := id D3z
          obtain ⟨d16, w16, i16, _⟩ := id U0z
          have l3 : t3.fl.length ≤ 630 := Nat.le_trans (Nat.le_of_dvd lp1 dv3) lc1
          have pr3 : t3.fl.length * e0.fl.length ≤ 630 * 90 := Nat.mul_le_mul l3 (by omega)
          walk_at "go"
          refine u_J D3z U0z o3 K0.ok (by omega) (by omega) fun r9 H26 t9 s26 n26 o9 mem9 xl9 xb9 dv9 D26 => ?_
          have mm9 : ∀ d, t9.mem d = (fun a b => b && !a) (e0.mem d) (e1.mem d) := fun d => by
            rw [mem9, mem3]
            cases e0.mem d <;> cases e1.mem d <;> rfl
          have l9 : t9.fl.length ≤ 630 := Nat.le_trans (Nat.le_of_dvd lp1 (join_dvd o9 (fun a b => b && !a) mm9)) lc1
          have K9 : SOk t9 := ⟨o9, by omega, by omega, fun k hk => (xb9 k hk).elim (K3.b k) (K0.b k)⟩
          walk_at "go"
          refine u_set_text D26 K9.t fun H27 s27 => ?_
          walk_at "go"
          refine u_read_set K9 fun r10 H28 s28 n28 D28 => ?_
          have sA := (s1721.trans s2125).trans (s26.trans (s27.trans s28))
          have W0z := W0.mono sA
          have W1z := W1.mono sA
          obtain ⟨d17, w17, i17, _⟩ := id W0z
          obtain ⟨d18, w18, i18, _⟩ := id W1z
          walk_at "go"
          refine u_J W1z W0z K1.ok K0.ok (by rw [Nat.mul_comm]; omega) (by omega) fun r11 H29 t11 s29 n29 o11 mem11 _ _ _ D29 => ?_
          have e119 : t11 = t9 := Ds.ext o11 o9 fun d _ => by rw [mem11, mm9]
          rw [e119] at D29
          have D28' := D28.mono s29
          obtain ⟨d19, w19, i19, _⟩ := id D28'
          obtain ⟨d20, w20, i20, _⟩ := id D29
          walk_at "go"
          refine u_Distances_eq D28' D29 ?_
          walk_at "go"
          have sAll : Same H5 H29 := ((s58.trans s9).trans (s16.trans s17)).trans (sA.trans s29)
          exact k H29 ((((b1.trans b2).trans (But.of s0)).trans b3).trans (But.of (s35.trans sAll))) ((p5.same sAll).le (by omega))
end
end RL
set_option maxHeartbeats 4000000
namespace RL
open PySem PySem.Spec PyProof.Rows L2
local macro_rules | `(tactic| walk_at "hp") => `(tactic| first
  | assumption
  | ((with_reducible refine' SqT.of ?gz); (case gz => walk_at "hp"))
  | ((with_reducible refine' SqL.of ?gz); (case gz => walk_at "hp"))
  | ((with_reducible refine' Same.seqT (by assumption) ?gz); (case gz => walk_at "hp"))
  | ((with_reducible refine' Same.seq (by assumption) ?gz); (case gz => walk_at "hp"))
  | ((with_reducible refine' s_at (by assumption) ?gz); (case gz => walk_at "hp"))
  | ((with_reducible refine' dp_mono (by assumption) ?gz); (case gz => walk_at "hp")))
local macro_rules | `(tactic| walk_at "sm") => `(tactic| first
  | assumption
  | exact Same.refl _
  | (with_reducible refine Same.trans ?_ (by assumption); walk_at "sm"))
local macro_rules | `(tactic| walk_at "st") => `(tactic| try dsimp only [cxOf, L2.Cx.nox, L2.Cx.wish])
local macro_rules | `(tactic| walk_at "sz") => `(tactic| (have := sizeLine_eq; (try simp only [List.length_append, List.length_map, List.length_take, List.length_drop, List.length_cons, List.length_nil]); omega))
local macro_rules | `(tactic| walk_at "lk") => `(tactic| fail)
local macro_rules | `(tactic| walk_at "goB") => `(tactic| fail)
local macro_rules | `(tactic| walk_at "goT") => `(tactic| fail)
local macro_rules | `(tactic| walk_at "goA") => `(tactic| first
  | (with_reducible first
    | refine ifT rfl ?_
    | refine ifF rfl ?_)
  | ((with_reducible refine' g_gtup ?gh ?gl ?gk); (case gh => walk_at "hp"); (case gl => rfl))
  | ((with_reducible refine' g_ixT ?gh ?gl ?gk); (case gh => walk_at "hp"); (case gl => first | rfl | assumption))
  | ((with_reducible refine' g_ixL ?gh ?gl ?gk); (case gh => walk_at "hp"); (case gl => first | rfl | assumption))
  | ((with_reducible refine' g_lenT ?gh ?gk); (case gh => walk_at "hp"))
  | ((with_reducible refine' g_lenL ?gh ?gk); (case gh => walk_at "hp"))
  | ((with_reducible refine' g_inT ?gh ?gf ?gl ?gk); (case gh => walk_at "hp"); (case gf => rfl); (case gl => rfl))
  | ((with_reducible refine' g_isi (d := true) ?gh ?gl ?gk); (case gh => first | exact ty_tup (by walk_at "hp") | exact .base (.int _) | exact .base (.str _)); (case gl => exact kit_ty (by decide +kernel)))
  | ((with_reducible refine' g_isi (d := false) ?gh ?gl ?gk); (case gh => first | exact ty_tup (by walk_at "hp") | exact .base (.int _) | exact .base (.str _)); (case gl => exact kit_ty (by decide +kernel)))
  | ((with_reducible refine' g_new ?gl ?gk); (case gl => first | exact Nat.le_of_ble_eq_true rfl | walk_at "sz"))
  | ((with_reducible refine' g_ilstv ?gh ?gk); (case gh => walk_at "hp"))
  | ((with_reducible refine' g_itupv ?gh ?gk); (case gh => walk_at "hp"))
  | ((with_reducible refine' g_ienumv ?gh ?gk); (case gh => walk_at "hp"))
  | ((with_reducible refine' g_ienTv ?gh ?gk); (case gh => walk_at "hp"))
  | ((with_reducible refine' g_slT ?gh ?gk); (case gh => walk_at "hp"); intro _ _ _ _)
  | ((with_reducible refine' g_slL ?gh ?gk); (case gh => walk_at "hp"))
  | ((with_reducible refine' g_catT ?gh ?gl ?gm ?gk); (case gh => walk_at "hp"); (case gl => walk_at "hp"); (case gm => walk_at "sz"); intro _ _ _ _)
  | ((with_reducible refine' g_catL ?gh ?gl ?gm ?gk); (case gh => walk_at "hp"); (case gl => walk_at "hp"); (case gm => walk_at "sz"))
  | ((with_reducible refine' g_tupL ?gh ?gk); (case gh => walk_at "hp"); intro _ _ _ _)
  | ((with_reducible refine' g_tupT ?gh ?gk); (case gh => walk_at "hp"); intro _ _ _ _)
  | ((with_reducible refine' g_starT ?gh ?gk); (case gh => walk_at "hp"))
  | ((with_reducible refine' g_starL ?gh ?gk); (case gh => walk_at "hp"))
  | ((with_reducible refine' g_tyL ?gh ?gk); (case gh => walk_at "hp"))
  | ((with_reducible refine' g_app ?gh ?gl ?gk); (case gh => walk_at "hp"); (case gl => walk_at "sz"))
  | ((with_reducible refine' g_inL ?gh ?gf ?gl ?gk); (case gh => walk_at "hp"); (case gf => rfl); (case gl => first | rfl | assumption))
  | ((with_reducible refine' g_irng1v ?gh ?gl ?gk); (case gh => omega); (case gl => omega))
  | ((with_reducible refine' g_irng2v ?gh ?gk); (case gh => omega))
  | ((with_reducible refine g_NewT ?_); intro _ _ _ _ _)
  | ((with_reducible refine' g_fldv ?gh ?gc ?gn ?gl ?gk); (case gh => walk_at "hp"); (case gc => assumption); (case gn => assumption); (case gl => first | rfl | walk_at "lk"))
  | ((with_reducible refine' g_fldw ?gh ?gc ?gn ?gl ?gk); (case gh => walk_at "hp"); (case gc => assumption); (case gn => assumption); (case gl => exact Nat.le_of_ble_eq_true rfl))
  | ((with_reducible refine' g_own2 ?gh ?gl ?gk); (case gh => walk_at "hp"); (case gl => walk_at "hp"))
  | ((with_reducible refine' g_own1 ?gh ?gk); (case gh => walk_at "hp"))
  | ((with_reducible refine' g_ownI ?gh ?gk); (case gh => walk_at "hp"))
  | ((with_reducible refine' g_recv ?gh ?gl ?gk); (case gh => walk_at "hp"); (case gl => walk_at "lk"))
  | ((with_reducible refine' g_lenS ?gh ?gk); (case gh => (have := sizeLine_eq; omega)))
  | ((with_reducible refine' ifT ?gh ?gk); (case gh => first | exact decide_eq_true (by omega) | exact nf (decide_eq_false (by omega)) | decide +kernel))
  | ((with_reducible refine' ifF ?gh ?gk); (case gh => first | exact decide_eq_false (by omega) | exact nt (decide_eq_true (by omega)) | decide +kernel)))
local macro_rules | `(tactic| walk_at "go1") => `(tactic| first
  | (with_reducible first
    | refine g_var rfl ?_
    | refine g_op ?_
    | refine g_cons ?_
    | refine g_nil ?_
    | refine g_c ?_
    | refine g_cb ?_
    | refine g_call ?_
    | refine g_seq ?_
    | refine g_asg ?_
    | refine g_name ?_
    | refine g_fld ?_
    | refine g_meth ?_
    | refine g_ifS ?_
    | refine g_if ?_
    | refine g_ret ?_
    | refine g_test ?_
    | refine g_tB ?_
    | refine g_bl ?_
    | refine g_and ?_
    | refine g_or ?_
    | refine g_not ?_
    | refine g_andV ?_
    | refine g_orV ?_
    | refine g_notV ?_
    | refine g_chain ?_
    | refine g_un ?_
    | refine g_ntup ?_
    | refine g_nlst ?_
    | refine g_drop ?_
    | refine g_next ?_
    | refine g_par ?_
    | refine g_par3 ?_
    | refine g_e2 ?_
    | refine g_e3 ?_
    | refine g_retN ?_
    | refine g_gcons ?_
    | refine g_gnil ?_
    | refine g_rI0 ?_
    | refine g_rU ?_
    | refine g_rSS ?_
    | refine g_rBB ?_
    | refine g_sib ?_
    | refine g_sii ?_
    | refine g_lc ?_
    | refine g_for ?_
    | refine g_istr ?_
    | refine g_istrv ?_
    | refine g_ilst ?_
    | refine g_itup ?_
    | refine g_irng1 ?_
    | refine g_irng2 ?_
    | refine g_ienum ?_
    | refine g_abs ?_
    | refine g_mx ?_
    | refine g_mn ?_
    | refine g_isN ?_
    | refine g_inC ?_
    | refine g_nfld ?_
    | refine g_ienT ?_
    | refine g_sl ?_
    | refine g_np ?_
    | refine g_pt ?_
    | refine g_ptv ?_
    | refine g_star ?_
    | refine g_bmL ?_)
  | walk_at "goA"
  | walk_at "goT"
  | walk_at "goB")
local macro_rules | `(tactic| walk_at "go") => `(tactic| repeat walk_at "go1")
local macro_rules | `(tactic| walk_at "tl") => `(tactic| first | (with_reducible exact tx_lt _) | exact (SX.S_tl _).symm | exact rfl)
local macro_rules | `(tactic| walk_at "ts") => `(tactic| (have := sizeLine_eq; (try simp only [tx_len, List.length_append, List.length_cons, List.length_nil]); first | omega | (decide +kernel)))
local macro_rules | `(tactic| walk_at "goT") => `(tactic| first
  | (with_reducible first
    | refine g_m0 ?_
    | refine g_m1 ?_
    | refine g_str ?_
    | refine g_starts ?_
    | refine g_ends ?_
    | refine g_isdig ?_
    | refine g_js ?_
    | refine g_nt ?_
    | refine g_jsn ?_
    | refine g_jsc ?_
    | refine g_fmt ?_)
  | ((with_reducible refine' g_slS ?gh ?gk); (case gh => walk_at "ts"))
  | ((with_reducible refine' g_jsv ?ge ?gn ?gk); (case ge => walk_at "tl"); (case gn => walk_at "ts"))
  | ((with_reducible refine' g_fmtS ?gn ?gk); (case gn => walk_at "ts"))
  | ((with_reducible refine' g_addS ?ge ?gf ?gn ?gk); (case ge => walk_at "tl"); (case gf => walk_at "tl"); (case gn => walk_at "ts"))
  | ((with_reducible refine' g_tru ?gn ?gk); (case gn => walk_at "ts"))
  | ((with_reducible refine' g_truT ?gh ?gk); (case gh => walk_at "hp"))
  | ((with_reducible refine' g_unl ?gh ?gl ?gk); (case gh => walk_at "hp"); (case gl => rfl)))
local macro_rules | `(tactic| walk_at "pt") => `(tactic| first
  | assumption
  | ((with_reducible refine' PotAt.same ?gz (by assumption)); (case gz => walk_at "pt")))
local macro_rules | `(tactic| walk_at "bt") => `(tactic| first
  | assumption
  | exact But.refl
  | (with_reducible refine But.trans ?_ (by assumption); walk_at "bt")
  | (with_reducible refine But.trans ?_ (But.of (by assumption)); walk_at "bt"))
local macro_rules | `(tactic| walk_at "hp") => `(tactic| first
  | assumption
  | ((with_reducible refine' SqT.of ?gz); (case gz => walk_at "hp"))
  | ((with_reducible refine' SqL.of ?gz); (case gz => walk_at "hp"))
  | ((with_reducible refine' Same.seqT (by assumption) ?gz); (case gz => walk_at "hp"))
  | ((with_reducible refine' Same.seq (by assumption) ?gz); (case gz => walk_at "hp"))
  | ((with_reducible refine' But.tupP (by assumption) ?gz ?gp); (case gz => walk_at "hp"); (case gp => walk_at "pt"))
  | ((with_reducible refine' But.lst (by assumption) ?gn ?gz); (case gn => exact PotAt.ne (by assumption) (by walk_at "pt")); (case gz => walk_at "hp"))
  | ((with_reducible refine' s_at (by assumption) ?gz); (case gz => walk_at "hp")))
local macro_rules | `(tactic| walk_at "goB") => `(tactic| first
  | ((with_reducible refine' u_dipN ?gh ?gn ?g0 ?g1 ?gk); (case gh => walk_at "pt"); (case gn => omega); (case g0 => first | omega | decide +kernel); (case g1 => first | omega | decide +kernel); intro _ _ _ _ _ _))
section
variable {P : Program} {w : World} {K : PySem.W.Frag} {mg : Str → Option Value} {base : Heap}
def sp_law (K : PySem.W.Frag) : Sp := fun vs H Q _ => ∃ (a : Addr) (ns : List Int), vs = [.ref a] ∧ SqL K H a (ns.map V.int) ∧ ∀ H', Q (.bl true) H'
theorem sc_law : FnScope ["_law_script", "_law_k", "_law_pot_here"] ["_law_script"] (defScope s_law) := C8.fnScope_by (by decide +kernel)
theorem okD {x : Str} {st : Stmt} {f : Addr} {fd : FuncData} {N ps : List Str} {k : Nat} {sp : Sp} (F : FunD K x x (defArgs st) (defBody st) (defScope st) [] [] f fd)
    (S : FnScope N ps (defScope st)) (len : ∀ vs H Q E, sp vs H Q E → vs.length = ps.length)
    (hbody : ∀ (fd : FuncData) (cdv : Value) (A : Around) (outer : List Env) (s : Shared) (H : Hp) (vs : List V) (Q : VK) (E : XK), Room k (A.deeper (envOfC x (defScope st) s.heap.objs.size f cdv)) → sp vs H Q E →
      ∃ t, PSs (cxOf C8.CX0 P w K mg base N x (defScope st) f cdv A outer s H E).nox (defBody st) t ∧ t (Dn Q) (start N vs) H) : FnOk P w K mg base C8.CX0 (k + 1) f fd ps sp :=
  F.ok S len fun cdv A outer s H vs Q E hr h => (by
    obtain ⟨t, h1, h2⟩ := hbody fd cdv A outer s H vs Q E hr h
    exact ⟨t, h1.nox, h2⟩)
theorem ok_law (T : Tx K mg) {fd : FuncData} (F : FunD K "law" "law" (defArgs s_law) (defBody s_law) (defScope s_law) [] [] (He.ga K "law") fd) : FnOk P w K mg base C8.CX0 12 (He.ga K "law") fd ["_law_script"] (sp_law K) := by
  refine okD F sc_law (fun vs H Q E ⟨_, _, e, _⟩ => by rw [e]; rfl) fun fd cdv A outer s H vs Q E hr h => ?_
  obtain ⟨a, ns, rfl, hs, k⟩ := h
  refine ⟨_, (pss_cons (ps_for PassesOwn.never rfl (pj_range1 rfl T.b_range (pa_cons (pe_callB (call_nmax rfl) rfl T.b_max (by decide +kernel) (pa_cons pe_int (pa_cons (pe_callB (call_nmin rfl) rfl T.b_min (by decide +kernel) (pa_cons pe_int (pa_cons (pe_callB call_nlen rfl T.b_len (by decide +kernel) (pa_cons (pv 0) pa_nil)) pa_nil))) pa_nil))) pa_nil)) (pg_name (i := 1) sc_law.nd rfl (Or.inl rfl))
        (pss_cons (ps_set (i := 2) sc_law.nd rfl (Or.inl rfl) (C8.pe_c (c__law_pot T) hr (by decide) rfl (pa_cons (pv 0) (pa_cons (pv 1) pa_nil))))
        (pss_one (ps_if (PW.pt (pw_or (pt_not (pt_val (C8.pe_c (c__law_plans_right T) hr (by decide) rfl (pa_cons (pv 2) pa_nil)))) (pw_or (pt_not (pt_val (C8.pe_c (c__law_forms_right T) hr (by decide) rfl (pa_cons (pv 2) pa_nil)))) (pw_or1 (pt_not (pt_val (C8.pe_c (c__law_sets_right T) hr (by decide) rfl (pa_cons (pv 2) pa_nil))))))))
          (pss_one (ps_ret pe_bl))
          pss_nil))))
      (pss_one (ps_ret pe_bl))), ?_⟩
  walk_at "st"
  have hsz := sizeLine_eq
  walk_at "go"
  refine for_w walk_range (fun i σ' H' => Same H H' ∧ ∃ x y, σ' = [some (.ref a), x, y]) ⟨Same.refl _, none, none, rfl⟩ (fun _ _ _ _ _ => trivial) ?_ ?_
  · rintro i v σ' H1 H1' hi ⟨s1, x, y, rfl⟩ ⟨rfl, rfl⟩
    have hi4 : i < 4 := by omega
    show gName 1 (.int (0 + (i : Int))) _ _ _
    rw [Int.zero_add]
    walk_at "go"
    refine u_pot (Same.seq s1 hs) (by omega) fun p H2 s2 n2 p2 => ?_
    walk_at "go"
    refine u_plansR p2 (by omega) fun H3 b3 p3 => ?_
    walk_at "go"
    refine u_formsR p3 (by omega) fun H4 b4 p4 => ?_
    walk_at "go"
    refine u_setsR p4 (by omega) fun H5 b5 p5 => ?_
    walk_at "go"
    have s12 := s1.trans s2
    have np : H p = none := s1.free n2
    have b25 := (b3.trans b4).trans b5
    exact ⟨b25.same s12 np, _, _, rfl⟩
  · rintro σ' H1 ⟨s1, x, y, rfl⟩
    walk_at "go"
    exact k H1
end
end RL
set_option maxHeartbeats 0
namespace RL
open PySem PySem.Spec PyProof.Rows L2
theorem facts {P : Program} {w : World} {K : PySem.W.Frag} {h : Heap} {mg : Str → Option Value} {f : Addr} (X : K.In h) (G : h.Ns mainGlobals mg) (hfa : mg ("law" : Str) = some (.ref f)) (c : He.SaysD fa fn K) (d : exB K = true) :
    ∃ fd : FuncData, (∀ (s : Shared) (v : Value), BindsTo s fd ⟨[v], []⟩ [("_law_script", v)]) ∧ ∀ base : Heap, K.In base → base.Ns mainGlobals mg → FnOk P w K mg base C8.CX0 12 f fd ["_law_script"] (sp_law K) := by
  have T := tx_of X G c d
  obtain ⟨fd, F⟩ := T.d_law
  have e := hfa.symm.trans T.g_law
  cases e
  have b := FunD.bindsA (ps := ["_law_script"]) F fun _ _ _ _ _ _ us hl => match us, hl with | [_], _ => rfl
  exact ⟨fd, fun s v => b s [v] rfl, fun base _ _ => ok_law T F⟩
end RL
set_option maxHeartbeats 0
open PySem PySem.W PySem.Calls PyProof.Rows
theorem PySem.Challenge.cw_roundline_k91_whole_there_and_back_holds : PySem.Challenge.rw_roundline_k91_whole_there_and_back.Holds := by
  refine RL.pre ?hc
  refine L2.walk_ofE (l := PySem.Challenge.rw_roundline_k91_whole_there_and_back) (n := 63) (k := 12) (x := "_law_script") (CX := C8.CX0) rfl (by decide) (by kernel_rfl) ⟨rfl, by decide, by decide⟩ ?F (fun _ _ _ _ z => z)
  intro w mg fa h Y G hmg0
  obtain ⟨K, KX, c, d⟩ := Y
  have hmg : mg ("law" : PySem.Str) = some (.ref fa) := by
    have e : (HandSHeadRun.topDef (OpenLaw.row PySem.Challenge.rw_roundline_k91_whole_there_and_back).prog 86).name = ("law" : PySem.Str) := by kernel_rfl
    rw [← e]
    exact hmg0
  obtain ⟨fd, hb, hF⟩ := RL.facts (P := (PySem.Challenge.rw_roundline_k91_whole_there_and_back).prog) (w := w) KX G hmg c d
  exact ⟨K, fd, RL.sp_law K, KX, hb, fun H a ns hl _ hS => ⟨a, ns, rfl, hS, fun _ => rfl⟩, hF⟩
