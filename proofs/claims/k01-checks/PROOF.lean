import PyProof.Rows.All
import Wide.All
import OpenK.AllK
import Wide.FinOn
import HandS.Base
import HandS.Call
import HandS.List
import HandS.Comp
import HandS.Ends
import HandS.Words
import HandS.Evl
import HandS.More
import HandS.WordsList
import HandS.IsInst
import PySem.Challenge.RW_bitbus_k01_checks
set_option Elab.async false
set_option linter.all false
set_option maxRecDepth 100000
set_option maxHeartbeats 4000000
namespace BB
abbrev Bits := List Bool
/-- m bits of n, the heaviest first -/
def digits (n : Nat) : Nat → Bits
  | 0 => []
  | m + 1 => decide ((n / 2 ^ m) % 2 = 1) :: digits n m
def numOf (bs : Bits) : Nat := bs.foldl (fun a b => 2 * a + (if b then 1 else 0)) 0
theorem digits_len (n m : Nat) : (digits n m).length = m := by
  induction m with
  | zero => rfl
  | succ m ih => simp [digits, ih]
theorem numOf_acc (bs : Bits) (a : Nat) : bs.foldl (fun a b => 2 * a + (if b then 1 else 0)) a = a * 2 ^ bs.length + numOf bs := by
  induction bs generalizing a with
  | nil => simp [numOf]
  | cons b bs ih =>
    unfold numOf
    simp only [List.foldl_cons, List.length_cons]
    rw [ih, ih (2 * 0 + _)]
    rw [Nat.pow_succ, Nat.add_mul, Nat.add_mul, Nat.mul_comm 2 a, Nat.mul_assoc, Nat.mul_comm 2 (2 ^ bs.length)]
    omega
theorem numOf_cons (b : Bool) (bs : Bits) : numOf (b :: bs) = (if b then 1 else 0) * 2 ^ bs.length + numOf bs := by
  have h := numOf_acc bs (2 * 0 + (if b then 1 else 0))
  unfold numOf
  rw [List.foldl_cons, h]
  simp [numOf]
theorem numOf_digits (n m : Nat) : numOf (digits n m) = n % 2 ^ m := by
  induction m with
  | zero => simp [digits, numOf, Nat.mod_one]
  | succ m ih =>
    rw [digits, numOf_cons, ih, digits_len, Nat.pow_succ, Nat.mod_mul]
    have h := Nat.mod_two_eq_zero_or_one (n / 2 ^ m)
    rcases h with h | h <;> simp [h] <;> omega
theorem numOf_lt (bs : Bits) : numOf bs < 2 ^ bs.length := by
  induction bs with
  | nil => simp [numOf]
  | cons b bs ih =>
    rw [numOf_cons, List.length_cons, Nat.pow_succ]
    cases b <;> simp <;> omega
theorem digits_numOf (bs : Bits) : ∀ k, digits (numOf bs + k * 2 ^ bs.length) bs.length = bs := by
  induction bs with
  | nil => intro k; rfl
  | cons b bs ih =>
    intro k
    have e : numOf (b :: bs) + k * 2 ^ (b :: bs).length = numOf bs + ((if b then 1 else 0) + 2 * k) * 2 ^ bs.length := by
      rw [numOf_cons, List.length_cons, Nat.pow_succ, Nat.add_mul]
      have : k * (2 ^ bs.length * 2) = 2 * k * 2 ^ bs.length := by rw [Nat.mul_comm (2 ^ bs.length) 2, ← Nat.mul_assoc, Nat.mul_comm k 2]
      omega
    rw [e, List.length_cons, digits, ih]
    congr 1
    have hp : 0 < 2 ^ bs.length := Nat.two_pow_pos _
    rw [Nat.add_mul_div_right _ _ hp, Nat.div_eq_of_lt (numOf_lt bs)]
    cases b <;> simp <;> omega

/-! ### the check -/
def xr (a b : Bits) : Bits := List.zipWith (fun x y => x != y) a b
def wheel : Bits := digits 17817 15
def zeros (n : Nat) : Bits := List.replicate n false
def crcStep (f : Bits) (b : Bool) : Bits :=
  if (f.headD false != b) = true then xr (f.tail ++ [false]) wheel else f.tail ++ [false]
def checkOf (bs : Bits) : Bits := bs.foldl crcStep (zeros 15)
theorem wheel_len : wheel.length = 15 := digits_len _ _
theorem crcStep_len {f : Bits} (b : Bool) (h : f.length = 15) : (crcStep f b).length = 15 := by
  unfold crcStep
  split <;> simp [xr, wheel_len, h]
theorem foldl_len (bs : Bits) : ∀ {f : Bits}, f.length = 15 → (bs.foldl crcStep f).length = 15 := by
  induction bs with
  | nil => intro f h; exact h
  | cons b bs ih => intro f h; exact ih (crcStep_len b h)
theorem checkOf_len (bs : Bits) : (checkOf bs).length = 15 := foldl_len bs (by simp [zeros])
theorem feed_self (c : Bits) : ∀ m, c.foldl crcStep (c ++ zeros m) = zeros (c.length + m) := by
  induction c with
  | nil => intro m; simp [zeros]
  | cons b c ih =>
    intro m
    have e : crcStep (b :: c ++ zeros m) b = c ++ zeros (m + 1) := by
      unfold crcStep
      have h : ((b :: c ++ zeros m).headD false != b) = false := by simp
      rw [h, if_neg (by decide)]
      simp [zeros, List.replicate_succ']
    rw [List.foldl_cons, e, ih (m + 1), List.length_cons]
    congr 1
    omega
theorem check_check (bs : Bits) : checkOf (bs ++ checkOf bs) = zeros 15 := by
  show (bs ++ checkOf bs).foldl crcStep (zeros 15) = zeros 15
  rw [List.foldl_append]
  have h := feed_self (checkOf bs) 0
  rw [checkOf_len] at h
  have e : checkOf bs ++ zeros 0 = checkOf bs := by simp [zeros]
  rw [e] at h
  exact h

/-! ### the law's division -/
/-- w is xored into the head of l -/
def xp : Bits → Bits → Bits
  | [], _ => []
  | l, [] => l
  | a :: l, b :: w => (a != b) :: xp l w
theorem xp_nil (l : Bits) : xp l [] = l := by cases l <;> rfl
theorem xp_len (l w : Bits) : (xp l w).length = l.length := by
  induction l generalizing w with
  | nil => rfl
  | cons a l ih => cases w with
    | nil => rfl
    | cons b w => simp [xp, ih]
theorem xp_false (l : Bits) : ∀ w n, xp l (w ++ zeros n) = xp l w := by
  induction l with
  | nil => intro w n; rfl
  | cons a l ih =>
    intro w n
    cases w with
    | nil =>
      cases n with
      | zero => simp [zeros]
      | succ n =>
        have h := ih [] n
        rw [xp_nil] at h
        show (a != false) :: xp l ([] ++ zeros n) = a :: l
        rw [h]
        simp
    | cons b w => exact congrArg (fun z => (a != b) :: z) (ih w n)
theorem xp_xp (l : Bits) : ∀ u w, u.length = w.length → xp (xp l u) w = xp l (xr u w) := by
  induction l with
  | nil => intro u w h; rfl
  | cons a l ih =>
    intro u w h
    cases u with
    | nil => cases w with
      | nil => rfl
      | cons b w => simp at h
    | cons b u => cases w with
      | nil => simp at h
      | cons c w =>
        show ((a != b) != c) :: xp (xp l u) w = (a != (b != c)) :: xp l (xr u w)
        rw [ih u w (by simpa using h)]
        congr 1
        cases a <;> cases b <;> cases c <;> rfl
/-- one more place of the inner loop -/
theorem xp_step (l : Bits) : ∀ (w : Bits) (j : Nat) (x y : Bool), l[j]? = some x → w[j]? = some y →
    (xp l (w.take j)).set j (x != y) = xp l (w.take (j + 1)) ∧ (xp l (w.take j))[j]? = some x := by
  induction l with
  | nil => intro w j x y h; simp at h
  | cons a l ih =>
    intro w j x y h h2
    cases w with
    | nil => simp at h2
    | cons b w =>
      cases j with
      | zero =>
        simp at h h2
        subst h h2
        simp [xp, xp_nil]
      | succ j =>
        have g := ih w j x y (by simpa using h) (by simpa using h2)
        simp only [List.take_succ_cons, xp, List.set_cons_succ, List.getElem?_cons_succ]
        exact ⟨congrArg _ g.1, g.2⟩
/-- the law's division: k bits are taken off -/
def divL : Nat → Bits → Bits
  | 0, l => l
  | _ + 1, [] => []
  | n + 1, b :: l => divL n (if b = true then xp l wheel else l)
def lawCheck (bs : Bits) : Bits := divL bs.length (bs ++ zeros 15)
theorem div_reg (bs : Bits) : ∀ f : Bits, f.length = 15 → divL bs.length (xp (bs ++ zeros 15) f) = bs.foldl crcStep f := by
  induction bs with
  | nil =>
    intro f h
    show xp (zeros 15) f = f
    have g : ∀ (n : Nat) (f : Bits), f.length = n → xp (zeros n) f = f := by
      intro n
      induction n with
      | zero => intro f h; cases f with
        | nil => rfl
        | cons a l => simp at h
      | succ n ih => intro f h; cases f with
        | nil => simp at h
        | cons a l =>
          show (false != a) :: xp (zeros n) l = a :: l
          rw [ih l (by simpa using h)]
          simp
    exact g 15 f h
  | cons b bs ih =>
    intro f h
    cases f with
    | nil => simp at h
    | cons r rt =>
      have hr : rt.length = 14 := by simpa using h
      show divL bs.length (if (b != r) = true then xp (xp (bs ++ zeros 15) rt) wheel else xp (bs ++ zeros 15) rt) = bs.foldl crcStep (crcStep (r :: rt) b)
      have e1 : xp (bs ++ zeros 15) rt = xp (bs ++ zeros 15) (rt ++ [false]) := (xp_false _ rt 1).symm
      have e2 : (b != r) = (r != b) := by cases b <;> cases r <;> rfl
      rw [e1, e2]
      by_cases c : (r != b) = true
      · rw [if_pos c, xp_xp _ _ _ (by simp [hr, wheel_len]), ih _ (by simp [xr, hr, wheel_len])]
        unfold crcStep
        have c' : ((r :: rt).headD false != b) = true := c
        rw [if_pos c'] <;> rfl
      · rw [if_neg c, ih _ (by simp [hr])]
        unfold crcStep
        have c' : ¬ ((r :: rt).headD false != b) = true := c
        rw [if_neg c'] <;> rfl
theorem lawCheck_is (bs : Bits) : lawCheck bs = checkOf bs := by
  have h := div_reg bs (zeros 15) (by simp [zeros])
  have e : xp (bs ++ zeros 15) (zeros 15) = bs ++ zeros 15 := by
    have g := xp_false (bs ++ zeros 15) [] 15
    rw [xp_nil] at g
    exact g
  rw [e] at h
  exact h
end BB

namespace BB
open PySem PySem.Spec PyProof.Rows L2 Evl
/-- a def of the text, that may be called by its name -/
structure DefAt (K : PySem.W.Frag) (mg : Str → Option Value) (x : Str) (st : Stmt) (ps : List Str) (f : Addr) (fd : FuncData) : Prop where
  F : Fun K x x st f fd
  b : Binds K fd ps []
  g : mg x = some (.ref f)
structure DefOk (P : Program) (w : World) (K : PySem.W.Frag) (mg : Str → Option Value) (base : Heap) (k : Nat) (x : Str) (sp : Sp) : Prop where
  ex : ∃ (ps : List Str) (f : Addr) (fd : FuncData), FnOk P w K mg base CX0 k f fd ps sp ∧ mg x = some (.ref f) ∧ PySem.W.keepIn K (.ref f) = true ∧ Binds K fd ps []
section
variable {X : Cx} {k j : Nat} {x : Str} {sp : Sp} {p pos : Pos} {e : Expr} {es : List Expr} {t : TA}
theorem pcal (c : DefOk X.prog X.w X.K X.mg X.base k x sp) (hr : Room j X.A) (ha : PA X (e :: es) t) (hk : k ≤ j := by decide) (hg : Gl X x := by rfl)
    (hdb : (x == ("__debug__" : Str)) = false := by decide) (he : starEach (e :: es) X.env = (false, eval e X.env) :: starEach es X.env := by rfl) (hpl : (backTo pos (starEach es X.env)).any (·.1) = false := by rfl) :
    PE X (.Call (.Name x p) (e :: es) [] pos) (tCall sp [] E0 t) := by
  obtain ⟨ps, f, fd, F, hm, kp, b⟩ := c.ex
  exact pe_call F (hr.mono hk) hg hm kp b .nil pass0 ha hdb he hpl
end
/-! ### the rules that read the written part, with it told -/
section
variable {X : Cx} (K : PySem.W.Frag)
theorem ixL (h : X.K = K := by rfl) : IxR X (rIxL K) := h ▸ ix_list
theorem ixT (h : X.K = K := by rfl) : IxR X (rIxT K) := h ▸ ix_tup
theorem slL (h : X.K = K := by rfl) : SlR X (rSlL K) := h ▸ sl_list
theorem lenL (h : X.K = K := by rfl) : CallR X (.builtin "len") (rLenS K) := h ▸ call_len_seq
theorem listL (h : X.K = K := by rfl) : CallR X (.type "list") (rListS K) := h ▸ call_list_of
theorem piL {tg l : Expr} {tl : TE} (hl : PE X l tl) (h : X.K = K := by rfl) : PI X tg l (iList K tl) := h ▸ pi_list hl
end
/-! ### bits as values -/
def bI (b : Bool) : Int := if b then 1 else 0
def bV (b : Bool) : V := .int (bI b)
def bVs (bs : Bits) : List V := bs.map bV
theorem bVs_len (bs : Bits) : (bVs bs).length = bs.length := List.length_map _
theorem bVs_app (a b : Bits) : bVs (a ++ b) = bVs a ++ bVs b := List.map_append
theorem bV_ne (a b : Bool) : (!decide (bV a = bV b)) = (a != b) := by cases a <;> cases b <;> rfl
theorem bV_eq (a b : Bool) : decide (bV a = bV b) = (a == b) := by cases a <;> cases b <;> rfl
theorem bVs_get {bs : Bits} {k : Nat} {b : Bool} (h : bs[k]? = some b) : (bVs bs)[k]? = some (bV b) := by
  unfold bVs
  rw [List.getElem?_map, h]
  rfl
theorem bVs_inv {bs : Bits} {k : Nat} {x : V} (h : (bVs bs)[k]? = some x) : ∃ b, bs[k]? = some b ∧ x = bV b := by
  unfold bVs at h
  rw [List.getElem?_map] at h
  cases e : bs[k]? with
  | none => rw [e] at h; cases h
  | some b => rw [e] at h; exact ⟨b, rfl, (Option.some.inj h).symm⟩
theorem bI_01 (b : Bool) : bI b = 0 ∨ bI b = 1 := by cases b <;> simp [bI]
theorem get_of {α : Type} {l : List α} {k : Nat} (h : k < l.length) : ∃ x, l[k]? = some x := ⟨l[k], List.getElem?_eq_getElem h⟩
theorem take_more {α : Type} {l : List α} {i : Nat} {x : α} (h : l[i]? = some x) : l.take (i + 1) = l.take i ++ [x] := by
  rw [List.take_add_one, h]
  rfl
theorem cut1 (xs : List V) : cutV xs (some 1) none = xs.drop 1 := by
  unfold cutV
  rw [show HT.sIx xs.length 0 (some 1) = min 1 xs.length from HT.sIx_nat xs.length 0 1, HT.sIx_none]
  cases xs with
  | nil => rfl
  | cons x r =>
    rw [show min 1 (x :: r).length = 1 by
      rw [List.length_cons]
      omega]
    show (List.take ((x :: r).length - 1) r) = r
    rw [List.length_cons, Nat.add_sub_cancel]
    exact List.take_length
theorem sz1000 {n : Nat} (h : n ≤ 1000) : n ≤ sizeLine := Nat.le_of_lt (small1000 h)
/-! ### lists that are read on the way -/
/-- it hands on some list of xs -/
def EvS (te : TE) (σ : L2.St) (H : Hp) (xs : List V) : Prop := ∀ H1, Ex H H1 → ∀ Q : VK, (∀ p H2, Ex H1 H2 → H2 p = some (.lst xs) → Q (.ref p) H2) → te σ H1 Q
section
variable {K : PySem.W.Frag} {σ : L2.St} {H H' : Hp} {ta tb te : TE} {xs ys : List V}
theorem es_of (h : EvL te σ H xs) : EvS te σ H xs := fun H1 e Q q => h H1 e Q fun p H2 _ e2 h2 => q p H2 e2 h2
theorem es_v {p : Addr} (h : Ev te σ H (.ref p)) (hp : H p = some (.lst xs)) : EvS te σ H xs := fun H1 e Q q => h H1 e Q fun H2 e2 => q p H2 e2 ((e.trans e2) p _ hp)
theorem el_cat (ha : EvS ta σ H xs) (hb : EvS tb σ H ys) (hz : xs.length + ys.length ≤ 100000) : EvL (tOp rCat ta tb) σ H (xs ++ ys) := fun H1 e Q k =>
  ha H1 e _ fun p H2 e2 h2 => hb H2 (e.trans e2) _ fun q H3 e3 h3 => ⟨p, q, xs, ys, rfl, rfl, e3 p _ h2, h3, sz_of hz, fun r hr => k r _ (fresh_back (e2.trans e3) hr) ((e2.trans e3).trans (Ex.new hr)) upd_same⟩
theorem el_rep {n : Nat} (ha : EvS ta σ H xs) (hb : Ev tb σ H (.int (n : Int))) (hz : xs.length * n ≤ 100000) (hn : n ≤ 100000) : EvL (tOp rRep ta tb) σ H (List.replicate n xs).flatten := fun H1 e Q k =>
  ha H1 e _ fun p H2 e2 h2 => hb H2 (e.trans e2) _ fun H3 e3 => ⟨p, (n : Int), xs, rfl, rfl, e3 p _ h2, by omega, by omega, sz_of hz, fun r hr => k r _ (fresh_back (e2.trans e3) hr) ((e2.trans e3).trans (Ex.new hr)) upd_same⟩
theorem et_yes : EvT tYes σ H true := fun H1 _ _ q => q H1 (Ex.refl H1)
theorem given_all {n : Nat} {v : Nat → V} (hl : xs.length = n) (h : ∀ i, i < n → xs[i]? = some (v i)) : given n (fun _ => true) v = xs := by
  unfold given
  apply List.ext_getElem?
  intro i
  have ef : ∀ l : List Nat, l.filter (fun _ => true) = l := fun l => List.filter_eq_self.mpr fun _ _ => rfl
  rw [ef, List.getElem?_map]
  by_cases hi : i < n
  · rw [List.getElem?_range hi, h i hi]
    rfl
  · rw [List.getElem?_eq_none (by simpa using hi), List.getElem?_eq_none (by omega)]
    rfl
theorem el_is (h : EvL te σ H xs) (e : xs = ys) : EvL te σ H ys := e ▸ h
theorem ev_int1 {b : Bool} {ta : TE} (h : Ev ta σ H (.bl b)) : Ev (tCB (fun xs H Q => (∃ i, xs = [.int i] ∧ Q (.int i) H) ∨ ∃ k, xs = [.bl k] ∧ Q (.int (if k then 1 else 0)) H) (tCons ta tNil)) σ H (bV b) := fun H1 e Q q =>
  h H1 e _ fun H2 e2 => .inr ⟨b, rfl, q H2 e2⟩
end
theorem ev_all {K : PySem.W.Frag} {σ : L2.St} {H : Hp} {te : TE} {bs : List Bool} (h : EvS te σ H (bs.map V.bl)) : Ev (tCB (rAll K) (tCons te tNil)) σ H (.bl (bs.all id)) := fun H1 e Q q =>
  h H1 e _ fun p H2 e2 h2 => ⟨p, bs, rfl, sq_of h2, q H2 e2⟩
theorem ev_any {K : PySem.W.Frag} {σ : L2.St} {H : Hp} {te : TE} {bs : List Bool} (h : EvS te σ H (bs.map V.bl)) : Ev (tCB (rAny K) (tCons te tNil)) σ H (.bl (bs.any id)) := fun H1 e Q q =>
  h H1 e _ fun p H2 e2 h2 => ⟨p, bs, rfl, sq_of h2, q H2 e2⟩
theorem ev_isList {K : PySem.W.Frag} {σ : L2.St} {H : Hp} {ta tb : TE} {p : Addr} {xs : List V} (ha : Ev ta σ H (.ref p)) (hb : Ev tb σ H (.ty "list")) (hp : H p = some (.lst xs)) : Ev (tCB (rIsi K) (tCons ta (tCons tb tNil))) σ H (.bl true) := fun H1 e Q k =>
  ha H1 e _ fun H2 e2 => hb H2 (e.trans e2) _ fun H3 e3 => ⟨_, _, _, _, true, rfl, .ty "list", .base (.lst (((e.trans e2).trans e3) p _ hp)), kit_ty (by decide +kernel), k H3 (e2.trans e3)⟩
theorem given_true (n : Nat) : given n (fun _ => true) (fun _ => V.bl true) = (List.replicate n true).map V.bl :=
  given_all (by simp) fun i hi => by rw [List.getElem?_map, List.getElem?_replicate, if_pos hi]; rfl
/-! ### lists of ints compared -/
theorem dp_ints {K : PySem.W.Frag} {H : Hp} : ∀ ns : List Int, DpAll K H (ns.map V.int) (ns.map PyData.int)
  | [] => .nil
  | n :: ns => .cons (.int n) (dp_ints ns)
theorem lay_ints : ∀ ns : List Int, PyData.canLayAll0 (ns.map PyData.int) = true
  | [] => rfl
  | n :: ns => by
    show PyData.canLayAll0 (PyData.int n :: ns.map PyData.int) = true
    rw [PyData.canLayAll0, lay_ints ns]
    rfl
theorem depth_ints : ∀ ns : List Int, PyData.depthAll (ns.map PyData.int) ≤ 1
  | [] => by decide
  | n :: ns => by
    have h := depth_ints ns
    show PyData.depthAll (PyData.int n :: ns.map PyData.int) ≤ 1
    rw [PyData.depthAll]
    exact Nat.max_le.mpr ⟨by rw [PyData.depth]; decide, h⟩
theorem shaped_ints (ns : List Int) : SeqAt.shaped (.list (ns.map PyData.int)) = true := by
  unfold SeqAt.shaped
  have h1 : (PyData.list (ns.map PyData.int)).canLay0 = true := by
    rw [PyData.canLay0]
    exact lay_ints ns
  have h2 : (PyData.list (ns.map PyData.int)).depth ≤ 64 := by
    rw [PyData.depth]
    have := depth_ints ns
    omega
  rw [h1, decide_eq_true h2]
  rfl
theorem eqv_ints (ns : List Int) : PyData.eqv (.list (ns.map PyData.int)) (.list (ns.map PyData.int)) = true := by
  rw [PyData.eqv]
  exact SeqAt.eqvAll_refl _ (lay_ints ns)
theorem ev_eqI {K : PySem.W.Frag} {σ : L2.St} {H : Hp} {ta tb : TE} (ns : List Int) (ha : EvS ta σ H (ns.map V.int)) (hb : EvS tb σ H (ns.map V.int)) : Ev (tOp (rEqD K) ta tb) σ H (.bl true) := fun H1 e Q k =>
  ha H1 e _ fun p H2 e2 h2 => hb H2 (e.trans e2) _ fun q H3 e3 h3 => ⟨_, _, .lst (sq_of (e3 p _ h2)) (dp_ints ns), .lst (sq_of h3) (dp_ints ns), shaped_ints ns, shaped_ints ns, by rw [eqv_ints]; exact k H3 (e2.trans e3)⟩
theorem bVs_ints (bs : Bits) : bVs bs = (bs.map bI).map V.int := by
  unfold bVs
  rw [List.map_map]
  rfl
theorem ev_eqB {K : PySem.W.Frag} {σ : L2.St} {H : Hp} {ta tb : TE} (bs : Bits) (ha : EvS ta σ H (bVs bs)) (hb : EvS tb σ H (bVs bs)) : Ev (tOp (rEqD K) ta tb) σ H (.bl true) := by
  rw [bVs_ints] at ha hb
  exact ev_eqI _ ha hb
theorem eqD {X : Cx} (K : PySem.W.Frag) (hu : X.A.units + 64 < cLine) (h : X.K = K := by rfl) : OpR X (compareOp .Eq) (rEqD K) := h ▸ op_eqD hu
theorem neD {X : Cx} (K : PySem.W.Frag) (hu : X.A.units + 64 < cLine) (h : X.K = K := by rfl) : OpR X (compareOp .NotEq) (rNeD K) := h ▸ op_neD hu
/-- a new list is handed back, all else stands -/
def spL (ps : Nat) (pre : List V → Hp → List V → Prop) : Sp := fun vs H Q _ => vs.length = ps ∧ ∃ xs, pre vs H xs ∧ ∀ p H', H p = none → Ex H H' → H' p = some (.lst xs) → Q (.ref p) H'
theorem spL_call {ps : Nat} {pre : List V → Hp → List V → Prop} {vs : List V} {H : Hp} {xs : List V} (hl : vs.length = ps) (h : ∀ H1, Ex H H1 → pre vs H1 xs) : SpL (spL ps pre) vs H xs := fun H1 e Q q E => ⟨hl, xs, h H1 e, fun p H' a b c => q p H' a b c⟩
/-- a value is handed back, all else stands -/
def spV (ps : Nat) (pre : List V → Hp → V → Prop) : Sp := fun vs H Q _ => vs.length = ps ∧ ∃ x, pre vs H x ∧ ∀ H', Ex H H' → Q x H'
theorem spV_call {ps : Nat} {pre : List V → Hp → V → Prop} {vs : List V} {H : Hp} {x : V} (hl : vs.length = ps) (h : ∀ H1, Ex H H1 → pre vs H1 x) : SpV (spV ps pre) vs H x := fun H1 e Q q E => ⟨hl, x, h H1 e, fun H' a => q H' a⟩
end BB
namespace BB
open PySem PySem.Spec PyProof.Rows L2
theorem defAt_mk {K : PySem.W.Frag} {h : Heap} {mg : Str → Option Value} (X : K.In h) (G : h.Ns mainGlobals mg) {x : Str} {st : Stmt} {ps : List Str} {f : Addr} {oc : Value} {od an : Option Addr} {osl : Array (Option Value)} {kV doc pm cdv ct : Value}
    (a : PySem.W.nsIn K mainGlobals x = some (some (.ref f))) (l : K.lookup f = some ⟨oc, od, .func (PySem.W.fnOf x x (defArgs st) (defBody st) (defScope st) .none kV doc pm an cdv ct), osl⟩)
    (c : PySem.W.codeIn K cdv x = true) (k : PySem.W.keepIn K (.ref f) = true)
    (hb : ∀ (kV doc pm : Value) (an : Option Addr) (cdv ct : Value) (us : List Value), us.length = ps.length → bindArgs (PySem.W.fnOf x x (defArgs st) (defBody st) (defScope st) .none kV doc pm an cdv ct) ⟨us, []⟩ = pure (ps.zip us)) :
    DefAt K mg x st ps f (PySem.W.fnOf x x (defArgs st) (defBody st) (defScope st) .none kV doc pm an cdv ct) :=
  have F := fun_mk (st := st) l c k
  ⟨F, F.binds hb, PySem.W.mg_of X G a⟩
end BB

namespace BB
open PySem L2
def top (i : Nat) : Stmt := PySem.Challenge.pw_bitbus_k01_checks.main.body.getD i (.Pass ⟨0, 0, 0, 0⟩)
abbrev s_digits : Stmt := top 3
abbrev s_check_of : Stmt := top 4
abbrev s_law_cell : Stmt := top 6
abbrev s_law_mix : Stmt := top 7
abbrev s_law_whole : Stmt := top 8
abbrev s_law_digits : Stmt := top 9
abbrev s_law_check : Stmt := top 10
abbrev s_law : Stmt := top 14
/-- slots: number 0, many 1, found 2, k 3 -/
theorem sc_digits : FnScope ["number", "many", "found", "k"] ["number", "many"] (defScope s_digits) := ⟨rfl, rfl, rfl, by decide +kernel, rfl, by decide +kernel, by decide +kernel⟩
/-- slots: bits 0, found 1c, wheel 2c, bit 3, turns 4, k 5 -/
theorem sc_check_of : FnScope ["bits", "found", "wheel", "bit", "turns", "k"] ["bits"] (defScope s_check_of) := ⟨rfl, rfl, rfl, by decide +kernel, rfl, by decide +kernel, by decide +kernel⟩
/-- slots: _law_script 0, _law_k 1 -/
theorem sc_law_cell : FnScope ["_law_script", "_law_k"] ["_law_script", "_law_k"] (defScope s_law_cell) := ⟨rfl, rfl, rfl, by decide +kernel, rfl, by decide +kernel, by decide +kernel⟩
/-- slots: _law_script 0, _law_k 1, _law_number 2 -/
theorem sc_law_mix : FnScope ["_law_script", "_law_k", "_law_number"] ["_law_script", "_law_k"] (defScope s_law_mix) := ⟨rfl, rfl, rfl, by decide +kernel, rfl, by decide +kernel, by decide +kernel⟩
/-- slots: _law_found 0 -/
theorem sc_law_whole : FnScope ["_law_found"] ["_law_found"] (defScope s_law_whole) := ⟨rfl, rfl, rfl, by decide +kernel, rfl, by decide +kernel, by decide +kernel⟩
/-- slots: _law_number 0, _law_many 1, _law_found 2, _law_k 3 -/
theorem sc_law_digits : FnScope ["_law_number", "_law_many", "_law_found", "_law_k"] ["_law_number", "_law_many"] (defScope s_law_digits) := ⟨rfl, rfl, rfl, by decide +kernel, rfl, by decide +kernel, by decide +kernel⟩
/-- slots: _law_bits_here 0, _law_rest 1, _law_wheel 2, _law_k 3, _law_j 4 -/
theorem sc_law_check : FnScope ["_law_bits_here", "_law_rest", "_law_wheel", "_law_k", "_law_j"] ["_law_bits_here"] (defScope s_law_check) := ⟨rfl, rfl, rfl, by decide +kernel, rfl, by decide +kernel, by decide +kernel⟩
/-- slots: _law_script 0, _law_kind 1, _law_bits_here 2, _law_k 3, _law_number 4, _law_handed 5, _law_found 6, _law_bit 7 -/
theorem sc_law : FnScope ["_law_script", "_law_kind", "_law_bits_here", "_law_k", "_law_number", "_law_handed", "_law_found", "_law_bit"] ["_law_script"] (defScope s_law) := ⟨rfl, rfl, rfl, by decide +kernel, rfl, by decide +kernel, by decide +kernel⟩
end BB

namespace BB
open PySem PySem.Spec PyProof.Rows L2 Evl
section
variable {P : Program} {w : World} {K : PySem.W.Frag} {mg : Str → Option Value} {base : Heap}
def spDigits : Sp := spL 2 fun vs _ xs => ∃ n m : Nat, vs = [.int n, .int m] ∧ m ≤ 1000 ∧ xs = bVs (digits n m)
theorem bit_mod1 (m : Nat) : ((m : Nat) : Int) % 2 = bI (decide (m % 2 = 1)) := by
  unfold bI
  by_cases h : m % 2 = 1
  · rw [decide_eq_true h, if_pos rfl]
    omega
  · rw [decide_eq_false h, if_neg (by decide)]
    omega
theorem bit_mod (n i : Nat) : ((n / 2 ^ i : Nat) : Int) % 2 = bI (decide ((n / 2 ^ i) % 2 = 1)) := bit_mod1 _
theorem bit_div (n i : Nat) : ((n / 2 ^ i : Nat) : Int) / 2 = ((n / 2 ^ (i + 1) : Nat) : Int) := by
  rw [Nat.pow_succ, ← Nat.div_div_eq_div_mul]
  omega
theorem ok_digits {f : Addr} {fd : FuncData} (D : DefAt K mg "digits" s_digits ["number", "many"] f fd) (zr : mg "range" = none) : DefOk P w K mg base 1 "digits" spDigits := by
  refine ⟨_, f, fd, ?_, D.g, D.F.kp, D.b⟩
  refine D.F.ok sc_digits (fun vs H Q E h => h.1) (fun cdv A outer s H vs Q E hr h => ?_)
  obtain ⟨_, xs, ⟨n, m, rfl, hm, rfl⟩, q⟩ := h
  refine ⟨_, pss_cons (ps_set (i := 2) sc_digits.nd rfl (.inl rfl) (pe_lst pa_nil))
    (pss_cons (ps_for PassesOwn.never rfl (pi_range1 (by rfl) zr (pa_cons (pv 1) pa_nil)) (pg_name (i := 3) sc_digits.nd rfl (.inl rfl))
      (pss_cons (ps_expr (pe_bm PySem.F.plainAttrs_list PySem.F.slot_list_insert PySem.F.type_list_insert mt_insert (pv 2) (pa_cons pe_int (pa_cons (pe_op op_mod (pv 0) pe_int) pa_nil))))
        (pss_one (ps_set (i := 0) sc_digits.nd rfl (.inl rfl) (pe_op op_fdiv (pv 0) pe_int)))))
    (pss_one (ps_ret (pv 2)))), ?_⟩
  refine q_asgL (el_lst ea_nil (by decide)) fun p H1 hp e1 h1 => ?_
  refine q_forR1 (n := (m : Int)) (ea_cons (ev_var rfl) ea_nil) ⟨by omega, by omega⟩
    (fun i σ H' => ∃ kk, σ = [some (.int ((n / 2 ^ i : Nat) : Int)), some (.int (m : Int)), some (.ref p), kk] ∧ Ex H H' ∧ H' p = some (.lst (bVs (digits n i))))
    (fun H2 e2 => ⟨none, by rw [Nat.pow_zero, Nat.div_one]; rfl, e1.trans e2, e2 p _ h1⟩) ?_ ?_
  · rintro i σ H' hi ⟨kk, rfl, e, hl⟩
    refine ⟨_, rfl, .inl ⟨rfl, _, SqL.of hl⟩, _, rfl, _, _, rfl, rfl, (by show (0 : Int) < 2; decide), p, _, 0, _, rfl, rfl, hl, ?_, by decide, by decide, ?_⟩
    · rw [bVs_len, digits_len]
      exact small1000 (by omega)
    · refine ⟨_, rfl, _, _, rfl, rfl, ⟨by decide, by decide⟩, some (.int (i : Int)), ?_, e.mut hp, ?_⟩
      · show [some (V.int (((n / 2 ^ i : Nat) : Int) / 2)), some (V.int (m : Int)), some (V.ref p), some (V.int (i : Int))] = _
        rw [bit_div]
      · rw [upd_same]
        show some (HO.lst ([] ++ [V.int (((n / 2 ^ i : Nat) : Int) % 2)] ++ bVs (digits n i))) = _
        rw [bit_mod]
        rfl
  · rintro σ H' ⟨kk, rfl, e, hl⟩
    exact ⟨_, rfl, q p H' hp e (by simpa using hl)⟩
/-! ### check_of: bits, found, wheel, bit, turns, k -/
def spCheck (K : PySem.W.Frag) : Sp := spL 1 fun vs H xs => ∃ (a : Addr) (bs : Bits), vs = [.ref a] ∧ SqL K H a (bVs bs) ∧ bs.length ≤ 1000 ∧ xs = bVs (checkOf bs)
theorem xr_get {f w : Bits} {k : Nat} {a b : Bool} (h1 : f[k]? = some a) (h2 : w[k]? = some b) : (xr f w)[k]? = some (a != b) := by
  unfold xr
  rw [List.getElem?_zipWith, h1, h2]
theorem ok_check_of {f : Addr} {fd : FuncData} (D : DefAt K mg "check_of" s_check_of ["bits"] f fd) (dD : DefOk P w K mg base 1 "digits" spDigits) (zr : mg "range" = none) (zi : mg "int" = none)
    (c1 : ∃ t, mg "CHECK_BITS" = some (.int 15 t)) (c2 : ∃ t, mg "CHECKER" = some (.int 17817 t)) : DefOk P w K mg base 2 "check_of" (spCheck K) := by
  refine ⟨_, f, fd, ?_, D.g, D.F.kp, D.b⟩
  obtain ⟨t1, c1⟩ := c1
  obtain ⟨t2, c2⟩ := c2
  refine D.F.ok sc_check_of (fun vs H Q E h => h.1) (fun cdv A outer s H vs Q E hr h => ?_)
  obtain ⟨_, xs, ⟨a, bs, rfl, hS, hm, rfl⟩, q⟩ := h
  refine ⟨_, pss_cons (ps_set (i := 1) sc_check_of.nd rfl (.inr rfl) (pe_op op_rep (pe_lst (pa_cons pe_int pa_nil)) (pe_glob (v := .int 15) rfl c1 ⟨_, rfl⟩)))
    (pss_cons (ps_set (i := 2) sc_check_of.nd rfl (.inr rfl) (pcal dD hr (pa_cons (pe_glob (v := .int 17817) rfl c2 ⟨_, rfl⟩) (pa_cons (pe_glob (v := .int 15) rfl c1 ⟨_, rfl⟩) pa_nil))))
    (pss_cons (ps_for PassesOwn.never rfl (piL K (pv 0)) (pg_name (i := 3) sc_check_of.nd rfl (.inl rfl))
      (pss_cons (ps_set (i := 4) sc_check_of.nd rfl (.inl rfl) (pe_cmpR op_ne (pe_ix (ixL K) (pv 1) pe_int (fun _ _ => rfl)) (pv 3) (nomark _)))
      (pss_cons (ps_set (i := 1) sc_check_of.nd rfl (.inr rfl) (pe_op op_cat (pe_slice (slL K) (pv 1) (po_some pe_int) po_none) (pe_lst (pa_cons pe_int pa_nil))))
      (pss_one (ps_if (pt_val (pv 4))
        (pss_one (ps_set (i := 1) sc_check_of.nd rfl (.inr rfl) (pe_lc (own := [("k", 5)]) (g := gName 5) (tt := tYes) rfl sc_check_of.nd (pi_range1 (by rfl) zr (pa_cons (pe_glob (v := .int 15) rfl c1 ⟨_, rfl⟩) pa_nil))
          (blkOk_by (own := [("k", 5)]) (N := ["bits", "found", "wheel", "bit", "turns", "k"]) (sc := defScope s_check_of) (by decide +kernel))
          (fun _ _ _ _ _ => pg_name (i := 5) sc_check_of.nd rfl (Or.inl rfl)) (fun _ _ _ _ _ => pts_nil)
          (fun _ _ _ _ _ => pe_callTy call_int1 (by rfl) zi (by decide +kernel) (pa_cons (pe_cmpR op_ne (pe_ix (ixL K) (pv 1) (pv 5) (fun _ _ => rfl)) (pe_ix (ixL K) (pv 2) (pv 5) (fun _ _ => rfl)) (nomark _)) pa_nil)))))
        pss_nil)))))
    (pss_one (ps_ret (pv 1))))), ?_⟩
  refine q_asgL (el_rep (n := 15) (es_of (el_lst (ea_cons ev_c ea_nil) (by decide))) ev_c (by decide) (by decide)) fun p0 H1 hp e1 h1 => ?_
  refine q_asgL (el_call (xs := bVs wheel) (ea_cons ev_c (ea_cons ev_c ea_nil)) (spL_call rfl fun H1 _ => ⟨17817, 15, rfl, by decide, rfl⟩)) fun wh H2 hw e2 h2 => ?_
  refine q_forL (ev_var rfl) (ex_l (e1.trans e2) hS)
    (fun i σ H' => ∃ v3 v4 p, σ = [some (.ref a), some (.ref p), some (.ref wh), v3, v4, none] ∧ H p = none ∧ Ex H2 H' ∧ H' p = some (.lst (bVs ((bs.take i).foldl crcStep (zeros 15)))))
    (fun H3 e3 => ⟨none, none, p0, rfl, hp, e3, (e2.trans e3) p0 _ h1⟩) ?_ ?_ ?_
  · rintro i σ H' _ ⟨v3, v4, p, rfl, _, e, _⟩
    exact ex_l ((e1.trans e2).trans e) hS
  · rintro i x σ H' hx ⟨v3, v4, p, rfl, fp, e, hl⟩
    obtain ⟨b, hb, rfl⟩ := bVs_inv hx
    have hstep : (bs.take (i + 1)).foldl crcStep (zeros 15) = crcStep ((bs.take i).foldl crcStep (zeros 15)) b := by
      rw [take_more hb, List.foldl_append]
      rfl
    have hlen : ((bs.take i).foldl crcStep (zeros 15)).length = 15 := foldl_len _ (by simp [zeros])
    generalize (bs.take i).foldl crcStep (zeros 15) = f at hl hstep hlen
    obtain ⟨f0, hf0⟩ := get_of (l := f) (k := 0) (by omega)
    have hhd : f.headD false = f0 := by
      cases f with
      | nil => simp at hlen
      | cons a l => exact Option.some.inj hf0
    have hw' : H' wh = some (.lst (bVs wheel)) := e wh _ h2
    refine q_asg (ev_op (ev_op (ev_var rfl) ev_c (rv_ixL (sq_of hl) (atI_nat (j := 0) (bVs_get hf0)))) (ev_var rfl) (rv_ne rfl)) fun H3 e3 => ?_
    rw [bV_ne]
    have hl3 := e3 p _ hl
    refine q_asgL (el_cat (es_of (el_sl (ev_var rfl) (eo_some ev_c) eo_none (sq_of hl3))) (es_of (el_lst (ea_cons ev_c ea_nil) (by decide))) ?_) fun p2 H4 hp2 e4 h4 => ?_
    · rw [cut1, List.length_drop, bVs_len, hlen]
      decide
    have h4' : H4 p2 = some (.lst (bVs (f.tail ++ [false]))) := by
      rw [h4, cut1, bVs_app]
      unfold bVs
      rw [← List.map_drop, List.drop_one]
      rfl
    have hw4 := (e3.trans e4) wh _ hw'
    have e04 := (e.trans e3).trans e4
    refine s_when (b := f0 != b) (et_B (ev_var rfl)) (fun hc H5 e5 => ?_) (fun hc H5 e5 => ?_)
    · have hlen2 : (f.tail ++ [false]).length = 15 := by simp [hlen]
      refine s_asgL (el_is (el_lcR1 (n := 15) (fun _ => true) (fun i => bV ((f.tail ++ [false]).getD i false != wheel.getD i false)) (ea_cons ev_c ea_nil) ⟨by decide, by decide⟩ (fun x => rfl) (fun i H1 _ _ => et_yes) (fun i H6 e6 hi _ => ?_)) (ys := bVs (xr (f.tail ++ [false]) wheel)) ?_) fun p3 H7 hp3 e7 h7 => ?_
      · have hi' : i < 15 := by omega
        obtain ⟨u1, g1⟩ := get_of (l := f.tail ++ [false]) (k := i) (by omega)
        obtain ⟨u2, g2⟩ := get_of (l := wheel) (k := i) (by rw [wheel_len]; exact hi')
        refine ev_int1 (ev_is (ev_op (ev_op (ev_var rfl) (ev_var rfl) (rv_ixL (sq_of ((e5.trans e6) p2 _ h4')) (atI_nat (bVs_get g1)))) (ev_op (ev_var rfl) (ev_var rfl) (rv_ixL (sq_of ((e5.trans e6) wh _ hw4)) (atI_nat (bVs_get g2)))) (rv_ne rfl)) ?_)
        rw [bV_ne, List.getD_eq_getElem?_getD, List.getD_eq_getElem?_getD, g1, g2]
        rfl
      · refine given_all (by rw [bVs_len]; simp [xr, hlen2, wheel_len]) fun i hi => ?_
        obtain ⟨u1, g1⟩ := get_of (l := f.tail ++ [false]) (k := i) (by have : (15 : Int).toNat = 15 := rfl; omega)
        obtain ⟨u2, g2⟩ := get_of (l := wheel) (k := i) (by rw [wheel_len]; exact hi)
        rw [bVs_get (xr_get g1 g2), List.getD_eq_getElem?_getD, List.getD_eq_getElem?_getD, g1, g2]
        rfl
      · refine ⟨_, _, p3, rfl, fresh_back (((e1.trans e2).trans e04).trans e5) hp3, (e04.trans e5).trans e7, ?_⟩
        rw [h7, hstep]
        unfold crcStep
        rw [hhd, if_pos hc]
    · refine ⟨_, _, p2, rfl, fresh_back (((e1.trans e2).trans e).trans e3) hp2, e04.trans e5, ?_⟩
      rw [e5 p2 _ h4', hstep]
      unfold crcStep
      rw [hhd, hc, if_neg (by decide)]
  · rintro σ H' ⟨v3, v4, p, rfl, fp, e, hl⟩
    refine s_ret (ev_var rfl) fun H3 e3 => ?_
    refine q p H3 fp (((e1.trans e2).trans e).trans e3) ?_
    rw [e3 p _ hl, bVs_len, List.take_length]
    rfl
end
end BB

namespace BB
open PySem PySem.Spec PyProof.Rows L2 Evl
section
variable {P : Program} {w : World} {K : PySem.W.Frag} {mg : Str → Option Value} {base : Heap}
/-! ### the law's draws -/
def lawCell (ns : List Int) (k : Int) : Int := ns.getD (k % (ns.length : Int)).toNat 0
def lawMix (ns : List Int) (k : Int) : Int :=
  (((lawCell ns k + 104729 * (k + 1)) % 4294967291 * 48271 % 4294967279) / 64 * 69621 + (lawCell ns k + 104729 * (k + 1)) % 4294967291 * 48271 % 4294967279) % 4294967231
theorem lawMix_nat (ns : List Int) (k : Int) : ∃ m : Nat, lawMix ns k = (m : Int) := ⟨(lawMix ns k).toNat, by unfold lawMix; omega⟩
def spCell (K : PySem.W.Frag) : Sp := spV 2 fun vs H x => ∃ (a : Addr) (ns : List Int) (k : Int), vs = [.ref a, .int k] ∧ SqL K H a (ns.map V.int) ∧ x = .int (lawCell ns k)
def spMix (K : PySem.W.Frag) : Sp := spV 2 fun vs H x => ∃ (a : Addr) (ns : List Int) (k : Int), vs = [.ref a, .int k] ∧ SqL K H a (ns.map V.int) ∧ x = .int (lawMix ns k)
theorem ok_law_cell {f : Addr} {fd : FuncData} (D : DefAt K mg "_law_cell" s_law_cell ["_law_script", "_law_k"] f fd) (zl : mg "len" = none) : DefOk P w K mg base 1 "_law_cell" (spCell K) := by
  refine ⟨_, f, fd, ?_, D.g, D.F.kp, D.b⟩
  refine D.F.ok sc_law_cell (fun vs H Q E h => h.1) (fun cdv A outer s H vs Q E hr h => ?_)
  obtain ⟨_, x, ⟨a, ns, k, rfl, hS, rfl⟩, q⟩ := h
  refine ⟨_, pss_cons (ps_if (pt_truth (pv 0) (by intro _; rfl)) (pss_one (ps_ret (pe_ix (ixL K) (pv 0) (pe_op op_mod (pv 1) (pe_callB (lenL K) (by rfl) zl (by decide +kernel) (pa_cons (pv 0) pa_nil))) (fun _ _ => rfl)))) pss_nil) (pss_one (ps_ret pe_int)), ?_⟩
  refine ⟨_, rfl, !(ns.map V.int).isEmpty, .inl ⟨_, hS, rfl⟩, ?_⟩
  cases ns with
  | nil => exact q H (Ex.refl H)
  | cons n ns =>
    have hlen : ((n :: ns).map V.int).length = (n :: ns).length := List.length_map _
    have hp : (0 : Int) < (((n :: ns).map V.int).length : Int) := by rw [hlen, List.length_cons]; omega
    refine ⟨_, rfl, _, rfl, _, rfl, a, _, rfl, .inl hS, _, _, rfl, rfl, hp, a, _, _, _, rfl, rfl, hS, ?_, q H (Ex.refl H)⟩
    have h0 := Int.emod_nonneg k (b := ((n :: ns).length : Int)) (by rw [List.length_cons]; omega)
    have h1 := Int.emod_lt_of_pos k (b := ((n :: ns).length : Int)) (by rw [List.length_cons]; omega)
    rw [hlen]
    refine at_of (j := (k % ((n :: ns).length : Int)).toNat) (by omega) ?_
    unfold lawCell
    rw [List.getElem?_map, List.getD_eq_getElem?_getD, List.getElem?_eq_getElem (by omega)]
    rfl
theorem ok_law_mix {f : Addr} {fd : FuncData} (D : DefAt K mg "_law_mix" s_law_mix ["_law_script", "_law_k"] f fd) (dC : DefOk P w K mg base 1 "_law_cell" (spCell K)) : DefOk P w K mg base 2 "_law_mix" (spMix K) := by
  refine ⟨_, f, fd, ?_, D.g, D.F.kp, D.b⟩
  refine D.F.ok sc_law_mix (fun vs H Q E h => h.1) (fun cdv A outer s H vs Q E hr h => ?_)
  obtain ⟨_, x, ⟨a, ns, k, rfl, hS, rfl⟩, q⟩ := h
  refine ⟨_, pss_cons (ps_set (i := 2) sc_law_mix.nd rfl (.inl rfl) (pe_op op_mod (pe_op op_add (pcal dC hr (pa_cons (pv 0) (pa_cons (pv 1) pa_nil))) (pe_op op_mul pe_int (pe_op op_add (pv 1) pe_int))) pe_int))
    (pss_cons (ps_set (i := 2) sc_law_mix.nd rfl (.inl rfl) (pe_op op_mod (pe_op op_mul (pv 2) pe_int) pe_int))
    (pss_one (ps_ret (pe_op op_mod (pe_op op_add (pe_op op_mul (pe_op op_fdiv (pv 2) pe_int) pe_int) (pv 2)) pe_int)))), ?_⟩
  refine q_asg (ev_op (ev_op (ev_call (z := .int (lawCell ns k)) (ea_cons (ev_var rfl) (ea_cons (ev_var rfl) ea_nil)) (spV_call rfl fun H1 e1 => ⟨a, ns, k, rfl, ex_l e1 hS, rfl⟩)) (ev_op ev_c (ev_op (ev_var rfl) ev_c rv_I0) (rv_I (.inl ⟨by decide, by decide⟩))) rv_I0) ev_c (rv_I (by decide))) fun H1 e1 => ?_
  refine q_asg (ev_op (ev_op (ev_var rfl) ev_c (rv_I (.inr ⟨by decide, by decide⟩))) ev_c (rv_I (by decide))) fun H2 e2 => ?_
  refine s_ret (ev_op (ev_op (ev_op (ev_op (ev_var rfl) ev_c (rv_I ⟨by decide, by decide⟩)) ev_c (rv_I (.inr ⟨by decide, by decide⟩))) (ev_var rfl) rv_I0) ev_c (rv_I (by decide))) fun H3 e3 => ?_
  exact q H3 ((e1.trans e2).trans e3)
/-- whether it is an int and no truth -/
def spWhole : Sp := fun vs H Q _ => ∃ i : Int, vs = [.int i] ∧ Q (.bl true) H
theorem ok_law_whole {f : Addr} {fd : FuncData} (D : DefAt K mg "_law_whole" s_law_whole ["_law_found"] f fd) (zi : mg "isinstance" = none) (zn : mg "int" = none) (zb : mg "bool" = none) : DefOk P w K mg base 1 "_law_whole" spWhole := by
  refine ⟨_, f, fd, ?_, D.g, D.F.kp, D.b⟩
  refine D.F.ok sc_law_whole (fun vs H Q E h => by obtain ⟨i, rfl, _⟩ := h; rfl) (fun cdv A outer s H vs Q E hr h => ?_)
  obtain ⟨i, rfl, q⟩ := h
  refine ⟨_, pss_one (ps_ret (pe_and (pe_callB call_isi (by rfl) zi (by decide +kernel) (pa_cons (pv 0) (pa_cons (pe_bltn (v := .ty "int") (by rfl) zn (by decide +kernel) rfl) pa_nil)))
    (pe_one (pe_not (pe_callB call_isi (by rfl) zi (by decide +kernel) (pa_cons (pv 0) (pa_cons (pe_bltn (v := .ty "bool") (by rfl) zb (by decide +kernel) rfl) pa_nil))))))), ?_⟩
  refine ⟨_, rfl, _, _, _, _, true, rfl, .ty "int", .base (.int i), kit_ty (by decide +kernel), true, rfl, ?_⟩
  refine iteT ⟨_, rfl, _, _, _, _, false, rfl, .ty "bool", .base (.int i), kit_ty (by decide +kernel), false, rfl, ?_⟩
  exact q
end
end BB

namespace BB
open PySem PySem.Spec PyProof.Rows L2 Evl
section
variable {P : Program} {w : World} {K : PySem.W.Frag} {mg : Str → Option Value} {base : Heap}
theorem ok_law_digits {f : Addr} {fd : FuncData} (D : DefAt K mg "_law_digits" s_law_digits ["_law_number", "_law_many"] f fd) (zr : mg "range" = none) : DefOk P w K mg base 1 "_law_digits" spDigits := by
  refine ⟨_, f, fd, ?_, D.g, D.F.kp, D.b⟩
  refine D.F.ok sc_law_digits (fun vs H Q E h => h.1) (fun cdv A outer s H vs Q E hr h => ?_)
  obtain ⟨_, xs, ⟨n, m, rfl, hm, rfl⟩, q⟩ := h
  refine ⟨_, pss_cons (ps_set (i := 2) sc_law_digits.nd rfl (.inl rfl) (pe_lst pa_nil))
    (pss_cons (ps_for PassesOwn.never rfl (pi_range1 (by rfl) zr (pa_cons (pv 1) pa_nil)) (pg_name (i := 3) sc_law_digits.nd rfl (.inl rfl))
      (pss_cons (ps_set (i := 2) sc_law_digits.nd rfl (.inl rfl) (pe_op op_cat (pe_lst (pa_cons (pe_op op_mod (pv 0) pe_int) pa_nil)) (pv 2)))
        (pss_one (ps_set (i := 0) sc_law_digits.nd rfl (.inl rfl) (pe_op op_fdiv (pv 0) pe_int)))))
    (pss_one (ps_ret (pv 2)))), ?_⟩
  refine q_asgL (el_lst ea_nil (by decide)) fun p H1 hp e1 h1 => ?_
  refine q_forR1 (n := (m : Int)) (ea_cons (ev_var rfl) ea_nil) ⟨by omega, by omega⟩
    (fun i σ H' => ∃ kk p, σ = [some (.int ((n / 2 ^ i : Nat) : Int)), some (.int (m : Int)), some (.ref p), kk] ∧ H p = none ∧ Ex H H' ∧ H' p = some (.lst (bVs (digits n i))))
    (fun H2 e2 => ⟨none, p, by rw [Nat.pow_zero, Nat.div_one]; rfl, hp, e1.trans e2, e2 p _ h1⟩) ?_ ?_
  · rintro i σ H' hi ⟨kk, p, rfl, fp, e, hl⟩
    refine q_asgL (el_cat (es_of (el_lst (ea_cons (ev_op (ev_var rfl) ev_c (rv_I (by decide))) ea_nil) (by show 1 ≤ 100000; decide))) (es_v (ev_var rfl) hl) ?_) fun p2 H2 hp2 e2 h2 => ?_
    · rw [bVs_len, digits_len]
      show 1 + i ≤ 100000
      omega
    refine s_asg (ev_op (ev_var rfl) ev_c (rv_I ⟨by decide, by decide⟩)) fun H3 e3 => ?_
    refine ⟨some (.int (i : Int)), p2, ?_, fresh_back e hp2, (e.trans e2).trans e3, ?_⟩
    · show [some (V.int (((n / 2 ^ i : Nat) : Int) / 2)), some (V.int (m : Int)), some (V.ref p2), some (V.int (i : Int))] = _
      rw [bit_div]
    · rw [e3 p2 _ h2]
      show some (HO.lst ([V.int (((n / 2 ^ i : Nat) : Int) % 2)] ++ bVs (digits n i))) = _
      rw [bit_mod]
      rfl
  · rintro σ H' ⟨kk, p, rfl, fp, e, hl⟩
    exact s_ret (ev_var rfl) fun H2 e2 => q p H2 fp (e.trans e2) (e2 p _ (by simpa using hl))
/-! ### the law's division: bits, rest, wheel, k, j -/
theorem bV_add (a b : Bool) : V.int ((bI a + bI b) % 2) = bV (a != b) := by cases a <;> cases b <;> rfl
theorem bVs_set (bs : Bits) (j : Nat) (b : Bool) : (bVs bs).set j (bV b) = bVs (bs.set j b) := by
  unfold bVs
  rw [List.map_set]
def w16 : Bits := true :: wheel
theorem cut_from (xs : List V) (n : Nat) (h : n ≤ xs.length) : cutV xs (some (n : Int)) none = xs.drop n := by
  unfold cutV
  rw [HT.sIx_nat, HT.sIx_none, Nat.min_eq_left h]
  apply List.take_of_length_le
  rw [List.length_drop]
  exact Nat.le_refl _
theorem ok_law_check {f : Addr} {fd : FuncData} (D : DefAt K mg "_law_check" s_law_check ["_law_bits_here"] f fd) (dD : DefOk P w K mg base 1 "_law_digits" spDigits) (zr : mg "range" = none) (zl : mg "len" = none) (zL : mg "list" = none) :
    DefOk P w K mg base 2 "_law_check" (spCheck K) := by
  refine ⟨_, f, fd, ?_, D.g, D.F.kp, D.b⟩
  refine D.F.ok sc_law_check (fun vs H Q E h => h.1) (fun cdv A outer s H vs Q E hr h => ?_)
  obtain ⟨_, xs, ⟨a, bs, rfl, hS, hm, rfl⟩, q⟩ := h
  refine ⟨_, pss_cons (ps_set (i := 1) sc_law_check.nd rfl (.inl rfl) (pe_op op_cat (pe_callTy (listL K) (by rfl) zL (by decide +kernel) (pa_cons (pv 0) pa_nil)) (pe_op op_rep (pe_lst (pa_cons pe_int pa_nil)) pe_int)))
    (pss_cons (ps_set (i := 2) sc_law_check.nd rfl (.inl rfl) (pe_op op_cat (pe_lst (pa_cons pe_int pa_nil)) (pcal dD hr (pa_cons pe_int (pa_cons pe_int pa_nil)))))
    (pss_cons (ps_for PassesOwn.never rfl (pi_range1 (by rfl) zr (pa_cons (pe_callB (lenL K) (by rfl) zl (by decide +kernel) (pa_cons (pv 0) pa_nil)) pa_nil)) (pg_name (i := 3) sc_law_check.nd rfl (.inl rfl))
      (pss_one (ps_if (pt_cmpR op_eq (pe_ix (ixL K) (pv 1) (pv 3) (fun _ _ => rfl)) pe_int (nomark _))
        (pss_one (ps_for PassesOwn.never rfl (pi_range1 (by rfl) zr (pa_cons pe_int pa_nil)) (pg_name (i := 4) sc_law_check.nd rfl (.inl rfl))
          (pss_one (ps_asg (pe_op op_mod (pe_op op_add (pe_ix (ixL K) (pv 1) (pe_op op_add (pv 3) (pv 4)) (fun _ _ => rfl)) (pe_ix (ixL K) (pv 2) (pv 4) (fun _ _ => rfl))) pe_int) (pg_sub (pv 1) (pe_op op_add (pv 3) (pv 4)) set_list)))))
        pss_nil)))
    (pss_one (ps_ret (pe_slice (slL K) (pv 1) (po_some (pe_callB (lenL K) (by rfl) zl (by decide +kernel) (pa_cons (pv 0) pa_nil))) po_none))))), ?_⟩
  refine q_asgL (el_cat (ys := bVs (zeros 15)) (es_of (el_list (ev_var rfl) hS)) (es_of (el_is (el_rep (n := 15) (es_of (el_lst (ea_cons ev_c ea_nil) (by decide))) ev_c (by decide) (by decide)) rfl)) ?_) fun r H1 hr1 e1 h1 => ?_
  · rw [bVs_len]
    show bs.length + 15 ≤ 100000
    omega
  refine q_asgL (el_is (ys := bVs w16) (el_cat (ys := bVs wheel) (es_of (el_lst (ea_cons ev_c ea_nil) (by decide))) (es_of (el_call (ea_cons ev_c (ea_cons ev_c ea_nil)) (spL_call rfl fun H1 _ => ⟨17817, 15, rfl, by decide, rfl⟩))) (by rw [bVs_len, wheel_len]; decide)) rfl) fun wh H2 hw e2 h2 => ?_
  have hrw : r ≠ wh := ne_of_none h1 hw
  have fw : H wh = none := fresh_back e1 hw
  refine q_forR1 (n := (bs.length : Int)) (ea_cons (ev_is (ev_len (ev_var rfl) (ex_l (e1.trans e2) hS)) (by rw [bVs_len])) ea_nil) ⟨by omega, by omega⟩
    (fun i σ H' => ∃ v3 v4, σ = [some (.ref a), some (.ref r), some (.ref wh), v3, v4] ∧ Ex H H' ∧ H' wh = some (.lst (bVs w16)) ∧ ∃ pre cur : Bits, pre.length = i ∧ H' r = some (.lst (bVs (pre ++ cur))) ∧ cur.length = bs.length - i + 15 ∧ divL (bs.length - i) cur = lawCheck bs)
    (fun H3 e3 => ⟨none, none, rfl, (e1.trans e2).trans e3, e3 wh _ h2, [], bs ++ zeros 15, rfl, by rw [(e2.trans e3) r _ h1, List.nil_append, bVs_app], by simp [zeros], rfl⟩) ?_ ?_
  · rintro i σ H' hi ⟨v3, v4, rfl, e, hw', pre, cur, hp, hR, hcl, hd⟩
    have hi' : i < bs.length := by omega
    obtain ⟨m, hm1⟩ : ∃ m, bs.length - i = m + 1 := ⟨bs.length - i - 1, by omega⟩
    have hm2 : bs.length - (i + 1) = m := by omega
    cases cur with
    | nil => simp at hcl
    | cons b l =>
      have hl15 : l.length = m + 15 := by simp at hcl; omega
      have hgb : (bVs (pre ++ b :: l))[i]? = some (bV b) := bVs_get (by rw [List.getElem?_append_right (by omega), hp, Nat.sub_self]; rfl)
      rw [hm1] at hd
      refine s_when (b := b) (et_is (et_test (ev_op (ev_op (ev_var rfl) (ev_var rfl) (rv_ixL (sq_of hR) (atI_nat hgb))) ev_c (rv_eq rfl))) (by cases b <;> rfl)) (fun hb H3 e3 => ?_) (fun hb H3 e3 => ?_)
      · subst hb
        have hx0 : xp (true :: l) (w16.take 0) = true :: l := xp_nil _
        refine s_forR1 (n := 16) (ea_cons ev_c ea_nil) ⟨by decide, by decide⟩
          (fun j σ H' => ∃ v4, σ = [some (.ref a), some (.ref r), some (.ref wh), some (.int (i : Int)), v4] ∧ Ex H H' ∧ H' wh = some (.lst (bVs w16)) ∧ H' r = some (.lst (bVs (pre ++ xp (true :: l) (w16.take j)))))
          (fun H4 e4 => ⟨_, rfl, (e.trans e3).trans e4, (e3.trans e4) wh _ hw', by rw [(e3.trans e4) r _ hR, hx0]⟩) ?_ ?_
        · rintro j σ H4 hj ⟨v5, rfl, e4, hw4, hR4⟩
          have hj' : j < 16 := by omega
          obtain ⟨x, hx⟩ := get_of (l := true :: l) (k := j) (by rw [List.length_cons]; omega)
          obtain ⟨y, hy⟩ := get_of (l := w16) (k := j) (by show j < wheel.length + 1; rw [wheel_len]; exact hj')
          obtain ⟨g1, g2⟩ := xp_step _ _ _ _ _ hx hy
          have hlx : (xp (true :: l) (w16.take j)).length = l.length + 1 := xp_len _ _
          have hgx : (bVs (pre ++ xp (true :: l) (w16.take j)))[i + j]? = some (bV x) := bVs_get (by rw [List.getElem?_append_right (by omega), hp, Nat.add_sub_cancel_left]; exact g2)
          have hij : ∀ H, Ev (tOp (rI0 fun i j => V.int (i + j)) (tVar 3) (tVar 4)) ([some (.ref a), some (.ref r), some (.ref wh), some (.int (i : Int)), v5].set 4 (some (.int (j : Int)))) H (.int ((i + j : Nat) : Int)) := fun H => ev_is (ev_op (ev_var rfl) (ev_var rfl) rv_I0) (congrArg V.int (by omega))
          refine s_setL (xs := bVs (pre ++ xp (true :: l) (w16.take j))) (j := i + j) (v := bV (x != y)) hR4 ?_ (ev_var rfl) (hij _) ?_ fun H5 e5 => ?_
          · exact ev_is (ev_op (ev_op (ev_op (ev_var rfl) (hij _) (rv_ixL (sq_of hR4) (atI_nat hgx))) (ev_op (ev_var rfl) (ev_var rfl) (rv_ixL (sq_of hw4) (atI_nat (bVs_get hy)))) rv_I0) ev_c (rv_I (by decide))) (bV_add x y)
          · rw [bVs_len, List.length_append, hlx]
            omega
          · refine ⟨_, rfl, (e4.trans e5).mut hr1, ?_, ?_⟩
            · rw [upd_ne hrw.symm]
              exact e5 wh _ hw4
            · rw [upd_same, bVs_set, List.set_append_right _ _ (by omega), hp, Nat.add_sub_cancel_left, g1]
        · rintro σ H4 ⟨v5, rfl, e4, hw4, hR4⟩
          have e16 : xp (true :: l) (w16.take (16 : Int).toNat) = false :: xp l wheel := rfl
          refine ⟨_, _, rfl, e4, hw4, pre ++ [false], xp l wheel, by simp [hp], ?_, ?_, ?_⟩
          · rw [hR4, e16, List.append_assoc]
            rfl
          · rw [xp_len]
            omega
          · rw [hm2]
            exact hd
      · subst hb
        refine ⟨_, _, rfl, e.trans e3, e3 wh _ hw', pre ++ [false], l, by simp [hp], ?_, by omega, ?_⟩
        · rw [e3 r _ hR, List.append_assoc]
          rfl
        · rw [hm2]
          exact hd
  · rintro σ H' ⟨v3, v4, rfl, e, hw', pre, cur, hp, hR, hcl, hd⟩
    have hn : (bs.length : Int).toNat = bs.length := by omega
    rw [hn] at hp
    have hz : bs.length - (bs.length : Int).toNat = 0 := by omega
    rw [hz] at hd
    have hd' : cur = lawCheck bs := hd
    refine s_retL (el_is (el_sl (ev_var rfl) (eo_some (ev_len (ev_var rfl) (ex_l e hS))) eo_none (sq_of hR)) (ys := bVs (checkOf bs)) ?_) fun p H4 hp4 e4 h4 => q p H4 (fresh_back e hp4) (e.trans e4) h4
    rw [cut_from _ _ (by rw [bVs_len, bVs_len, List.length_append]; omega), bVs_len, ← hp, bVs_app, ← bVs_len pre, List.drop_left, hd', lawCheck_is]
end
end BB

namespace BB
open PySem PySem.Spec PyProof.Rows L2 Evl
section
variable {P : Program} {w : World} {K : PySem.W.Frag} {mg : Str → Option Value} {base : Heap}
/-! ### the law: script, kind, bits_here, k, number, handed, found, bit -/
def spLaw (K : PySem.W.Frag) : Sp := fun vs H Q _ => ∃ (a : Addr) (ns : List Int), vs = [.ref a] ∧ SqL K H a (ns.map V.int) ∧ ns.length ≤ 63 ∧ ∀ H', Q (.bl true) H'
theorem ev_mix {σ : L2.St} {H : Hp} {ta tb : TE} {a : Addr} {ns : List Int} {k : Int} (hS : SqL K H a (ns.map V.int)) (ha : Ev ta σ H (.ref a)) (hb : Ev tb σ H (.int k)) : Ev (tCall (spMix K) [] E0 (tCons ta (tCons tb tNil))) σ H (.int (lawMix ns k)) :=
  ev_call (ea_cons ha (ea_cons hb ea_nil)) (spV_call rfl fun H1 e1 => ⟨a, ns, k, rfl, ex_l e1 hS, rfl⟩)
theorem ok_law {f : Addr} {fd : FuncData} (F : Fun K "law" "law" s_law f fd) (dM : DefOk P w K mg base 2 "_law_mix" (spMix K)) (dC : DefOk P w K mg base 2 "check_of" (spCheck K)) (dL : DefOk P w K mg base 2 "_law_check" (spCheck K)) (dW : DefOk P w K mg base 1 "_law_whole" spWhole)
    (zr : mg "range" = none) (zi : mg "int" = none) (zL : mg "list" = none) (zI : mg "isinstance" = none) (zA : mg "all" = none) : FnOk P w K mg base CX0 3 f fd ["_law_script"] (spLaw K) := by
  refine F.ok sc_law (fun vs H Q E h => by obtain ⟨a, ns, rfl, _⟩ := h; rfl) (fun cdv A outer s H vs Q E hr h => ?_)
  obtain ⟨a, ns, rfl, hS, hlen, q⟩ := h
  refine ⟨_, pss_cons (ps_set (i := 1) sc_law.nd rfl (.inl rfl) (pe_op op_mod (pcal dM hr (pa_cons (pv 0) (pa_cons pe_int pa_nil))) pe_int))
    (pss_cons (ps_set (i := 2) sc_law.nd rfl (.inl rfl) (pe_lst pa_nil))
    (pss_cons (ps_for PassesOwn.never rfl (pi_range1 (by rfl) zr (pa_cons (pe_op op_mod (pcal dM hr (pa_cons (pv 0) (pa_cons pe_int pa_nil))) pe_int) pa_nil)) (pg_name (i := 3) sc_law.nd rfl (.inl rfl))
      (pss_cons (ps_set (i := 4) sc_law.nd rfl (.inl rfl) (pe_op op_fdiv (pcal dM hr (pa_cons (pv 0) (pa_cons (pe_op op_add pe_int (pv 3)) pa_nil))) pe_int))
      (pss_one (ps_expr (pe_bm PySem.F.plainAttrs_list PySem.F.slot_list_append PySem.F.type_list_append mt_append (pv 2) (pa_cons (pe_ix (ixL K) (pe_lst
        (pa_cons (pe_callTy call_int1 (by rfl) zi (by decide +kernel) (pa_cons (pe_cmpR op_eq (pe_op op_mod (pv 4) pe_int) pe_int (nomark _)) pa_nil))
        (pa_cons (pe_callTy call_int1 (by rfl) zi (by decide +kernel) (pa_cons (pe_cmpR op_gt (pe_op op_mod (pv 4) pe_int) pe_int (nomark _)) pa_nil))
        (pa_cons (pe_op op_mod (pv 4) pe_int) pa_nil)))) (pv 1) (fun _ _ => rfl)) pa_nil))))))
    (pss_cons (ps_set (i := 5) sc_law.nd rfl (.inl rfl) (pe_callTy (listL K) (by rfl) zL (by decide +kernel) (pa_cons (pv 2) pa_nil)))
    (pss_cons (ps_set (i := 6) sc_law.nd rfl (.inl rfl) (pcal dC hr (pa_cons (pv 5) pa_nil)))
    (pss_cons (ps_if (PW.pt (pw_or (pt_not (pt_val (pe_callB call_isi (by rfl) zI (by decide +kernel) (pa_cons (pv 6) (pa_cons (pe_bltn (v := .ty "list") (by rfl) zL (by decide +kernel) rfl) pa_nil)))))
        (pw_or1 (pt_not (pt_val (pe_callB (cr_all rfl) (by rfl) zA (by decide +kernel) (pa_cons (pe_lc (own := [("_law_bit", 7)]) (g := gName 7) (tt := tYes) rfl sc_law.nd (piL K (pv 6))
          (blkOk_by (own := [("_law_bit", 7)]) (N := ["_law_script", "_law_kind", "_law_bits_here", "_law_k", "_law_number", "_law_handed", "_law_found", "_law_bit"]) (sc := defScope s_law) (by decide +kernel))
          (fun _ _ _ _ _ => pg_name (i := 7) sc_law.nd rfl (Or.inl rfl)) (fun _ _ _ _ _ => pts_nil)
          (fun _ _ _ _ _ => pcal dW hr (pa_cons (pv 7) pa_nil))) pa_nil)))))))
        (pss_one (ps_ret pe_bl)) pss_nil)
    (pss_one (ps_ret (pe_and (pe_cmpR (eqD K hr.units) (pv 6) (pcal dL hr (pa_cons (pv 2) pa_nil)) (nomark _))
      (pe_and (pe_cmpR (eqD K hr.units) (pv 5) (pv 2) (nomark _))
      (pe_one (pe_cmpR (eqD K hr.units) (pcal dC hr (pa_cons (pe_op op_cat (pv 2) (pv 6)) pa_nil)) (pe_op op_rep (pe_lst (pa_cons pe_int pa_nil)) pe_int) (nomark _)))))))))))), ?_⟩
  obtain ⟨kd, hk⟩ : ∃ kd : Nat, (lawMix ns 0) % 3 = (kd : Int) := ⟨((lawMix ns 0) % 3).toNat, by omega⟩
  have hk3 : kd < 3 := by omega
  refine q_asg (ev_is (ev_op (ev_mix hS (ev_var rfl) ev_c) ev_c (rv_I (by decide))) (congrArg V.int hk)) fun H1 e1 => ?_
  refine q_asgL (el_lst ea_nil (by decide)) fun p H2 hp2 e2 h2 => ?_
  have fp : H p = none := fresh_back e1 hp2
  obtain ⟨mn, hn⟩ : ∃ mn : Nat, (lawMix ns 1) % 91 = (mn : Int) := ⟨((lawMix ns 1) % 91).toNat, by omega⟩
  have hn91 : mn < 91 := by omega
  refine q_forR1 (n := (mn : Int)) (ea_cons (ev_is (ev_op (ev_mix (ex_l (e1.trans e2) hS) (ev_var rfl) ev_c) ev_c (rv_I (by decide))) (congrArg V.int hn)) ea_nil) ⟨by omega, by omega⟩
    (fun i σ H' => ∃ v3 v4 bs, σ = [some (.ref a), some (.int (kd : Int)), some (.ref p), v3, v4, none, none, none] ∧ Ex H H' ∧ H' p = some (.lst (bVs bs)) ∧ bs.length = i)
    (fun H3 e3 => ⟨none, none, [], rfl, (e1.trans e2).trans e3, e3 p _ h2, rfl⟩) ?_ ?_
  · rintro i σ H' hi ⟨v3, v4, bs, rfl, e, hl, hlen'⟩
    obtain ⟨m, hm⟩ := lawMix_nat ns (2 + (i : Int))
    refine q_asg (ev_is (ev_op (ev_mix (ex_l e hS) (ev_var rfl) (ev_op ev_c (ev_var rfl) rv_I0)) ev_c (rv_I ⟨by decide, by decide⟩)) (w := .int ((m / 8 : Nat) : Int)) (by rw [hm]; rfl)) fun H3 e3 => ?_
    generalize m / 8 = m
    obtain ⟨b, hb⟩ := get_of (l := [decide (m % 9 = 0), decide (0 < m % 9), decide (m % 2 = 1)]) (k := kd) hk3
    have c1 : decide (V.int ((m : Int) % 9) = V.int 0) = decide (m % 9 = 0) := by
      by_cases h : m % 9 = 0
      · rw [decide_eq_true h, decide_eq_true (congrArg V.int (by omega))]
      · rw [decide_eq_false h, decide_eq_false (fun z => h (by have := V.int.inj z; omega))]
    have c2 : decide ((0 : Int) < (m : Int) % 9) = decide (0 < m % 9) := by
      by_cases h : 0 < m % 9
      · rw [decide_eq_true h, decide_eq_true (by omega)]
      · rw [decide_eq_false h, decide_eq_false (by omega)]
    refine s_app (v := bV b) (e3 p _ hl) (ev_var rfl) (ev_opL1 (xs := bVs [decide (m % 9 = 0), decide (0 < m % 9), decide (m % 2 = 1)])
      (el_lst (ea_cons (ev_int1 (ev_is (ev_op (ev_op (ev_var rfl) ev_c (rv_I (by decide))) ev_c (rv_eq rfl)) (congrArg V.bl c1)))
        (ea_cons (ev_int1 (ev_is (ev_op (ev_op (ev_var rfl) ev_c (rv_I (by decide))) ev_c rv_I0) (congrArg V.bl c2)))
        (ea_cons (ev_is (ev_op (ev_var rfl) ev_c (rv_I (by decide))) (congrArg V.int (bit_mod1 m))) ea_nil))) (by show 3 ≤ 100000; decide))
      (fun H4 _ => ev_var rfl) (fun q H4 hq _ => rv_ixL (sq_of hq) (atI_nat (bVs_get hb)))) (by rw [bVs_len]; omega) fun H4 e4 => ?_
    exact ⟨_, _, bs ++ [b], rfl, ((e.trans e3).trans e4).mut fp, by rw [upd_same, bVs_app]; rfl, by simp [hlen']⟩
  · rintro σ H' ⟨v3, v4, bs, rfl, e, hl, hlen'⟩
    have hbl : bs.length < 91 := by rw [hlen']; omega
    refine q_asgL (el_list (ev_var rfl) (sq_of hl)) fun h H3 hh e3 h3 => ?_
    refine q_asgL (el_call (xs := bVs (checkOf bs)) (ea_cons (ev_var rfl) ea_nil) (spL_call rfl fun H1 e1 => ⟨h, bs, rfl, sq_of (e1 h _ h3), by omega, rfl⟩)) fun c H4 hc e4 h4 => ?_
    have hl4 := (e3.trans e4) p _ hl
    have h34 := e4 h _ h3
    refine q_when (b := false) (et_is (et_or (a := false) (b := false) (et_is (et_not (et_B (ev_isList (ev_var rfl) ev_c h4))) rfl) (fun _ => et_is (et_not (a := true) (et_B (ev_is (ev_all (bs := List.replicate (bVs (checkOf bs)).length true) (es_of (el_is (el_lcL (fun _ => true) (fun _ => V.bl true) (ev_var rfl) (sq_of h4) (by rw [bVs_len, checkOf_len]; decide) (fun x => rfl) (fun i x H1 _ _ => et_yes) (fun i x H6 e6 hx _ => ?_)) (given_true _)))) (w := .bl true) (by simp)))) rfl)) rfl) (fun z => by cases z) (fun _ H5 e5 => ?_)
    · obtain ⟨b, _, rfl⟩ := bVs_inv hx
      exact fun H7 e7 Q k => ⟨_, rfl, _, rfl, k H7 (Ex.refl H7)⟩
    · have hl5 := e5 p _ hl4
      have h35 := e5 h _ h34
      have h45 := e5 c _ h4
      refine s_ret (v := .bl true) (ev_is (ev_andV (a := true) (b := true) (ev_eqB (checkOf bs) (es_v (ev_var rfl) h45) (es_of (el_call (ea_cons (ev_var rfl) ea_nil) (spL_call rfl fun H1 e1 => ⟨p, bs, rfl, sq_of (e1 p _ hl5), by omega, rfl⟩))))
        (fun _ => ev_is (ev_andV (a := true) (b := true) (ev_eqB bs (es_v (ev_var rfl) h35) (es_v (ev_var rfl) hl5)) (fun _ => ?_)) rfl)) rfl) fun H6 _ => q H6
      refine ev_eqB (zeros 15) (es_of ?_) (es_of (el_is (el_rep (n := 15) (es_of (el_lst (ea_cons ev_c ea_nil) (by decide))) ev_c (by decide) (by decide)) rfl))
      intro H6 e6 Q k
      refine el_cat (xs := bVs bs) (ys := bVs (checkOf bs)) (es_v (ev_var rfl) hl5) (es_v (ev_var rfl) h45) (by rw [bVs_len, bVs_len, checkOf_len]; omega) H6 e6 _ fun r H7 hr7 e7 h7 => ?_
      refine ⟨rfl, bVs (zeros 15), ⟨r, bs ++ checkOf bs, rfl, sq_of (by rw [h7, bVs_app]), by rw [List.length_append, checkOf_len]; omega, by rw [check_check]⟩, fun p8 H8 a b c => k p8 H8 (fresh_back e7 a) (e7.trans b) c⟩
end
end BB

namespace BB
open PySem PySem.Spec PyProof.Rows L2 Evl
theorem all_mk {P : Program} {w : World} {K : PySem.W.Frag} {h : Heap} {mg : Str → Option Value} {fa : Addr} (X : K.In h) (G : h.Ns mainGlobals mg) (hfa : mg "law" = some (.ref fa))
    {f_digits : Addr} {od_digits an_digits : Option Addr} {sl_digits : Array (Option Value)} {oc_digits kV_digits dc_digits pm_digits cd_digits ct_digits : Value}
    {f_check_of : Addr} {od_check_of an_check_of : Option Addr} {sl_check_of : Array (Option Value)} {oc_check_of kV_check_of dc_check_of pm_check_of cd_check_of ct_check_of : Value}
    {f_law_cell : Addr} {od_law_cell an_law_cell : Option Addr} {sl_law_cell : Array (Option Value)} {oc_law_cell kV_law_cell dc_law_cell pm_law_cell cd_law_cell ct_law_cell : Value}
    {f_law_mix : Addr} {od_law_mix an_law_mix : Option Addr} {sl_law_mix : Array (Option Value)} {oc_law_mix kV_law_mix dc_law_mix pm_law_mix cd_law_mix ct_law_mix : Value}
    {f_law_whole : Addr} {od_law_whole an_law_whole : Option Addr} {sl_law_whole : Array (Option Value)} {oc_law_whole kV_law_whole dc_law_whole pm_law_whole cd_law_whole ct_law_whole : Value}
    {f_law_digits : Addr} {od_law_digits an_law_digits : Option Addr} {sl_law_digits : Array (Option Value)} {oc_law_digits kV_law_digits dc_law_digits pm_law_digits cd_law_digits ct_law_digits : Value}
    {f_law_check : Addr} {od_law_check an_law_check : Option Addr} {sl_law_check : Array (Option Value)} {oc_law_check kV_law_check dc_law_check pm_law_check cd_law_check ct_law_check : Value}
    {f_law : Addr} {od_law an_law : Option Addr} {sl_law : Array (Option Value)} {oc_law kV_law dc_law pm_law cd_law ct_law : Value}
    {t_CHECK_BITS : Tok}
    {t_CHECKER : Tok}
    (a_digits : PySem.W.nsIn K mainGlobals "digits" = some (some (.ref f_digits)))
    (l_digits : K.lookup f_digits = some ⟨oc_digits, od_digits, .func (PySem.W.fnOf "digits" "digits" (defArgs s_digits) (defBody s_digits) (defScope s_digits) .none kV_digits dc_digits pm_digits an_digits cd_digits ct_digits), sl_digits⟩)
    (c_digits : PySem.W.codeIn K cd_digits "digits" = true)
    (k_digits : PySem.W.keepIn K (.ref f_digits) = true)
    (a_check_of : PySem.W.nsIn K mainGlobals "check_of" = some (some (.ref f_check_of)))
    (l_check_of : K.lookup f_check_of = some ⟨oc_check_of, od_check_of, .func (PySem.W.fnOf "check_of" "check_of" (defArgs s_check_of) (defBody s_check_of) (defScope s_check_of) .none kV_check_of dc_check_of pm_check_of an_check_of cd_check_of ct_check_of), sl_check_of⟩)
    (c_check_of : PySem.W.codeIn K cd_check_of "check_of" = true)
    (k_check_of : PySem.W.keepIn K (.ref f_check_of) = true)
    (a_law_cell : PySem.W.nsIn K mainGlobals "_law_cell" = some (some (.ref f_law_cell)))
    (l_law_cell : K.lookup f_law_cell = some ⟨oc_law_cell, od_law_cell, .func (PySem.W.fnOf "_law_cell" "_law_cell" (defArgs s_law_cell) (defBody s_law_cell) (defScope s_law_cell) .none kV_law_cell dc_law_cell pm_law_cell an_law_cell cd_law_cell ct_law_cell), sl_law_cell⟩)
    (c_law_cell : PySem.W.codeIn K cd_law_cell "_law_cell" = true)
    (k_law_cell : PySem.W.keepIn K (.ref f_law_cell) = true)
    (a_law_mix : PySem.W.nsIn K mainGlobals "_law_mix" = some (some (.ref f_law_mix)))
    (l_law_mix : K.lookup f_law_mix = some ⟨oc_law_mix, od_law_mix, .func (PySem.W.fnOf "_law_mix" "_law_mix" (defArgs s_law_mix) (defBody s_law_mix) (defScope s_law_mix) .none kV_law_mix dc_law_mix pm_law_mix an_law_mix cd_law_mix ct_law_mix), sl_law_mix⟩)
    (c_law_mix : PySem.W.codeIn K cd_law_mix "_law_mix" = true)
    (k_law_mix : PySem.W.keepIn K (.ref f_law_mix) = true)
    (a_law_whole : PySem.W.nsIn K mainGlobals "_law_whole" = some (some (.ref f_law_whole)))
    (l_law_whole : K.lookup f_law_whole = some ⟨oc_law_whole, od_law_whole, .func (PySem.W.fnOf "_law_whole" "_law_whole" (defArgs s_law_whole) (defBody s_law_whole) (defScope s_law_whole) .none kV_law_whole dc_law_whole pm_law_whole an_law_whole cd_law_whole ct_law_whole), sl_law_whole⟩)
    (c_law_whole : PySem.W.codeIn K cd_law_whole "_law_whole" = true)
    (k_law_whole : PySem.W.keepIn K (.ref f_law_whole) = true)
    (a_law_digits : PySem.W.nsIn K mainGlobals "_law_digits" = some (some (.ref f_law_digits)))
    (l_law_digits : K.lookup f_law_digits = some ⟨oc_law_digits, od_law_digits, .func (PySem.W.fnOf "_law_digits" "_law_digits" (defArgs s_law_digits) (defBody s_law_digits) (defScope s_law_digits) .none kV_law_digits dc_law_digits pm_law_digits an_law_digits cd_law_digits ct_law_digits), sl_law_digits⟩)
    (c_law_digits : PySem.W.codeIn K cd_law_digits "_law_digits" = true)
    (k_law_digits : PySem.W.keepIn K (.ref f_law_digits) = true)
    (a_law_check : PySem.W.nsIn K mainGlobals "_law_check" = some (some (.ref f_law_check)))
    (l_law_check : K.lookup f_law_check = some ⟨oc_law_check, od_law_check, .func (PySem.W.fnOf "_law_check" "_law_check" (defArgs s_law_check) (defBody s_law_check) (defScope s_law_check) .none kV_law_check dc_law_check pm_law_check an_law_check cd_law_check ct_law_check), sl_law_check⟩)
    (c_law_check : PySem.W.codeIn K cd_law_check "_law_check" = true)
    (k_law_check : PySem.W.keepIn K (.ref f_law_check) = true)
    (a_law : PySem.W.nsIn K mainGlobals "law" = some (some (.ref f_law)))
    (l_law : K.lookup f_law = some ⟨oc_law, od_law, .func (PySem.W.fnOf "law" "law" (defArgs s_law) (defBody s_law) (defScope s_law) .none kV_law dc_law pm_law an_law cd_law ct_law), sl_law⟩)
    (c_law : PySem.W.codeIn K cd_law "law" = true)
    (k_law : PySem.W.keepIn K (.ref f_law) = true)
    (y_range : PySem.W.nsIn K mainGlobals "range" = some none)
    (y_int : PySem.W.nsIn K mainGlobals "int" = some none)
    (y_list : PySem.W.nsIn K mainGlobals "list" = some none)
    (y_isinstance : PySem.W.nsIn K mainGlobals "isinstance" = some none)
    (y_all : PySem.W.nsIn K mainGlobals "all" = some none)
    (v_CHECK_BITS : PySem.W.nsIn K mainGlobals "CHECK_BITS" = some (some (.int 15 t_CHECK_BITS)))
    (v_CHECKER : PySem.W.nsIn K mainGlobals "CHECKER" = some (some (.int 17817 t_CHECKER)))
    (y_bool : PySem.W.nsIn K mainGlobals "bool" = some none)
    (y_len : PySem.W.nsIn K mainGlobals "len" = some none)
    : ∃ fd : FuncData, (∀ (s : Shared) (v : Value), BindsTo s fd ⟨[v], []⟩ [("_law_script", v)]) ∧ ∀ base : Heap, K.In base → base.Ns mainGlobals mg → FnOk P w K mg base CX0 3 fa fd ["_law_script"] (spLaw K) := by
  have e := hfa.symm.trans (PySem.W.mg_of X G a_law)
  cases e
  have D_digits : DefAt K mg "digits" s_digits ["number", "many"] f_digits _ := defAt_mk X G a_digits l_digits c_digits k_digits fun _ _ _ _ _ _ us hl => match us, hl with | [_, _], _ => rfl
  have D_check_of : DefAt K mg "check_of" s_check_of ["bits"] f_check_of _ := defAt_mk X G a_check_of l_check_of c_check_of k_check_of fun _ _ _ _ _ _ us hl => match us, hl with | [_], _ => rfl
  have D_law_cell : DefAt K mg "_law_cell" s_law_cell ["_law_script", "_law_k"] f_law_cell _ := defAt_mk X G a_law_cell l_law_cell c_law_cell k_law_cell fun _ _ _ _ _ _ us hl => match us, hl with | [_, _], _ => rfl
  have D_law_mix : DefAt K mg "_law_mix" s_law_mix ["_law_script", "_law_k"] f_law_mix _ := defAt_mk X G a_law_mix l_law_mix c_law_mix k_law_mix fun _ _ _ _ _ _ us hl => match us, hl with | [_, _], _ => rfl
  have D_law_whole : DefAt K mg "_law_whole" s_law_whole ["_law_found"] f_law_whole _ := defAt_mk X G a_law_whole l_law_whole c_law_whole k_law_whole fun _ _ _ _ _ _ us hl => match us, hl with | [_], _ => rfl
  have D_law_digits : DefAt K mg "_law_digits" s_law_digits ["_law_number", "_law_many"] f_law_digits _ := defAt_mk X G a_law_digits l_law_digits c_law_digits k_law_digits fun _ _ _ _ _ _ us hl => match us, hl with | [_, _], _ => rfl
  have D_law_check : DefAt K mg "_law_check" s_law_check ["_law_bits_here"] f_law_check _ := defAt_mk X G a_law_check l_law_check c_law_check k_law_check fun _ _ _ _ _ _ us hl => match us, hl with | [_], _ => rfl
  have z_range : mg "range" = none := PySem.W.mg_none_of X G y_range
  have z_int : mg "int" = none := PySem.W.mg_none_of X G y_int
  have z_list : mg "list" = none := PySem.W.mg_none_of X G y_list
  have z_isinstance : mg "isinstance" = none := PySem.W.mg_none_of X G y_isinstance
  have z_all : mg "all" = none := PySem.W.mg_none_of X G y_all
  have c_CHECK_BITS : ∃ t, mg "CHECK_BITS" = some (.int 15 t) := ⟨t_CHECK_BITS, PySem.W.mg_of X G v_CHECK_BITS⟩
  have c_CHECKER : ∃ t, mg "CHECKER" = some (.int 17817 t) := ⟨t_CHECKER, PySem.W.mg_of X G v_CHECKER⟩
  have z_bool : mg "bool" = none := PySem.W.mg_none_of X G y_bool
  have z_len : mg "len" = none := PySem.W.mg_none_of X G y_len
  refine ⟨PySem.W.fnOf "law" "law" (defArgs s_law) (defBody s_law) (defScope s_law) .none kV_law dc_law pm_law an_law cd_law ct_law, fun s v => .of_eq rfl, fun base _ _ => ?_⟩
  have D_law := fun_mk (st := s_law) l_law c_law k_law
  have o_digits : DefOk P w K mg base 1 "digits" spDigits := ok_digits D_digits z_range
  have o_check_of := ok_check_of (P := P) (w := w) (base := base) D_check_of o_digits z_range z_int c_CHECK_BITS c_CHECKER
  have o_cell : DefOk P w K mg base 1 "_law_cell" (spCell K) := ok_law_cell D_law_cell z_len
  have o_mix := ok_law_mix D_law_mix o_cell
  have o_whole : DefOk P w K mg base 1 "_law_whole" spWhole := ok_law_whole D_law_whole z_isinstance z_int z_bool
  have o_ldigits : DefOk P w K mg base 1 "_law_digits" spDigits := ok_law_digits D_law_digits z_range
  have o_lcheck := ok_law_check D_law_check o_ldigits z_range z_len z_list
  exact ok_law D_law o_mix o_check_of o_lcheck o_whole z_range z_int z_list z_isinstance z_all
theorem walk {l : PySem.W.OpenLaw} {q : Program} {loose : List Str} {XP : (Str → Option Value) → Heap → Prop} {YP : World → Heap → Prop} {d : DefRec} {K : Params → PySem.W.Frag} (hn : l.most = some 63) (hdf : d.params.defaults = [])
    (hY : ∀ (w : World) (h : Heap), YP w h → (K w.params).In h)
    (F : ∀ (w : World) (mg : Str → Option Value) (fa : Addr) (h : Heap), (K w.params).In h → h.Ns mainGlobals mg → mg d.name = some (.ref fa) →
      ∃ fd : FuncData, (∀ (s : Shared) (u : Value), BindsTo s fd ⟨[u], []⟩ [("_law_script", u)]) ∧ ∀ base : Heap, (K w.params).In base → base.Ns mainGlobals mg → FnOk l.prog w (K w.params) mg base CX0 3 fa fd ["_law_script"] (spLaw (K w.params))) :
    PySem.W.WalkO q loose XP YP l.row.toRowW d [] (fun f vs => PySem.call f vs) :=
  L2.walk_of (n := 63) (k := 3) (x := "_law_script") (CX := fun _ => CX0) (sp := fun w => spLaw (K w.params)) hn (by decide) hdf ⟨rfl, by decide, by decide⟩ hY F (fun _ _ a ns hl _ hS => ⟨a, ns, rfl, hS, hl, fun _ => rfl⟩) fun _ _ _ _ _ z => z
end BB
open PySem PySem.W PyProof.Rows in
set_option maxRecDepth 100000 in
set_option maxHeartbeats 0 in
theorem PySem.Challenge.cw_bitbus_k01_checks_holds : PySem.Challenge.rw_bitbus_k01_checks.Holds := by
  w_on; o_law; k_head; (case hw => w_witness2)
  k_fill
  refine BB.walk (l := PySem.Challenge.rw_bitbus_k01_checks) rfl rfl (fun w h Y => PySem.W.kIn_of Y) ?F
  case F =>
    intro w mg fa h KX G hmg
    refine' BB.all_mk KX G hmg ?a_digits ?l_digits ?c_digits ?k_digits ?a_check_of ?l_check_of ?c_check_of ?k_check_of ?a_law_cell ?l_law_cell ?c_law_cell ?k_law_cell ?a_law_mix ?l_law_mix ?c_law_mix ?k_law_mix ?a_law_whole ?l_law_whole ?c_law_whole ?k_law_whole ?a_law_digits ?l_law_digits ?c_law_digits ?k_law_digits ?a_law_check ?l_law_check ?c_law_check ?k_law_check ?a_law ?l_law ?c_law ?k_law ?y_range ?y_int ?y_list ?y_isinstance ?y_all ?v_CHECK_BITS ?v_CHECKER ?y_bool ?y_len
    (case a_digits => k_is)
    (case l_digits => k_is)
    (case c_digits => k_is)
    (case k_digits => k_is)
    (case a_check_of => k_is)
    (case l_check_of => k_is)
    (case c_check_of => k_is)
    (case k_check_of => k_is)
    (case a_law_cell => k_is)
    (case l_law_cell => k_is)
    (case c_law_cell => k_is)
    (case k_law_cell => k_is)
    (case a_law_mix => k_is)
    (case l_law_mix => k_is)
    (case c_law_mix => k_is)
    (case k_law_mix => k_is)
    (case a_law_whole => k_is)
    (case l_law_whole => k_is)
    (case c_law_whole => k_is)
    (case k_law_whole => k_is)
    (case a_law_digits => k_is)
    (case l_law_digits => k_is)
    (case c_law_digits => k_is)
    (case k_law_digits => k_is)
    (case a_law_check => k_is)
    (case l_law_check => k_is)
    (case c_law_check => k_is)
    (case k_law_check => k_is)
    (case a_law => k_is)
    (case l_law => k_is)
    (case c_law => k_is)
    (case k_law => k_is)
    (case y_range => k_is)
    (case y_int => k_is)
    (case y_list => k_is)
    (case y_isinstance => k_is)
    (case y_all => k_is)
    (case v_CHECK_BITS => k_is)
    (case v_CHECKER => k_is)
    (case y_bool => k_is)
    (case y_len => k_is)
