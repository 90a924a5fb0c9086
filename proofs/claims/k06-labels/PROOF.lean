import PyProof.Rows.All
import Wide.All
import OpenK.AllK
import Wide.FinOn
import HandS.ForMost
import HandS.ForExc
import HandS.IsInst
import HandS.Zip
import HandS.Defaults
import HandS.MakeKw
import HandS.MakeKwOnly
import HandS.Style
import HandS.TupAny
import HandS.ExcOwn
import HandS.TryMany
import KE.IntTextLaws
import KE.KIntText
import KE.Datum
import KE.KTupSum
import HandS.Walk
import KE.DataEq
import PyProof.StrOps2
import PySem.Challenge.RW_reelrows_k06_whole_labels
set_option Elab.async false
set_option linter.all false
set_option maxRecDepth 100000
set_option maxHeartbeats 4000000
namespace R
open PySem PySem.Spec PyProof.Rows L2 RZ
open PySem.W (Datum)
/-! ### what the top has left, def by def -/
structure DefAt (K : PySem.W.Frag) (mg : Str → Option Value) (x : Str) (st : Stmt) (ps : List Str) where
  a : Addr
  d : FuncData
  F : Fun K x x st a d
  g : mg x = some (.ref a)
  b : Binds K d ps []
/-- a def with parameters that are handed in by name alone -/
structure DefKAt (K : PySem.W.Frag) (mg : Str → Option Value) (x : Str) (st : Stmt) where
  a : Addr
  d : FuncData
  F : Fun K x x st a d
  g : mg x = some (.ref a)
/-- a call by keywords where some defaults are left out: their values -/
structure KBnD (K : PySem.W.Frag) (d : FuncData) (ps : List Str) (n : Nat) (ks : List Str) (g : {α : Type} → List α → List α → List α → List α) (dvs : List V) where
  mv : List Value
  h : KBn K d ps n ks (fun us ws => g us mv ws) (fun vs zs => g vs dvs zs)
/-- a def's defaults where some arguments are left out -/
structure DefB (K : PySem.W.Frag) (d : FuncData) (ps : List Str) (dvs : List V) where
  ds : List Value
  v : Vals dvs ds
  b : Binds K d ps ds
structure IntAt (mg : Str → Option Value) (x : Str) (i : Int) where
  t : Tok
  g : mg x = some (.int i t)
structure StrAt (mg : Str → Option Value) (x : Str) (z : Str) where
  t : Tok
  g : mg x = some (.str z t)
structure TupAt (K : PySem.W.Frag) (mg : Str → Option Value) (x : Str) (vs : List V) where
  a : Addr
  g : mg x = some (.ref a)
  t : ∀ H, SqT K H a vs
/-- an own exception class without own __init__ -/
structure ExcAt (K : PySem.W.Frag) (mg : Str → Option Value) (x : Str) where
  C : Addr
  g : mg x = some (.ref C)
  x : PySem.W.excIn K C [.type "ValueError", .type "Exception", .type "BaseException", .type "object"] "ValueError.__new__" = true
  k : PySem.W.keepIn K (.ref C) = true
  b : PySem.W.subIn K (.ref C) (.type "BaseException") = some true
  t : PySem.W.typeIn K (.ref C) = some (.type "type")
/-! ### texts: a list of signs -/
def S (l : List Nat) : Str := ⟨l.toArray⟩
theorem S_len (l : List Nat) : (S l).length = l.length := by simp [S, Str.length]
theorem S_cps (l : List Nat) : (S l).cps.toList = l := by simp [S]
theorem S_inj {a b : List Nat} : S a = S b ↔ a = b := by
  constructor
  · intro h
    have := congrArg (fun z => Str.cps z |>.toList) h
    simpa [S] using this
  · intro h; rw [h]
theorem S_app (a b : List Nat) : S a ++ S b = S (a ++ b) := by
  show Str.append (S a) (S b) = S (a ++ b)
  simp [Str.append, S]
theorem S_of (z : Str) : z = S z.cps.toList := by
  cases z; simp [S]
theorem S_sl (l : List Nat) (lo hi : Option Int) : cutS (S l) lo hi = S ((l.drop (HT.sIx l.length 0 lo)).take (HT.sIx l.length l.length hi - HT.sIx l.length 0 lo)) := by
  unfold cutS
  rw [S_len, S_cps]
  all_goals rfl
/-- one text times a number -/
def rMulS : R2 := fun x y H Q => ∃ z i, x = .str z ∧ y = .int i ∧ z.length = 1 ∧ -1000000 < i ∧ i < 1000000 ∧ Q (.str (S (List.replicate i.toNat (z.cps.toList.headD 0)))) H
theorem rep_one (c n : Nat) : (List.replicate n (#[c] : Array Nat)).foldl (· ++ ·) #[] = (List.replicate n c).toArray := by
  have : ∀ (a : Array Nat), (List.replicate n (#[c] : Array Nat)).foldl (· ++ ·) a = a ++ (List.replicate n c).toArray := by
    induction n with
    | zero => intro a; simp
    | succ n ih =>
      intro a
      rw [List.replicate_succ, List.foldl_cons, ih, List.replicate_succ]
      apply Array.ext'
      simp
  rw [this]; simp
theorem op_mul_str {X : Cx} : OpR X (binaryOp .Mult) rMulS := by
  intro pins s σ H x y v u Q I rx ry h
  obtain ⟨z, i, rfl, rfl, h1, lo, hi, q⟩ := h
  obtain ⟨t, rfl⟩ := rx
  obtain ⟨t', rfl⟩ := ry
  obtain ⟨c, hc⟩ : ∃ c, z = S [c] := by
    obtain ⟨⟨l⟩⟩ := z
    match l, h1 with
    | [c], _ => exact ⟨c, rfl⟩
  subst hc
  have e1 : (S [c]).length = 1 := rfl
  have hd : (S [c]).cps.toList.headD 0 = c := rfl
  rw [hd] at q
  refine PySem.P.mul_str ?_ ?_ ?_ ?_
  · rw [decide_eq_false (by omega), decide_eq_false (by omega)]; rfl
  · intro a b
    rw [e1]
    have : (1 : Int) ≤ (2 ^ 63 - 1) / i := by
      apply Int.le_ediv_of_mul_le (by omega)
      omega
    omega
  · intro a b
    rw [e1, Nat.one_mul]
    unfold PySem.Builtin.Str.tooLong
    first
      | (simp only [sizeLine_eq, decide_eq_false_iff_not]; omega)
      | (rw [decide_eq_false]; have := sizeLine_eq; omega)
  · by_cases h0 : i < 1
    · rw [if_pos h0]
      have e : i.toNat = 0 := by omega
      rw [e] at q
      exact ⟨by decide, ⟨.str (S []), H, I.tok _, ⟨_, rfl⟩, q⟩⟩
    · rw [if_neg h0]
      by_cases h2 : i = 1
      · subst h2
        rw [if_pos (by rfl)]
        exact ⟨.str (S [c]), H, I.tok _, ⟨_, rfl⟩, q⟩
      · have e2 : (i == 1 || (S [c]).length == 0) = false := by
          rw [e1]
          simp [h2]
        rw [if_neg (by rw [e2]; decide)]
        have e3 : (⟨(List.replicate i.toNat (S [c]).cps).foldl (· ++ ·) #[]⟩ : Str) = S (List.replicate i.toNat c) := by
          show (⟨(List.replicate i.toNat (#[c] : Array Nat)).foldl (· ++ ·) #[]⟩ : Str) = S (List.replicate i.toNat c)
          rw [rep_one]
          all_goals rfl
        rw [e3]
        refine ⟨?_, ⟨.str (S (List.replicate i.toNat c)), H, I.tok _, ⟨_, rfl⟩, q⟩⟩
        rw [S_len, List.length_replicate, sizeLine_eq]
        omega

/-! ### one step of a reading -/
theorem iteD {c A B : Prop} [Decidable c] (h1 : c → A) (h2 : ¬ c → B) : if decide c = true then A else B := by
  by_cases h : c
  · rw [decide_eq_true h, if_pos rfl]; exact h1 h
  · rw [decide_eq_false h, if_neg Bool.false_ne_true]; exact h2 h
theorem iteN {c A B : Prop} [Decidable c] (h1 : ¬ c → A) (h2 : c → B) : if (!decide c) = true then A else B := by
  by_cases h : c
  · rw [decide_eq_true h]; exact iteF (h2 h)
  · rw [decide_eq_false h]; exact iteT (h1 h)
theorem iteB {c : Bool} {A B : Prop} (h1 : c = true → A) (h2 : c = false → B) : if c = true then A else B := by
  cases c with
  | true => exact iteT (h1 rfl)
  | false => exact iteF (h2 rfl)
theorem iteNB {c : Bool} {A B : Prop} (h1 : c = false → A) (h2 : c = true → B) : if (!c) = true then A else B := by
  cases c with
  | true => exact iteF (h2 rfl)
  | false => exact iteT (h1 rfl)
/-! ### heaps -/
theorem same_new {H : Hp} {p : Addr} {o : HO} (h : H p = none) : Same H (upd H p o) := fun b x e => by
  rw [upd_ne (ne_of_none e h)]; exact e
theorem sql_same {K : PySem.W.Frag} {H H' : Hp} {a : Addr} {xs : List V} (h : SqL K H a xs) (e : Same H H') : SqL K H' a xs := e.seq h
theorem sqt_same {K : PySem.W.Frag} {H H' : Hp} {a : Addr} {xs : List V} (h : SqT K H a xs) (e : Same H H') : SqT K H' a xs := by
  rcases h with (h | ⟨o, h⟩) | h
  · exact .inl (.inl (e _ _ h))
  · exact .inl (.inr ⟨o, e _ _ h⟩)
  · exact .inr h
mutual
theorem dp_same {K : PySem.W.Frag} {H H' : Hp} (e : Same H H') : ∀ {x : V} {d : PyData}, Dp K H x d → Dp K H' x d
  | _, _, .non => .non
  | _, _, .bl b => .bl b
  | _, _, .int i => .int i
  | _, _, .str x => .str x
  | _, _, .lst h k => .lst (sql_same h e) (dpAll_same e k)
  | _, _, .tup h k => .tup (sqt_same h e) (dpAll_same e k)
theorem dpAll_same {K : PySem.W.Frag} {H H' : Hp} (e : Same H H') : ∀ {xs : List V} {ds : List PyData}, DpAll K H xs ds → DpAll K H' xs ds
  | _, _, .nil => .nil
  | _, _, .cons h k => .cons (dp_same e h) (dpAll_same e k)
end
theorem dp_ints {K : PySem.W.Frag} {H : Hp} : ∀ ns : List Int, DpAll K H (ns.map V.int) (ns.map Datum.toD)
  | [] => .nil
  | n :: r => .cons (.int n) (dp_ints r)
theorem dp_strs {K : PySem.W.Frag} {H : Hp} : ∀ ns : List Str, DpAll K H (ns.map V.str) (ns.map Datum.toD)
  | [] => .nil
  | n :: r => .cons (.str n) (dp_strs r)
theorem dp_intsL {K : PySem.W.Frag} {H : Hp} {a : Addr} {ns : List Int} (h : SqL K H a (ns.map V.int)) : Dp K H (.ref a) (Datum.toD ns) := .lst h (dp_ints ns)
theorem dp_strsL {K : PySem.W.Frag} {H : Hp} {a : Addr} {ns : List Str} (h : SqL K H a (ns.map V.str)) : Dp K H (.ref a) (Datum.toD ns) := .lst h (dp_strs ns)
def rEqP (K : PySem.W.Frag) : R2 := fun x y H Q => ∃ d e, Dp K H x d ∧ Dp K H y e ∧ d.plain = true ∧ e.plain = true ∧ d.depth ≤ 60 ∧ Q (.bl (PyData.eqv d e)) H
def rNeP (K : PySem.W.Frag) : R2 := fun x y H Q => ∃ d e, Dp K H x d ∧ Dp K H y e ∧ d.plain = true ∧ e.plain = true ∧ d.depth ≤ 60 ∧ Q (.bl (!PyData.eqv d e)) H
theorem op_eqP {X : Cx} (hu : X.A.units + 64 < cLine) : OpR X (compareOp .Eq) (rEqP X.K) := by
  intro pins s σ H x y v u Q I rx ry h
  obtain ⟨d, e, hd, he, sd, se, hp, q⟩ := h
  obtain ⟨as, r1⟩ := Dp.reads I d x v hd rx
  obtain ⟨bs, r2⟩ := Dp.reads I e y u he ry
  exact SeqAt.eq_plain r1 r2 sd se (by omega) ⟨.bl _, H, I, rfl, q⟩
theorem op_neP {X : Cx} (hu : X.A.units + 64 < cLine) : OpR X (compareOp .NotEq) (rNeP X.K) := by
  intro pins s σ H x y v u Q I rx ry h
  obtain ⟨d, e, hd, he, sd, se, hp, q⟩ := h
  obtain ⟨as, r1⟩ := Dp.reads I d x v hd rx
  obtain ⟨bs, r2⟩ := Dp.reads I e y u he ry
  exact SeqAt.ne_plain r1 r2 sd se (by omega) ⟨.bl _, H, I, rfl, q⟩
theorem rEqP_of {α : Type} [DecidableEq α] [Datum α] {K : PySem.W.Frag} {H : Hp} {x y : V} {a b : α} {Q : VK} (hx : Dp K H x (Datum.toD a)) (hy : Dp K H y (Datum.toD b)) (q : Q (.bl (decide (a = b))) H) (hd : Datum.depth α ≤ 60 := by decide) : rEqP K x y H Q :=
  ⟨_, _, hx, hy, Datum.plain a, Datum.plain b, Nat.le_trans (Datum.depth_le a) hd, by rw [Datum.eqv]; exact q⟩
theorem rNeP_of {α : Type} [DecidableEq α] [Datum α] {K : PySem.W.Frag} {H : Hp} {x y : V} {a b : α} {Q : VK} (hx : Dp K H x (Datum.toD a)) (hy : Dp K H y (Datum.toD b)) (q : Q (.bl (!decide (a = b))) H) (hd : Datum.depth α ≤ 60 := by decide) : rNeP K x y H Q :=
  ⟨_, _, hx, hy, Datum.plain a, Datum.plain b, Nat.le_trans (Datum.depth_le a) hd, by rw [Datum.eqv]; exact q⟩

theorem sz {n : Nat} (h : n ≤ 16777216) : n ≤ sizeLine := by rw [sizeLine_eq]; exact h
theorem szl {n : Nat} (h : n < 16777216) : n < sizeLine := by rw [sizeLine_eq]; exact h
/-! ### what kind a value is -/
inductive Pl (K : PySem.W.Frag) (H : Hp) : V → String → Prop
  | non : Pl K H .non "NoneType"
  | bl (b : Bool) : Pl K H (.bl b) "bool"
  | int (i : Int) : Pl K H (.int i) "int"
  | str (z : Str) : Pl K H (.str z) "str"
  | lst {a : Addr} {xs : List V} (h : SqL K H a xs) : Pl K H (.ref a) "list"
  | tup {a : Addr} {xs : List V} (h : SqT K H a xs) : Pl K H (.ref a) "tuple"
  | dct {a : Addr} {kvs : List (Key × V)} (h : H a = some (.dK kvs)) : Pl K H (.ref a) "dict"
theorem Pl.ty {K : PySem.W.Frag} {H : Hp} {x : V} {n : String} (h : Pl K H x n) : TyX K H x (.type n) := by
  cases h with
  | non => exact .base .non
  | bl b => exact .base (.bl b)
  | int i => exact .base (.int i)
  | str z => exact .base (.str z)
  | lst h =>
    rcases h with (h | ⟨o, h⟩) | ⟨o, its, m, hk, hc, _⟩
    · exact .base (.lst h)
    · exact .base (.frz h)
    · exact .kList hk hc
  | tup h =>
    rcases h with (h | ⟨o, h⟩) | ⟨o, its, m, hk, hc, _⟩
    · exact .base (.tup h)
    · exact .fTuple h
    · exact .kTuple hk hc
  | dct h => exact .base (.dK h)
theorem Pl.same {K : PySem.W.Frag} {H H' : Hp} {x : V} {n : String} (h : Pl K H x n) (e : Same H H') : Pl K H' x n := by
  cases h with
  | non => exact .non
  | bl b => exact .bl b
  | int i => exact .int i
  | str z => exact .str z
  | lst h => exact .lst (sql_same h e)
  | tup h => exact .tup (sqt_same h e)
  | dct h => exact .dct (e _ _ h)
theorem kit_int {K : PySem.W.Frag} {H : Hp} {x : V} {n : String} (h : Pl K H x n) : PySem.W.kitOne K (.type n) (.type "int") = some (n == "int" || n == "bool") := by
  cases h <;> exact kit_ty (by decide +kernel)
theorem kit_bool {K : PySem.W.Frag} {H : Hp} {x : V} {n : String} (h : Pl K H x n) : PySem.W.kitOne K (.type n) (.type "bool") = some (n == "bool") := by
  cases h <;> exact kit_ty (by decide +kernel)
theorem kit_str {K : PySem.W.Frag} {H : Hp} {x : V} {n : String} (h : Pl K H x n) : PySem.W.kitOne K (.type n) (.type "str") = some (n == "str") := by
  cases h <;> exact kit_ty (by decide +kernel)
theorem kit_list {K : PySem.W.Frag} {H : Hp} {x : V} {n : String} (h : Pl K H x n) : PySem.W.kitOne K (.type n) (.type "list") = some (n == "list") := by
  cases h <;> exact kit_ty (by decide +kernel)
theorem kit_tuple {K : PySem.W.Frag} {H : Hp} {x : V} {n : String} (h : Pl K H x n) : PySem.W.kitOne K (.type n) (.type "tuple") = some (n == "tuple") := by
  cases h <;> exact kit_ty (by decide +kernel)
/-! ### comprehensions whose items are told -/
theorem lc_map {J : It} {n : Nat} {G : Hp → Prop} {Y : Nat → Hp → V → Hp → Prop} (w : Walk J n G Y) {g : TG} {te : TE} {vs : List Nat} {σ : L2.St} {H1 : Hp} {D : Addr} {Qd : Hp → Prop} (ys : List V) (len : ys.length = n) (hn : n < 16777216) (nD : H1 D = none)
    (hY : ∀ i H x H', Y i H x H' → Same H H') (hG : ∀ H, Same H1 H → G H)
    (hs : ∀ i x H H' y, i < n → ys[i]? = some y → Same H1 H → Same H1 H' → Y i H x H' → ∀ Q : VK, (∀ H2, Same H' H2 → Q y H2) → g x (wipe σ vs) H' fun σ2 H2 => wipe σ2 vs = wipe σ vs ∧ te σ2 H2 Q)
    (hd : ∀ H, Same H1 H → H D = some (.lst ys) → Qd H)
    (hg : ∀ x σ H (R R' : L2.St → Hp → Prop), (∀ σ2 H2, R σ2 H2 → R' σ2 H2) → g x σ H R → g x σ H R') :
    ∃ W : Nat → Nat → Hp → Prop, (∃ m, W 0 m (upd H1 D (.lst []))) ∧ ∀ i m H, W i m H →
      (J.stop i H ∧ Qd H) ∨ (J.go i H ∧ ∃ Nx : Hp → Prop, (∀ H', Nx H' → ∃ m', m' < m ∧ W (i + 1) m' H') ∧ ∀ x H', J.yld i H x H' → g x (wipe σ vs) H' fun σ2 H2 => wipe σ2 vs = wipe σ vs ∧ tYes σ2 H2 fun b H3 =>
        if b = true then te σ2 H3 fun y H4 => ∃ acc, H4 D = some (.lst acc) ∧ acc.length < sizeLine ∧ Nx (upd H4 D (.lst (acc ++ [y]))) else Nx H3) := by
  refine lc_it w (fun i H => Same H1 H ∧ H D = some (.lst (ys.take i))) ⟨same_new nD, upd_same⟩ (fun i H _ p => hG H p.1) (fun i x H H' hi p y => ?_) (fun H p => hd H p.1 (by rw [← len, List.take_length] at p; exact p.2))
  have hi2 : i < ys.length := by omega
  have sH' := hY _ _ _ _ y
  refine hg _ _ _ _ _ (fun σ2 H2 z => z) (hs i x H H' ys[i] hi (List.getElem?_eq_getElem hi2) p.1 (p.1.trans sH') y _ fun H2 s2 => ?_)
  have hD2 : H2 D = some (.lst (ys.take i)) := s2 _ _ (sH' _ _ p.2)
  refine ⟨ys.take i, hD2, szl (by rw [List.length_take]; omega), ?_, ?_⟩
  · intro b o hb
    rw [upd_ne (ne_of_none hb nD)]
    exact s2 _ _ (sH' _ _ (p.1 _ _ hb))
  · rw [upd_same, List.take_add_one, List.getElem?_eq_getElem hi2]
    all_goals rfl
theorem gName_mono {i : Nat} : ∀ x σ H (R R' : L2.St → Hp → Prop), (∀ σ2 H2, R σ2 H2 → R' σ2 H2) → gName i x σ H R → gName i x σ H R' := fun _ _ _ _ _ h k => h _ _ k
theorem gTup2_mono {K : PySem.W.Frag} {i j : Nat} : ∀ x σ H (R R' : L2.St → Hp → Prop), (∀ σ2 H2, R σ2 H2 → R' σ2 H2) → gTup K 2 (gCons (gName i) (gCons (gName j) gNil)) x σ H R → gTup K 2 (gCons (gName i) (gCons (gName j) gNil)) x σ H R' := by
  intro x σ H R R' h ⟨a, xs, e1, e2, e3, v, r, e4, v2, r2, e5, e6, k⟩
  exact ⟨a, xs, e1, e2, e3, v, r, e4, v2, r2, e5, e6, h _ _ k⟩
theorem yat_same {xs : List V} : ∀ i H x H', YAt xs i H x H' → Same H H' := fun _ _ _ _ h => by rw [h.1]; exact Same.refl _
theorem ystr_same {z : Str} : ∀ (i : Nat) (H : Hp) (v : V) (H' : Hp), (H' = H ∧ ∃ c, z.cps[i]? = some c ∧ v = V.str ⟨#[c]⟩) → Same H H' := fun _ _ _ _ h => by rw [h.1]; exact Same.refl _
theorem yfn_same {f : Nat → V} : ∀ i H x H', YFn f i H x H' → Same H H' := fun _ _ _ _ h => by rw [h.1]; exact Same.refl _
theorem ypair_same {xs ys : Nat → Option V} : ∀ i H x H', YPair xs ys i H x H' → Same H H' := fun i H x H' h => by
  obtain ⟨T, a, b, _, h1, h2, _⟩ := h
  rw [h2]; exact same_new h1
theorem walk_zipT {K : PySem.W.Frag} {a b : Addr} {xs ys : List V} {n : Nat} (hn : n = min xs.length ys.length) : Walk (ItzT K a b) n (fun H => SqT K H a xs ∧ SqT K H b ys) (YPair (fun i => xs[i]?) (fun i => ys[i]?)) := by
  subst hn
  refine ⟨fun i _ hi q => ?_, fun _ q => ⟨xs, ys, q.1, q.2, by omega⟩, fun i H v H' _ q y => ?_⟩
  · have h1 : i < xs.length := by omega
    have h2 : i < ys.length := by omega
    exact ⟨xs, ys, xs[i], ys[i], q.1, q.2, by simp [h1], by simp [h2]⟩
  · obtain ⟨T, x, z, h1, h2, h3, h4, h5⟩ := y
    exact ⟨T, x, z, h1, h2, h3, h4 xs q.1, h5 ys q.2⟩
/-- [test of the sign for sign in a text] -/
theorem lc_signs {z : Str} {te : TE} {vs : List Nat} {σ : L2.St} {H1 : Hp} {D : Addr} {Qd : Hp → Prop} {i : Nat} (f : Nat → Bool) (hz : z.length < 16777216) (nD : H1 D = none)
    (hw : ∀ c, wipe ((wipe σ vs).set i (some (.str (S [c])))) vs = wipe σ vs)
    (hs : ∀ c H, c ∈ z.cps.toList → Same H1 H → ∀ Q : VK, (∀ H2, Same H H2 → Q (.bl (f c)) H2) → te ((wipe σ vs).set i (some (.str (S [c])))) H Q)
    (hd : ∀ H, Same H1 H → H D = some (.lst ((z.cps.toList.map f).map V.bl)) → Qd H) :
    ∃ W : Nat → Nat → Hp → Prop, (∃ m, W 0 m (upd H1 D (.lst []))) ∧ ∀ i' m H, W i' m H →
      ((Its z).stop i' H ∧ Qd H) ∨ ((Its z).go i' H ∧ ∃ Nx : Hp → Prop, (∀ H', Nx H' → ∃ m', m' < m ∧ W (i' + 1) m' H') ∧ ∀ x H', (Its z).yld i' H x H' → (gName i) x (wipe σ vs) H' fun σ2 H2 => wipe σ2 vs = wipe σ vs ∧ tYes σ2 H2 fun b H3 =>
        if b = true then te σ2 H3 fun y H4 => ∃ acc, H4 D = some (.lst acc) ∧ acc.length < sizeLine ∧ Nx (upd H4 D (.lst (acc ++ [y]))) else Nx H3) := by
  refine lc_map walk_str ((z.cps.toList.map f).map V.bl) (by simp) hz nD ystr_same (fun _ _ => trivial) (fun j x H H' y hj hy s1 s1' hY Q q => ?_) hd gName_mono
  obtain ⟨rfl, c, hc, rfl⟩ := hY
  have hc2 : z.cps.toList[j]? = some c := by rw [← hc]; simp
  have ey : y = .bl (f c) := by
    rw [List.getElem?_map, List.getElem?_map, hc2] at hy
    exact (Option.some.inj hy).symm
  subst ey
  exact ⟨hw c, hs c H' (List.mem_of_getElem? hc2) s1' Q q⟩
/-- sum of a tuple of whole numbers -/
def rSumT (K : PySem.W.Frag) : List V → Hp → VK → Prop := fun vs H Q => ∃ (a : Addr) (ns : List Int), vs = [V.ref a] ∧ SqT K H a (ns.map V.int) ∧ Q (.int ns.sum) H
theorem cr_sumT {X : Cx} (hc : X.calm = true) : CallR X (.builtin "sum") (rSumT X.K) := by
  intro pins s σ H vs us Q I r h
  obtain ⟨a, ns, rfl, hs, q⟩ := h
  obtain ⟨its, rv, hl, _⟩ := I.tuple hs
  rw [Vals.ref1 r]
  have hi : IntsAre its ns := rv.ints
  obtain ⟨xs, hx⟩ := hi.allInts.items
  have hn : numsOf its.toArray.toList = ns := by rw [show its.toArray.toList = its from rfl, hi.numsOf]
  rw [hx] at hl hn
  rw [nums_intItems] at hn
  refine PySem.W.ktm_sumG (I.ok.hd hc) hl fun h' tk t' hk => ?_
  rw [preSum_eq, List.take_of_length_le (by simp), hn]
  exact ⟨.int _, H, I.kept hk, ⟨_, rfl⟩, q⟩
end R
set_option maxRecDepth 100000
set_option maxHeartbeats 4000000
namespace R
open PySem PySem.Spec PyProof.Rows L2 RZ
open PySem.W (Datum)
open PySem.NumText
/-! ### numbers in figures -/
def dig (n : Nat) : List Nat := (Nat.toDigits 10 n).map Char.toNat
theorem dig_str (n : Nat) : Str.ofString (toString ((n : Nat) : Int)) = S (dig n) := by
  rw [S_of (Str.ofString _), PySem.W.KIN.signs_num]
  all_goals rfl
theorem dig_lt {n : Nat} (h : n < 10) : dig n = [48 + n] := by
  unfold dig
  rw [Nat.toDigits_of_lt_base h]
  have : ∀ n, n < 10 → (Nat.digitChar n).toNat = 48 + n := by decide
  rw [List.map_cons, this n h, List.map_nil]
theorem dig_step {n : Nat} (h : 10 ≤ n) : dig n = dig (n / 10) ++ [48 + n % 10] := by
  have hm : n % 10 < 10 := Nat.mod_lt n (by decide)
  have t : Nat.toDigits 10 (n / 10) ++ Nat.toDigits 10 (n % 10) = Nat.toDigits 10 (10 * (n / 10) + n % 10) := Nat.toDigits_append_toDigits (by decide) (by omega) hm
  rw [Nat.div_add_mod] at t
  have e := dig_lt hm
  unfold dig at e ⊢
  rw [← t, List.map_append, e]
theorem dig_len : ∀ (k n : Nat), n < 10 ^ (k + 1) → (dig n).length ≤ k + 1
  | 0, n, h => by rw [dig_lt (by simpa using h)]; exact Nat.le_refl _
  | k + 1, n, h => by
    by_cases h10 : n < 10
    · rw [dig_lt h10]; simp
    · rw [dig_step (by omega), List.length_append]
      have : n / 10 < 10 ^ (k + 1) := by
        rw [Nat.pow_succ] at h
        omega
      have := dig_len k (n / 10) this
      simp only [List.length_cons, List.length_nil]
      omega
theorem dig_pos : ∀ n : Nat, 1 ≤ (dig n).length := fun n => by
  by_cases h : n < 10
  · rw [dig_lt h]; exact Nat.le_refl _
  · rw [dig_step (by omega), List.length_append]; simp
theorem dig_all (n : Nat) : ∀ c ∈ dig n, 48 ≤ c ∧ c ≤ 57 := by
  induction n using Nat.strongRecOn with
  | _ n ih =>
    intro c hc
    by_cases h : n < 10
    · rw [dig_lt h, List.mem_singleton] at hc; omega
    · rw [dig_step (by omega), List.mem_append, List.mem_singleton] at hc
      rcases hc with hc | hc
      · exact ih (n / 10) (by omega) c hc
      · omega
theorem dv_snoc (l : List Nat) (c : Nat) : digitsVal (l ++ [c]) = digitsVal l * 10 + (c - 48) := by
  unfold digitsVal
  rw [List.foldl_append]
  all_goals rfl
theorem dig_val (n : Nat) : digitsVal (dig n) = n := PySem.W.KIN.val_back n
theorem dv_zeros : ∀ (k : Nat) (l : List Nat), digitsVal (List.replicate k 48 ++ l) = digitsVal l
  | 0, l => by simp
  | k + 1, l => by
    have := dv_zeros k l
    rw [List.replicate_succ, List.cons_append]
    unfold digitsVal at this ⊢
    rw [List.foldl_cons]
    exact this
/-- a number with so many figures -/
def fig (n m : Nat) : List Nat := List.replicate (m - (dig n).length) 48 ++ dig n
theorem fig_len {n m : Nat} (hm : 1 ≤ m) (h : n < 10 ^ m) : (fig n m).length = m := by
  obtain ⟨k, rfl⟩ : ∃ k, m = k + 1 := ⟨m - 1, by omega⟩
  have := dig_len k n h
  unfold fig
  rw [List.length_append, List.length_replicate]
  omega
theorem fig_all (n m : Nat) : ∀ c ∈ fig n m, 48 ≤ c ∧ c ≤ 57 := by
  intro c hc
  unfold fig at hc
  rw [List.mem_append, List.mem_replicate] at hc
  rcases hc with ⟨_, rfl⟩ | hc
  · decide
  · exact dig_all n c hc
theorem fig_val (n m : Nat) : digitsVal (fig n m) = n := by
  unfold fig
  rw [dv_zeros, dig_val]
theorem int_fig {l : List Nat} (h : ∀ c ∈ l, 48 ≤ c ∧ c ≤ 57) (h0 : l ≠ []) (h2 : l.length ≤ 600) : PySem.intText? (S l) = some ((digitsVal l : Nat) : Int) := by
  have e := @intText_digits (S l) (by rw [S_cps]; exact h) (by rw [S_cps]; exact h0) (by rw [S_len]; omega)
  rw [S_cps] at e
  exact e
/-- a name with blanks behind -/
def pad (l : List Nat) (m : Nat) : List Nat := l ++ List.replicate (m - l.length) 32
theorem pad_len {l : List Nat} {m : Nat} (h : l.length ≤ m) : (pad l m).length = m := by
  unfold pad
  rw [List.length_append, List.length_replicate]
  omega
/-- the blanks behind are taken off -/
def bareL (l : List Nat) : List Nat := (l.reverse.dropWhile (· == 32)).reverse
theorem bare_pad {l : List Nat} (m : Nat) (h : ∀ c ∈ l, c ≠ 32) : bareL (pad l m) = l := by
  unfold bareL pad
  rw [List.reverse_append, List.reverse_replicate]
  have h1 : ∀ (k : Nat) (r : List Nat), (∀ c ∈ r, c ≠ 32) → (List.replicate k 32 ++ r).dropWhile (· == 32) = r := by
    intro k
    induction k with
    | zero =>
      intro r hr
      cases r with
      | nil => rfl
      | cons x q =>
        have : x ≠ 32 := hr x List.mem_cons_self
        rw [List.replicate_zero, List.nil_append, List.dropWhile_cons_of_neg]
        simpa using this
    | succ k ih =>
      intro r hr
      rw [List.replicate_succ, List.cons_append, List.dropWhile_cons_of_pos (by decide)]
      exact ih r hr
  rw [h1 _ _ fun c hc => h c (List.mem_reverse.mp hc), List.reverse_reverse]
theorem bare_step {l : List Nat} (h : l.drop (l.length - 1) = [32]) : bareL l.dropLast = bareL l ∧ l.dropLast.length < l.length := by
  rcases List.eq_nil_or_concat l with rfl | ⟨i, c, rfl⟩
  · simp at h
  · rw [List.concat_eq_append] at h ⊢
    rw [show (i ++ [c]).length - 1 = i.length by simp, List.drop_left] at h
    cases h
    constructor
    · unfold bareL
      rw [List.dropLast_concat, List.reverse_append]
      show _ = (((32 : Nat) :: i.reverse).dropWhile (· == 32)).reverse
      rw [List.dropWhile_cons_of_pos (by decide)]
    · simp
theorem bare_stop {l : List Nat} (h : ¬ l.drop (l.length - 1) = [32]) : bareL l = l := by
  rcases List.eq_nil_or_concat l with rfl | ⟨i, c, rfl⟩
  · rfl
  · rw [List.concat_eq_append] at h ⊢
    rw [show (i ++ [c]).length - 1 = i.length by simp, List.drop_left] at h
    unfold bareL
    rw [List.reverse_append]
    show (((c : Nat) :: i.reverse).dropWhile (· == 32)).reverse = _
    rw [List.dropWhile_cons_of_neg (by simpa using h)]
    simp
theorem bare_len (l : List Nat) : (bareL l).length ≤ l.length := by
  unfold bareL
  rw [List.length_reverse]
  exact Nat.le_trans (List.Sublist.length_le (List.dropWhile_sublist _)) (by simp)
/-! ### labels -/
def longs : List Nat := [4, 4, 4, 2, 5, 5, 6]
def mosts : List Nat := [9999, 9999, 9999, 99, 99999, 99999, 999999]
def volLab (a b : List Nat) : List Nat := [86, 79, 76, 49] ++ pad a 6 ++ pad b 8
def numsLab (ns : List Nat) : List Nat := ((ns.zip longs).map fun p => fig p.1 p.2).flatten
def fileLab (k n f : List Nat) (ns : List Nat) : List Nat := k ++ pad n 8 ++ pad f 6 ++ numsLab ns
def formLab (l : List Nat) (b s : Nat) : List Nat := [72, 68, 82, 50] ++ l ++ fig b 3 ++ fig s 3
end R
set_option maxRecDepth 100000
set_option maxHeartbeats 4000000
namespace R
set_option exponentiation.threshold 2000
open PySem PySem.Spec PyProof.Rows L2 RZ
open PySem.W (Datum)
/-! ### the rules of texts, said of lists of signs -/
/-- a slice of a list of signs -/
def sl {α : Type} (l : List α) (lo hi : Option Int) : List α := (l.drop (HT.sIx l.length 0 lo)).take (HT.sIx l.length l.length hi - HT.sIx l.length 0 lo)
theorem sl_to {α : Type} (l : List α) (k : Nat) : sl l none (some (k : Int)) = l.take k := by
  unfold sl
  rw [HT.sIx_none, HT.sIx_nat, List.drop_zero, Nat.sub_zero]
  by_cases h : k ≤ l.length
  · rw [Nat.min_eq_left h]
  · rw [Nat.min_eq_right (by omega), List.take_length, List.take_of_length_le (by omega)]
theorem sl_from {α : Type} (l : List α) (k : Nat) : sl l (some (k : Int)) none = l.drop k := by
  unfold sl
  rw [HT.sIx_none, HT.sIx_nat]
  by_cases h : k ≤ l.length
  · rw [Nat.min_eq_left h, List.take_of_length_le (by rw [List.length_drop]; exact Nat.le_refl _)]
  · rw [Nat.min_eq_right (by omega), List.drop_length, List.drop_eq_nil_of_le (by omega), List.take_nil]
theorem sl_mid {α : Type} (l : List α) (j k : Nat) : sl l (some (j : Int)) (some (k : Int)) = (l.take k).drop j := by
  unfold sl
  rw [HT.sIx_nat, HT.sIx_nat, List.drop_take]
  by_cases hj : j ≤ l.length
  · rw [Nat.min_eq_left hj]
    by_cases hk : k ≤ l.length
    · rw [Nat.min_eq_left hk]
    · rw [show min k l.length = l.length by omega, List.take_of_length_le (by rw [List.length_drop]; omega), List.take_of_length_le (by rw [List.length_drop]; omega)]
  · rw [show min j l.length = l.length by omega, List.drop_length, List.drop_eq_nil_of_le (by omega), List.take_nil, List.take_nil]
theorem sl_all {α : Type} (l : List α) : sl l none none = l := by
  unfold sl
  rw [HT.sIx_none, HT.sIx_none, List.drop_zero, Nat.sub_zero, List.take_length]
theorem sl_last {α : Type} (l : List α) : sl l (some (-1)) none = l.drop (l.length - 1) := by
  unfold sl
  rw [HT.sIx_none]
  have e : HT.sIx l.length 0 (some (-1)) = l.length - 1 := by
    show (if (-1 : Int) < 0 then ((-1 : Int) + (l.length : Int)).toNat else min (-1 : Int).toNat l.length) = _
    rw [if_pos (by decide)]
    omega
  rw [e, List.take_of_length_le (by rw [List.length_drop]; omega)]
theorem sl_but {α : Type} (l : List α) : sl l none (some (-1)) = l.dropLast := by
  unfold sl
  rw [HT.sIx_none, List.drop_zero, Nat.sub_zero]
  have e : HT.sIx l.length l.length (some (-1)) = l.length - 1 := by
    show (if (-1 : Int) < 0 then ((-1 : Int) + (l.length : Int)).toNat else min (-1 : Int).toNat l.length) = _
    rw [if_pos (by decide)]
    omega
  rw [e, List.dropLast_eq_take]
theorem cutS_S (l : List Nat) (lo hi : Option Int) : cutS (S l) lo hi = S (sl l lo hi) := S_sl l lo hi
theorem sl_le {α : Type} (l : List α) (lo hi : Option Int) : (sl l lo hi).length ≤ l.length := by
  unfold sl
  rw [List.length_take, List.length_drop]
  omega
section
variable {X : Cx}
theorem pe_strS {x : Str} {l : List Nat} {j : Nat} {pos : Pos} (h : x = S l) : PE X (.Constant (.str x) j pos) (tC (.str (S l))) := by
  subst h; exact pe_str
def rAddS2 : R2 := fun x y H Q => ∃ a b : List Nat, x = .str (S a) ∧ y = .str (S b) ∧ a.length + b.length ≤ 16777216 ∧ Q (.str (S (a ++ b))) H
theorem op_addS : OpR X (binaryOp .Add) rAddS2 := fun pins s σ H x y v u Q I rx ry h => by
  obtain ⟨a, b, rfl, rfl, hz, q⟩ := h
  refine op_add_str pins s σ H _ _ v u Q I rx ry ⟨_, _, rfl, rfl, ?_, ?_⟩
  · rw [S_len, S_len]; exact sz hz
  · rw [S_app]; exact q
theorem ip_addS : PIp X .Add rAddS2 := fun pins s σ H x y v u Q I rx ry h => by
  obtain ⟨a, b, rfl, rfl, hz, q⟩ := h
  refine iop_add_str pins s σ H _ _ v u Q I rx ry ⟨_, _, rfl, rfl, ?_, ?_⟩
  · rw [S_len, S_len]; exact sz hz
  · rw [S_app]; exact q
def rMulS2 : R2 := fun x y H Q => ∃ (c : Nat) (i : Int), x = .str (S [c]) ∧ y = .int i ∧ -1000000 < i ∧ i < 1000000 ∧ Q (.str (S (List.replicate i.toNat c))) H
theorem op_mulS : OpR X (binaryOp .Mult) rMulS2 := fun pins s σ H x y v u Q I rx ry h => by
  obtain ⟨c, i, rfl, rfl, lo, hi, q⟩ := h
  exact op_mul_str pins s σ H _ _ v u Q I rx ry ⟨_, _, rfl, rfl, rfl, lo, hi, q⟩
def rLenS2 : List V → Hp → VK → Prop := fun xs H Q => ∃ l : List Nat, xs = [.str (S l)] ∧ l.length ≤ 16777216 ∧ Q (.int (l.length : Nat)) H
theorem call_lenS : CallR X (.builtin "len") rLenS2 := fun pins s σ H xs us Q I r h => by
  obtain ⟨l, rfl, hz, q⟩ := h
  refine call_len_str pins s σ H _ us Q I r ⟨_, rfl, ?_, ?_⟩
  · rw [S_len]; exact sz hz
  · rw [S_len]; exact q
def rStrN : List V → Hp → VK → Prop := fun xs H Q => ∃ n : Nat, xs = [.int (n : Int)] ∧ n < 10 ^ 10 ∧ Q (.str (S (dig n))) H
theorem call_strN : CallR X (.type "str") rStrN := fun pins s σ H xs us Q I r h => by
  obtain ⟨n, rfl, hn, q⟩ := h
  refine call_str_int pins s σ H _ us Q I r ⟨_, rfl, ?_, ?_⟩
  · have e : ((n : Int)).natAbs = n := rfl
    rw [e]
    by_cases h0 : n = 0
    · subst h0; decide
    · rw [Nat.log2_lt h0]
      exact Nat.lt_of_lt_of_le hn (Nat.le_trans (show 10 ^ 10 ≤ 2 ^ 64 by decide) (Nat.pow_le_pow_right (by decide : 0 < 2) (by decide : 64 ≤ 1920)))
  · have := dig_str n
    rw [← this] at q
    exact q
def rIntS : List V → Hp → VK → Prop := fun xs H Q => ∃ l : List Nat, xs = [.str (S l)] ∧ (∀ c ∈ l, 48 ≤ c ∧ c ≤ 57) ∧ l ≠ [] ∧ l.length ≤ 600 ∧ Q (.int (PySem.NumText.digitsVal l : Nat)) H
theorem call_intS : CallR X (.type "int") rIntS := fun pins s σ H xs us Q I r h => by
  obtain ⟨l, rfl, h1, h2, h3, q⟩ := h
  exact call_int_str pins s σ H _ us Q I r ⟨_, _, rfl, int_fig h1 h2 h3, by rw [S_len]; omega, q⟩
def rSlS2 : V → Option Int → Option Int → Hp → VK → Prop := fun x lo hi H Q => ∃ l : List Nat, x = .str (S l) ∧ l.length ≤ 16777216 ∧ Q (.str (S (sl l lo hi))) H
theorem sl_strS : SlR X rSlS2 := fun pins s σ H x v vl vu lo hi q0 Q I rx hs pl pu h => by
  obtain ⟨l, rfl, hz, q⟩ := h
  refine sl_str pins s σ H _ v vl vu lo hi q0 Q I rx hs pl pu ⟨_, rfl, ?_, ?_⟩
  · rw [S_len]; exact sz hz
  · rw [cutS_S]; exact q
def rInS2 (neg : Bool) : R2 := fun x y H Q => ∃ (c : Nat) (l : List Nat), x = .str (S [c]) ∧ y = .str (S l) ∧ Q (.bl (if neg then !decide (c ∈ l) else decide (c ∈ l))) H
theorem op_inS2 : OpR X (compareOp .In) (rInS2 false) := fun pins s σ H x y v u Q I rx ry h => by
  obtain ⟨c, l, rfl, rfl, q⟩ := h
  refine op_in_sign pins s σ H _ _ v u Q I rx ry ⟨c, S l, rfl, rfl, ?_⟩
  rw [S_cps]; exact q
theorem op_notInS2 : OpR X (compareOp .NotIn) (rInS2 true) := fun pins s σ H x y v u Q I rx ry h => by
  obtain ⟨c, l, rfl, rfl, q⟩ := h
  refine op_notIn_sign pins s σ H _ _ v u Q I rx ry ⟨c, S l, rfl, rfl, ?_⟩
  rw [S_cps]; exact q
def rEqS (neg : Bool) : R2 := fun x y H Q => ∃ a b : List Nat, x = .str (S a) ∧ y = .str (S b) ∧ Q (.bl (if neg then !decide (a = b) else decide (a = b))) H
theorem eqS_dec (a b : List Nat) : decide (V.str (S a) = V.str (S b)) = decide (a = b) := decide_eq_decide.mpr ⟨fun e => S_inj.mp (V.str.inj e), fun e => by rw [e]⟩
theorem op_eqS : OpR X (compareOp .Eq) (rEqS false) := fun pins s σ H x y v u Q I rx ry h => by
  obtain ⟨a, b, rfl, rfl, q⟩ := h
  refine op_eq pins s σ H _ _ v u Q I rx ry ⟨rfl, ?_⟩
  rw [eqS_dec]; exact q
theorem op_neS : OpR X (compareOp .NotEq) (rEqS true) := fun pins s σ H x y v u Q I rx ry h => by
  obtain ⟨a, b, rfl, rfl, q⟩ := h
  refine op_ne pins s σ H _ _ v u Q I rx ry ⟨rfl, ?_⟩
  rw [eqS_dec]; exact q
def rIxS2 : R2 := fun x y H Q => ∃ (l : List Nat) (i : Int) (c : Nat), x = .str (S l) ∧ y = .int i ∧ l.length ≤ 16777216 ∧ atI l i = some c ∧ Q (.str (S [c])) H
theorem ix_strS : IxR X rIxS2 := fun value slice pins s σ H x y v u Q I rx ry h hs => by
  obtain ⟨l, i, c, rfl, rfl, hz, he, q⟩ := h
  exact ix_str value slice pins s σ H _ _ v u Q I rx ry ⟨S l, i, c, rfl, rfl, by rw [S_len]; exact sz hz, by rw [S_cps]; exact he, q⟩ hs
def rLeS : R2 := fun x y H Q => ∃ a b : List Nat, x = .str (S a) ∧ y = .str (S b) ∧ Q (.bl (!decide (b < a))) H
theorem op_leS : OpR X (compareOp .LtE) rLeS := fun pins s σ H x y v u Q I rx ry h => by
  obtain ⟨a, b, rfl, rfl, q⟩ := h
  refine op_le_str pins s σ H _ _ v u Q I rx ry ⟨_, _, rfl, rfl, ?_⟩
  rw [S_cps, S_cps]; exact q
theorem op_geS : OpR X (compareOp .GtE) (fun x y H Q => ∃ a b : List Nat, x = .str (S a) ∧ y = .str (S b) ∧ Q (.bl (!decide (a < b))) H) := fun pins s σ H x y v u Q I rx ry h => by
  obtain ⟨a, b, rfl, rfl, q⟩ := h
  refine op_ge_str pins s σ H _ _ v u Q I rx ry ⟨_, _, rfl, rfl, ?_⟩
  rw [S_cps, S_cps]; exact q
end
theorem str_app_cps (a b : Str) : (a ++ b).cps.toList = a.cps.toList ++ b.cps.toList := by
  rw [S_of a, S_of b, S_app, S_cps, S_cps, S_cps]
theorem join_nil : ∀ ls : List (List Nat), Str.join (S []) (ls.map S) = S ls.flatten
  | [] => rfl
  | [l] => by
    show S l = S (l ++ [])
    rw [List.append_nil]
  | l :: m :: r => by
    have ih := join_nil (m :: r)
    show S l ++ S [] ++ Str.join (S []) ((m :: r).map S) = _
    rw [ih, S_app, S_app, List.append_nil]
    all_goals rfl
theorem sum_lens (ls : List (List Nat)) : ((ls.map S).map (·.length)).sum = ls.flatten.length := by
  rw [List.length_flatten, List.map_map]
  rfl
section
variable {X : Cx}
/-- "".join of a list of texts -/
def rJoinS (K : PySem.W.Frag) : V → List V → Hp → VK → Prop := fun x xs H Q => ∃ (p : Addr) (ls : List (List Nat)), x = .str (S []) ∧ xs = [.ref p] ∧ SqL K H p (ls.map fun l => V.str (S l)) ∧ ls.flatten.length ≤ 16777216 ∧ Q (.str (S ls.flatten)) H
theorem mt_joinS : MtR X "str.join" (rJoinS X.K) := fun pins s σ H x xs v us Q I rx rs h => by
  obtain ⟨p, ls, rfl, rfl, hp, hz, q⟩ := h
  refine mt_join pins s σ H _ _ v us Q I rx rs ⟨S [], p, ls.map S, rfl, rfl, .inl ?_, ?_, ?_⟩
  · rw [List.map_map]; exact hp
  · rw [sum_lens, S_len]
    simpa using hz
  · rw [TL.join_eq, join_nil]; exact q
theorem pe_joinS {o e : Expr} {to te : TE} {apos pos : Pos} (ho : PE X o to) (he : PE X e te) (hs : starEach [e] X.env = [(false, eval e X.env)] := by rfl) (hbase : attributeBase o "join" X.env (eval o X.env) = eval o X.env := by rfl) (hline : (apos.endLine == pos.line) = true := by rfl) :
    PE X (.Call (.Attribute o "join" apos) [e] [] pos) (tM1 (rJoinS X.K) to te) :=
  pe_m1 F.slot_str_join F.type_str_join mt_joinS ho he hs hbase hline
end
end R
set_option maxRecDepth 100000
set_option maxHeartbeats 4000000
namespace R
open PySem PySem.Spec PyProof.Rows L2 RZ
open PySem.W (Datum)
def topS (i : Nat) : Stmt := PySem.Challenge.pw_reelrows_k06_whole_labels.main.body.getD i (.Pass ⟨0, 0, 0, 0⟩)
abbrev s_is_whole : Stmt := topS 7
abbrev N_is_whole : List Str := ["thing", "low", "high"]
theorem sc_is_whole : FnScope ["thing", "low", "high"] ["thing", "low", "high"] (defScope s_is_whole) := ⟨rfl, rfl, rfl, by decide +kernel, rfl, by decide +kernel, by decide +kernel⟩
abbrev s_is_name : Stmt := topS 8
abbrev N_is_name : List Str := ["thing", "most", "sign"]
theorem sc_is_name : FnScope ["thing", "most", "sign"] ["thing", "most"] (defScope s_is_name) := ⟨rfl, rfl, rfl, by decide +kernel, rfl, by decide +kernel, by decide +kernel⟩
abbrev s_look_name : Stmt := topS 9
abbrev N_look_name : List Str := ["thing", "most"]
theorem sc_look_name : FnScope ["thing", "most"] ["thing", "most"] (defScope s_look_name) := ⟨rfl, rfl, rfl, by decide +kernel, rfl, by decide +kernel, by decide +kernel⟩
abbrev s_look_form : Stmt := topS 17
abbrev N_look_form : List Str := ["form", "block", "size"]
theorem sc_look_form : FnScope ["form", "block", "size"] ["form", "block", "size"] (defScope s_look_form) := ⟨rfl, rfl, rfl, by decide +kernel, rfl, by decide +kernel, by decide +kernel⟩
abbrev s_figures : Stmt := topS 18
abbrev N_figures : List Str := ["number", "many"]
theorem sc_figures : FnScope ["number", "many"] ["number", "many"] (defScope s_figures) := ⟨rfl, rfl, rfl, by decide +kernel, rfl, by decide +kernel, by decide +kernel⟩
abbrev s_padded : Stmt := topS 24
abbrev N_padded : List Str := ["name", "many"]
theorem sc_padded : FnScope ["name", "many"] ["name", "many"] (defScope s_padded) := ⟨rfl, rfl, rfl, by decide +kernel, rfl, by decide +kernel, by decide +kernel⟩
abbrev s_reel_label : Stmt := topS 25
abbrev N_reel_label : List Str := ["serial", "owner"]
theorem sc_reel_label : FnScope ["serial", "owner"] ["serial", "owner"] (defScope s_reel_label) := ⟨rfl, rfl, rfl, by decide +kernel, rfl, by decide +kernel, by decide +kernel⟩
abbrev s_file_label : Stmt := topS 26
abbrev N_file_label : List Str := ["kind", "name", "first", "numbers", "fine", "words", "one", "long", "most"]
theorem sc_file_label : FnScope ["kind", "name", "first", "numbers", "fine", "words", "one", "long", "most"] ["kind", "name", "first", "numbers"] (defScope s_file_label) := ⟨rfl, rfl, rfl, by decide +kernel, rfl, by decide +kernel, by decide +kernel⟩
abbrev s_form_label : Stmt := topS 27
abbrev N_form_label : List Str := ["form", "block", "size"]
theorem sc_form_label : FnScope ["form", "block", "size"] ["form", "block", "size"] (defScope s_form_label) := ⟨rfl, rfl, rfl, by decide +kernel, rfl, by decide +kernel, by decide +kernel⟩
abbrev s_bare : Stmt := topS 28
abbrev N_bare : List Str := ["text"]
theorem sc_bare : FnScope ["text"] ["text"] (defScope s_bare) := ⟨rfl, rfl, rfl, by decide +kernel, rfl, by decide +kernel, by decide +kernel⟩
abbrev s_number_in : Stmt := topS 29
abbrev N_number_in : List Str := ["text", "sign"]
theorem sc_number_in : FnScope ["text", "sign"] ["text"] (defScope s_number_in) := ⟨rfl, rfl, rfl, by decide +kernel, rfl, by decide +kernel, by decide +kernel⟩
abbrev s_read_reel_label : Stmt := topS 30
abbrev N_read_reel_label : List Str := ["text"]
theorem sc_read_reel_label : FnScope ["text"] ["text"] (defScope s_read_reel_label) := ⟨rfl, rfl, rfl, by decide +kernel, rfl, by decide +kernel, by decide +kernel⟩
abbrev s_read_file_label : Stmt := topS 31
abbrev N_read_file_label : List Str := ["text", "numbers", "rest", "long"]
theorem sc_read_file_label : FnScope ["text", "numbers", "rest", "long"] ["text"] (defScope s_read_file_label) := ⟨rfl, rfl, rfl, by decide +kernel, rfl, by decide +kernel, by decide +kernel⟩
abbrev s_read_form_label : Stmt := topS 32
abbrev N_read_form_label : List Str := ["text", "found", "why"]
theorem sc_read_form_label : FnScope ["text", "found", "why"] ["text"] (defScope s_read_form_label) := ⟨rfl, rfl, rfl, by decide +kernel, rfl, by decide +kernel, by decide +kernel⟩
abbrev s__law_town : Stmt := topS 34
abbrev N__law_town : List Str := ["_law_script"]
theorem sc__law_town : FnScope ["_law_script"] ["_law_script"] (defScope s__law_town) := ⟨rfl, rfl, rfl, by decide +kernel, rfl, by decide +kernel, by decide +kernel⟩
abbrev s__law_draw : Stmt := topS 35
abbrev N__law_draw : List Str := ["_law_town_here", "_law_many", "_law_row", "_law_at", "_law_cell", "_law_mixed"]
theorem sc__law_draw : FnScope ["_law_town_here", "_law_many", "_law_row", "_law_at", "_law_cell", "_law_mixed"] ["_law_town_here", "_law_many"] (defScope s__law_draw) := ⟨rfl, rfl, rfl, by decide +kernel, rfl, by decide +kernel, by decide +kernel⟩
abbrev s__law_pick : Stmt := topS 36
abbrev N__law_pick : List Str := ["_law_town_here", "_law_some"]
theorem sc__law_pick : FnScope ["_law_town_here", "_law_some"] ["_law_town_here", "_law_some"] (defScope s__law_pick) := ⟨rfl, rfl, rfl, by decide +kernel, rfl, by decide +kernel, by decide +kernel⟩
abbrev s__law_shape : Stmt := topS 37
abbrev N__law_shape : List Str := ["_law_town_here", "_law_manner", "_law_chunk"]
theorem sc__law_shape : FnScope ["_law_town_here", "_law_manner", "_law_chunk"] ["_law_town_here"] (defScope s__law_shape) := ⟨rfl, rfl, rfl, by decide +kernel, rfl, by decide +kernel, by decide +kernel⟩
abbrev s__law_figures : Stmt := topS 38
abbrev N__law_figures : List Str := ["_law_number", "_law_long"]
theorem sc__law_figures : FnScope ["_law_number", "_law_long"] ["_law_number", "_law_long"] (defScope s__law_figures) := ⟨rfl, rfl, rfl, by decide +kernel, rfl, by decide +kernel, by decide +kernel⟩
abbrev s_law : Stmt := topS 39
abbrev N_law : List Str := ["_law_script", "_law_town_here", "_law_k", "_law_name", "_law_serial", "_law_text", "_law_longs", "_law_tops", "_law_drawn", "_law_kind", "_law_due", "_law_manner", "_law_wide", "_law_extent", "_law_one", "_law_top"]
theorem sc_law : FnScope ["_law_script", "_law_town_here", "_law_k", "_law_name", "_law_serial", "_law_text", "_law_longs", "_law_tops", "_law_drawn", "_law_kind", "_law_due", "_law_manner", "_law_wide", "_law_extent", "_law_one", "_law_top"] ["_law_script"] (defScope s_law) := ⟨rfl, rfl, rfl, by decide +kernel, rfl, by decide +kernel, by decide +kernel⟩
structure Txt (K : PySem.W.Frag) (mg : Str → Option Value) where
  BadLabel : ExcAt K mg "BadLabel"
  BadName : ExcAt K mg "BadName"
  BadNumber : ExcAt K mg "BadNumber"
  BadForm : ExcAt K mg "BadForm"
  is_whole : DefAt K mg "is_whole" s_is_whole ["thing", "low", "high"]
  is_name : DefAt K mg "is_name" s_is_name ["thing", "most"]
  look_name : DefAt K mg "look_name" s_look_name ["thing", "most"]
  look_form : DefAt K mg "look_form" s_look_form ["form", "block", "size"]
  figures : DefAt K mg "figures" s_figures ["number", "many"]
  padded : DefAt K mg "padded" s_padded ["name", "many"]
  reel_label : DefAt K mg "reel_label" s_reel_label ["serial", "owner"]
  file_label : DefKAt K mg "file_label" s_file_label
  form_label : DefAt K mg "form_label" s_form_label ["form", "block", "size"]
  bare : DefAt K mg "bare" s_bare ["text"]
  number_in : DefAt K mg "number_in" s_number_in ["text"]
  read_reel_label : DefAt K mg "read_reel_label" s_read_reel_label ["text"]
  read_file_label : DefAt K mg "read_file_label" s_read_file_label ["text"]
  read_form_label : DefAt K mg "read_form_label" s_read_form_label ["text"]
  _law_town : DefAt K mg "_law_town" s__law_town ["_law_script"]
  _law_draw : DefAt K mg "_law_draw" s__law_draw ["_law_town_here", "_law_many"]
  _law_pick : DefAt K mg "_law_pick" s__law_pick ["_law_town_here", "_law_some"]
  _law_shape : DefAt K mg "_law_shape" s__law_shape ["_law_town_here"]
  _law_figures : DefAt K mg "_law_figures" s__law_figures ["_law_number", "_law_long"]
  law : DefAt K mg "law" s_law ["_law_script"]
  SIGNS : StrAt mg "SIGNS" (S [65, 66, 67, 68, 69, 70, 71, 72, 73, 74, 75, 76, 77, 78, 79, 80, 81, 82, 83, 84, 85, 86, 87, 88, 89, 90, 48, 49, 50, 51, 52, 53, 54, 55, 56, 57])
  FIXED : StrAt mg "FIXED" (S [70])
  VARIED : StrAt mg "VARIED" (S [86])
  SPANNED : StrAt mg "SPANNED" (S [83])
  FORMS : TupAt K mg "FORMS" [.str (S [70]), .str (S [86]), .str (S [83])]
  MOST_BLOCK : IntAt mg "MOST_BLOCK" 60
  MOST_SIZE : IntAt mg "MOST_SIZE" 200
  KINDS : TupAt K mg "KINDS" [.str (S [72, 68, 82, 49]), .str (S [69, 79, 70, 49]), .str (S [69, 79, 86, 49])]
  LONG : TupAt K mg "LONG" [.int 4, .int 4, .int 4, .int 2, .int 5, .int 5, .int 6]
  MOSTS : TupAt K mg "MOSTS" [.int 9999, .int 9999, .int 9999, .int 99, .int 99999, .int 99999, .int 999999]
  ZEROS : TupAt K mg "ZEROS" [.int 0, .int 0, .int 0, .int 0, .int 0, .int 0, .int 0]
  z_isinstance : mg "isinstance" = none
  z_int : mg "int" = none
  z_bool : mg "bool" = none
  z_str : mg "str" = none
  z_len : mg "len" = none
  z_all : mg "all" = none
  z_tuple : mg "tuple" = none
  z_zip : mg "zip" = none
  z_sum : mg "sum" = none
  z_list : mg "list" = none
  z_range : mg "range" = none
  kb_file_label_numbers : KBn K file_label.d ["kind", "name", "first", "numbers"] 3 ["numbers"] (fun us ws => us ++ ws) (fun us ws => us ++ ws)
  bd_file_label : DefB K file_label.d ["kind", "name", "first", "numbers"] [.ref ZEROS.a]
end R
set_option maxRecDepth 100000
set_option maxHeartbeats 4000000
namespace R
open PySem PySem.Spec PyProof.Rows L2 RZ
open PySem.W (Datum)
/-! ### the law's draws: some number below the bound; the town's two lists change, nothing else -/
def Town (H : Hp) (t r : Addr) : Prop := ∃ (c : Int) (ns : List Int), H t = some (.lst [.ref r, .int c]) ∧ H r = some (.lst (ns.map V.int)) ∧ 0 < ns.length ∧ ns.length ≤ 63
def But2 (t r : Addr) (H H' : Hp) : Prop := ∀ b o, H b = some o → b ≠ t → b ≠ r → H' b = some o
theorem But2.trans {t r : Addr} {H H1 H2 : Hp} (a : But2 t r H H1) (b : But2 t r H1 H2) : But2 t r H H2 := fun c o h h1 h2 => b c o (a c o h h1 h2) h1 h2
theorem But2.of_same {t r : Addr} {H H' : Hp} (e : Same H H') : But2 t r H H' := fun b o h _ _ => e b o h
theorem Town.same {H H' : Hp} {t r : Addr} (h : Town H t r) (e : Same H H') : Town H' t r := by
  obtain ⟨c, ns, h1, h2, h3, h4⟩ := h
  exact ⟨c, ns, e _ _ h1, e _ _ h2, h3, h4⟩
section
variable {P : Program} {w : World} {K : PySem.W.Frag} {mg : Str → Option Value} {base : Heap}
def sp__law_town (K : PySem.W.Frag) : Sp := fun vs H Q _ => ∃ (a : Addr) (ns : List Int), vs = [.ref a] ∧ SqL K H a (ns.map V.int) ∧ ns.length ≤ 63 ∧
  ∀ t r H', Same H H' → H t = none → H r = none → Town H' t r → Q (.ref t) H'
theorem ok__law_town (T : Txt K mg) : FnOk P w K mg base (L2.CX P w) 1 T._law_town.a T._law_town.d ["_law_script"] (sp__law_town K) := by
  refine T._law_town.F.okX sc__law_town (fun vs H Q E h => ?_) (fun cdv A outer s H vs Q E hr h => ?_)
  · obtain ⟨a, ns, rfl, _⟩ := h
    rfl
  · obtain ⟨a, ns, rfl, hS, hlen, k⟩ := h
    refine ⟨_, (pss_one (ps_ret (pe_lst (pa_cons (pe_ifExp (pt_cmpR (op_neP hr.units) (pv 0) (pe_lst pa_nil) (nomark _)) (pe_callTy call_list_of (by rfl) T.z_list (by decide +kernel) (pa_cons (pv 0) pa_nil)) (pe_lst (pa_cons pe_int pa_nil))) (pa_cons pe_int pa_nil))))), ?_⟩
    refine ⟨_, rfl, Nat.zero_le _, fun p np => ?_⟩
    have s1 := same_new (o := .lst []) np
    refine rNeP_of (dp_intsL (sql_same hS s1)) (dp_intsL (ns := []) (SqL.of upd_same)) ⟨_, rfl, ?_⟩
    refine iteN (fun e => ?_) (fun e => ?_)
    · refine ⟨_, rfl, a, _, rfl, .inl (sql_same hS s1), fun l nl => ?_⟩
      have s2 := s1.trans (same_new (o := .lst (ns.map V.int)) nl)
      refine ⟨(by show 2 ≤ sizeLine; decide), fun t nt => k t l _ (s2.trans (same_new nt)) (s2.free nt) (s1.free nl) ⟨0, ns, upd_same, ?_, ?_, hlen⟩⟩
      · rw [upd_ne (ne_of_none upd_same nt), upd_same]
      · cases ns with
        | nil => exact absurd rfl e
        | cons x r => exact Nat.succ_pos _
    · refine ⟨by decide, fun l nl => ?_⟩
      have s2 := s1.trans (same_new (o := .lst [.int 0]) nl)
      refine ⟨(by show 2 ≤ sizeLine; decide), fun t nt => k t l _ (s2.trans (same_new nt)) (s2.free nt) (s1.free nl) ⟨0, [0], upd_same, ?_, by decide, by decide⟩⟩
      rw [upd_ne (ne_of_none upd_same nt), upd_same]
      all_goals rfl
def sp__law_draw : Sp := fun vs H Q _ => ∃ (t r : Addr) (m : Int), vs = [.ref t, .int m] ∧ Town H t r ∧ 0 < m ∧ m < 1073741824 ∧
  ∀ z H', 0 ≤ z → z < m → But2 t r H H' → Town H' t r → Q (.int z) H'
theorem ok__law_draw (T : Txt K mg) : FnOk P w K mg base (L2.CX P w) 1 T._law_draw.a T._law_draw.d ["_law_town_here", "_law_many"] sp__law_draw := by
  refine T._law_draw.F.okX sc__law_draw (fun vs H Q E h => ?_) (fun cdv A outer s H vs Q E hr h => ?_)
  · obtain ⟨t, r, m, rfl, _⟩ := h
    rfl
  · obtain ⟨t, r, m, rfl, ⟨c, ns, ht, hrr, hpos, hlen⟩, hm, hm2, k⟩ := h
    refine ⟨_, (pss_cons (ps_set (i := 2) sc__law_draw.nd rfl (.inl rfl) (pe_ix ix_list (pv 0) pe_int (fun _ _ => rfl)))
    (pss_cons (ps_asg (pe_op op_add (pe_ix ix_list (pv 0) pe_int (fun _ _ => rfl)) pe_int) (pg_sub (pv 0) pe_int set_list))
    (pss_cons (ps_set (i := 3) sc__law_draw.nd rfl (.inl rfl) (pe_op op_mod (pe_ix ix_list (pv 0) pe_int (fun _ _ => rfl)) (pe_callB call_len_seq (by rfl) T.z_len PySem.boot_len (pa_cons (pv 2) pa_nil))))
    (pss_cons (ps_set (i := 4) sc__law_draw.nd rfl (.inl rfl) (pe_ix ix_list (pv 2) (pv 3) (fun _ _ => rfl)))
    (pss_cons (ps_if (pt_cmpR op_ge (pv 4) pe_int (nomark _))
      (pss_cons (ps_asg (pe_op op_fdiv (pv 4) (pv 1)) (pg_sub (pv 2) (pv 3) set_list))
      (pss_one (ps_ret (pe_op op_mod (pv 4) (pv 1)))))
      pss_nil)
    (pss_cons (ps_set (i := 5) sc__law_draw.nd rfl (.inl rfl) (pe_op op_mod (pe_op op_add (pv 4) (pe_op op_mul pe_int (pe_ix ix_list (pv 0) pe_int (fun _ _ => rfl)))) pe_int))
    (pss_cons (ps_set (i := 5) sc__law_draw.nd rfl (.inl rfl) (pe_op op_mod (pe_op op_pow (pv 5) pe_int) pe_int))
    (pss_one (ps_ret (pe_op op_mod (pe_op op_fdiv (pe_op op_mod (pe_op op_add (pe_op op_mul (pe_op op_fdiv (pv 5) pe_int) pe_int) (pv 5)) pe_int) pe_int) (pv 1))))))))))), ?_⟩
    refine ⟨_, rfl, t, _, 0, _, rfl, rfl, SqL.of ht, rfl, ?_⟩
    refine ⟨_, rfl, t, _, 1, _, rfl, rfl, SqL.of ht, rfl, _, _, rfl, rfl, _, rfl, t, _, 1, 1, rfl, rfl, ht, rfl, ?_⟩
    have ntr : t ≠ r := by
      intro e; subst e
      rw [ht] at hrr
      cases ns with
      | nil => exact absurd hpos (Nat.lt_irrefl _)
      | cons x q => cases hrr
    have ht1 : upd H t (HO.lst [.ref r, .int (c + 1)]) t = some (.lst [.ref r, .int (c + 1)]) := upd_same
    have hr1 : upd H t (HO.lst [.ref r, .int (c + 1)]) r = some (.lst (ns.map V.int)) := by rw [upd_ne ntr.symm]; exact hrr
    have hl0 : (0 : Int) < ((ns.map V.int).length : Int) := by rw [List.length_map]; omega
    refine ⟨_, rfl, t, _, 1, _, rfl, rfl, SqL.of ht1, rfl, _, rfl, r, _, rfl, .inl (SqL.of hr1), _, _, rfl, rfl, hl0, ?_⟩
    have h0 : 0 ≤ (c + 1) % ((ns.map V.int).length : Int) := Int.emod_nonneg _ (by omega)
    have h1 : (c + 1) % ((ns.map V.int).length : Int) < ((ns.map V.int).length : Int) := Int.emod_lt_of_pos _ hl0
    obtain ⟨j, ej⟩ : ∃ j : Nat, (c + 1) % ((ns.map V.int).length : Int) = (j : Int) := ⟨((c + 1) % ((ns.map V.int).length : Int)).toNat, by omega⟩
    have hj : j < ns.length := by rw [List.length_map] at h1 ej; omega
    have gj : (ns.map V.int)[j]? = some (.int ns[j]) := by
      rw [List.getElem?_map, List.getElem?_eq_getElem hj]
      rfl
    refine ⟨_, rfl, _, rfl, r, _, _, _, rfl, rfl, SqL.of hr1, at_of ej gj, ?_⟩
    refine ⟨_, rfl, _, _, rfl, rfl, _, rfl, iteD (fun e => ?_) (fun e => ?_)⟩
    · have ixj : ixN (ns.map V.int).length ((c + 1) % ((ns.map V.int).length : Int)) = some j := by
        rw [ej]
        unfold ixN
        rw [if_pos (by omega), if_pos (by rw [List.length_map]; omega), Int.toNat_natCast]
      refine ⟨_, rfl, _, rfl, _, _, rfl, rfl, ⟨hm, hm2⟩, _, rfl, _, rfl, r, _, _, j, rfl, rfl, hr1, ixj, ?_⟩
      refine ⟨_, rfl, _, rfl, _, _, rfl, rfl, hm, ?_⟩
      refine k _ _ (Int.emod_nonneg _ (by omega)) (Int.emod_lt_of_pos _ hm) (fun b o hb n1 n2 => ?_) ⟨c + 1, ns.set j (ns[j] / m), ?_, ?_, ?_, ?_⟩
      · rw [upd_ne n2, upd_ne n1]; exact hb
      · rw [upd_ne ntr]; exact ht1
      · rw [upd_same, List.map_set]
      · rw [List.length_set]; exact hpos
      · rw [List.length_set]; exact hlen
    · refine ⟨_, rfl, _, rfl, t, _, 1, _, rfl, rfl, SqL.of ht1, rfl, _, _, rfl, rfl, .inl ⟨by decide, by decide⟩, _, _, rfl, rfl, _, _, rfl, rfl, (show (0 : Int) < 4294967291 by decide), ?_⟩
      have b0 : 0 ≤ (ns[j] + 104729 * (c + 1)) % 4294967291 := Int.emod_nonneg _ (by decide)
      have b1 : (ns[j] + 104729 * (c + 1)) % 4294967291 < 4294967291 := Int.emod_lt_of_pos _ (by decide)
      refine ⟨_, rfl, _, _, rfl, rfl, ⟨by decide, by decide, by omega⟩, _, _, rfl, rfl, (show (0 : Int) < 4294967279 by decide), ?_⟩
      generalize ((ns[j] + 104729 * (c + 1)) % 4294967291) ^ (5 : Int).toNat = q
      have c0 : 0 ≤ q % 4294967279 := Int.emod_nonneg _ (by decide)
      have c1 : q % 4294967279 < 4294967279 := Int.emod_lt_of_pos _ (by decide)
      refine ⟨_, rfl, _, _, rfl, rfl, ⟨by decide, by decide⟩, _, _, rfl, rfl, .inr ⟨by decide, by decide⟩, _, rfl, _, _, rfl, rfl, _, _, rfl, rfl, (show (0 : Int) < 4294967231 by decide), _, _, rfl, rfl, ⟨by decide, by decide⟩, _, rfl, _, _, rfl, rfl, hm, ?_⟩
      exact k _ _ (Int.emod_nonneg _ (by omega)) (Int.emod_lt_of_pos _ hm) (fun b o hb n1 n2 => by rw [upd_ne n1]; exact hb) ⟨c + 1, ns, ht1, hr1, hpos, hlen⟩
theorem sql_but2 {t r l : Addr} {H H' : Hp} {xs : List V} (h : SqL K H l xs) (n1 : l ≠ t) (n2 : l ≠ r) (k : But2 t r H H') : SqL K H' l xs := by
  rcases h with (h | ⟨o, h⟩) | h
  · exact .inl (.inl (k _ _ h n1 n2))
  · exact .inl (.inr ⟨o, k _ _ h n1 n2⟩)
  · exact .inr h
def sp__law_pick (K : PySem.W.Frag) : Sp := fun vs H Q _ => ∃ (t r l : Addr) (xs : List V), vs = [.ref t, .ref l] ∧ Town H t r ∧ SqL K H l xs ∧ l ≠ t ∧ l ≠ r ∧ 0 < xs.length ∧ xs.length < 1000 ∧
  ∀ (j : Nat) (v : V) (H' : Hp), xs[j]? = some v → But2 t r H H' → Town H' t r → Q v H'
theorem ok__law_pick (T : Txt K mg) : FnOk P w K mg base (L2.CX P w) 2 T._law_pick.a T._law_pick.d ["_law_town_here", "_law_some"] (sp__law_pick K) := by
  refine T._law_pick.F.okX sc__law_pick (fun vs H Q E h => ?_) (fun cdv A outer s H vs Q E hr h => ?_)
  · obtain ⟨t, r, l, xs, rfl, _⟩ := h
    rfl
  · obtain ⟨t, r, l, xs, rfl, hT, hl, n1, n2, hpos, hlen, k⟩ := h
    refine ⟨_, (pss_one (ps_ret (pe_ix ix_list (pv 1) (pe_call (ok__law_draw T) (hr.mono (by decide)) (by rfl) T._law_draw.g T._law_draw.F.kp T._law_draw.b .nil passL (pa_cons (pv 0) (pa_cons (pe_callB call_len_seq (by rfl) T.z_len PySem.boot_len (pa_cons (pv 1) pa_nil)) pa_nil))) (fun _ _ => rfl)))), ?_⟩
    refine ⟨_, rfl, _, rfl, _, rfl, _, _, rfl, .inl hl, t, r, _, rfl, hT, by omega, by omega, fun z H' h0 h1 kb hT' => ?_⟩
    obtain ⟨j, ej⟩ : ∃ j : Nat, z = (j : Int) := ⟨z.toNat, by omega⟩
    have hj : j < xs.length := by omega
    exact ⟨l, _, _, xs[j], rfl, rfl, sql_but2 hl n1 n2 kb, at_of ej (List.getElem?_eq_getElem hj), k j _ _ (List.getElem?_eq_getElem hj) kb hT'⟩
end
end R
set_option maxRecDepth 100000
set_option maxHeartbeats 4000000
namespace R
open PySem PySem.Spec PyProof.Rows L2 RZ
open PySem.W (Datum)
def isWhole (x : V) (lo hi : Int) : Bool := match x with
  | .int i => decide (lo ≤ i) && decide (i ≤ hi)
  | _ => false
def sigL : List Nat := [65, 66, 67, 68, 69, 70, 71, 72, 73, 74, 75, 76, 77, 78, 79, 80, 81, 82, 83, 84, 85, 86, 87, 88, 89, 90, 48, 49, 50, 51, 52, 53, 54, 55, 56, 57]
def nameL (l : List Nat) (m : Int) : Bool := decide (1 ≤ (l.length : Int)) && decide ((l.length : Int) ≤ m) && l.all fun c => decide (c ∈ sigL)
def isName (x : V) (m : Int) : Bool := match x with
  | .str z => nameL z.cps.toList m
  | _ => false
theorem isName_S (l : List Nat) (m : Int) : isName (.str (S l)) m = nameL l m := by
  show nameL (S l).cps.toList m = nameL l m
  rw [S_cps]
/-- a text's size is bounded -/
def Sz (x : V) : Prop := match x with
  | .str z => z.length < 16777216
  | _ => True
theorem all_id_map (l : List Nat) (f : Nat → Bool) : (l.map f).all id = l.all f := by
  rw [List.all_map]
  rfl
theorem len_cps (z : Str) : z.cps.toList.length = z.length := by simp [Str.length]
section
variable {P : Program} {w : World} {K : PySem.W.Frag} {mg : Str → Option Value} {base : Heap}
def sp_is_whole (K : PySem.W.Frag) : Sp := fun vs H Q _ => ∃ (x : V) (n : String) (lo hi : Int), vs = [x, .int lo, .int hi] ∧ Pl K H x n ∧ Q (.bl (isWhole x lo hi)) H
theorem ok_is_whole (T : Txt K mg) : FnOk P w K mg base (L2.CX P w) 1 T.is_whole.a T.is_whole.d ["thing", "low", "high"] (sp_is_whole K) := by
  refine T.is_whole.F.okX sc_is_whole (fun vs H Q E h => ?_) (fun cdv A outer s H vs Q E hr h => ?_)
  · obtain ⟨x, n, lo, hi, rfl, _⟩ := h
    rfl
  · obtain ⟨x, n, lo, hi, rfl, hp, k⟩ := h
    refine ⟨_, (pss_one (ps_ret (pe_and (pe_callB call_isi (by rfl) T.z_isinstance (by decide +kernel) (pa_cons (pv 0) (pa_cons (pe_bltn (v := .ty "int") (by rfl) T.z_int (by decide +kernel) rfl) pa_nil))) (pe_and (pe_not (pe_callB call_isi (by rfl) T.z_isinstance (by decide +kernel) (pa_cons (pv 0) (pa_cons (pe_bltn (v := .ty "bool") (by rfl) T.z_bool (by decide +kernel) rfl) pa_nil)))) (pe_one (pe_chain op_le op_le (pv 1) (pv 0) (pv 2))))))), ?_⟩
    refine ⟨_, rfl, _, _, _, _, _, rfl, .ty _, hp.ty, kit_int hp, _, rfl, ?_⟩
    have stop : ∀ b, isWhole x lo hi = b → Q (.bl b) H := fun b e => by rw [← e]; exact k
    cases hp with
    | int i =>
      refine iteT ⟨_, rfl, _, _, _, _, _, rfl, .ty _, (Pl.int i).ty, kit_bool (Pl.int (K := K) (H := H) i), _, rfl, _, rfl, iteT ?_⟩
      refine ⟨_, rfl, _, rfl, _, _, rfl, rfl, _, rfl, iteD (fun e => ?_) (fun e => ?_)⟩
      · refine ⟨_, rfl, _, _, rfl, rfl, stop _ ?_⟩
        simp [isWhole, e]
      · exact stop _ (by simp [isWhole, e])
    | bl b => exact iteT ⟨_, rfl, _, _, _, _, _, rfl, .ty _, (Pl.bl b).ty, kit_bool (Pl.bl (K := K) (H := H) b), _, rfl, _, rfl, iteF (stop _ rfl)⟩
    | non => exact iteF (stop _ rfl)
    | str z => exact iteF (stop _ rfl)
    | lst h => exact iteF (stop _ rfl)
    | tup h => exact iteF (stop _ rfl)
    | dct h => exact iteF (stop _ rfl)
def sp_is_name (K : PySem.W.Frag) : Sp := fun vs H Q _ => ∃ (x : V) (n : String) (m : Int), vs = [x, .int m] ∧ Pl K H x n ∧ Sz x ∧ ∀ H', Same H H' → Q (.bl (isName x m)) H'
theorem ok_is_name (T : Txt K mg) : FnOk P w K mg base (L2.CX P w) 1 T.is_name.a T.is_name.d ["thing", "most"] (sp_is_name K) := by
  refine T.is_name.F.okX sc_is_name (fun vs H Q E h => ?_) (fun cdv A outer s H vs Q E hr h => ?_)
  · obtain ⟨x, n, m, rfl, _⟩ := h
    rfl
  · obtain ⟨x, n, m, rfl, hp, hz, k⟩ := h
    refine ⟨_, (pss_one (ps_ret (pe_and (pe_callB call_isi (by rfl) T.z_isinstance (by decide +kernel) (pa_cons (pv 0) (pa_cons (pe_bltn (v := .ty "str") (by rfl) T.z_str (by decide +kernel) rfl) pa_nil))) (pe_and (pe_chain op_le op_le pe_int (pe_callB call_lenS (by rfl) T.z_len PySem.boot_len (pa_cons (pv 0) pa_nil)) (pv 1)) (pe_one (pe_callB (cr_all rfl) (by rfl) T.z_all (by decide +kernel) (pa_cons (pe_lc (own := [("sign", 2)]) (g := gName 2) rfl sc_is_name.nd (pi_str (pv 0)) (blkOk_by (N := N_is_name) (sc := defScope s_is_name) (by decide +kernel)) (fun _ _ _ _ _ => (pg_name (i := 2) sc_is_name.nd rfl (.inl rfl))) (fun _ _ _ _ _ => pts_nil) (fun _ _ _ _ _ => (pe_cmpR op_inS2 (pv 2) (pe_glob (v := .str (S [65, 66, 67, 68, 69, 70, 71, 72, 73, 74, 75, 76, 77, 78, 79, 80, 81, 82, 83, 84, 85, 86, 87, 88, 89, 90, 48, 49, 50, 51, 52, 53, 54, 55, 56, 57])) rfl T.SIGNS.g ⟨_, rfl⟩) (by rfl)))) pa_nil))))))), ?_⟩
    refine ⟨_, rfl, _, _, _, _, _, rfl, .ty _, hp.ty, kit_str hp, _, rfl, ?_⟩
    have stop : ∀ b H', Same H H' → isName x m = b → Q (.bl b) H' := fun b H' sm e => by rw [← e]; exact k _ sm
    cases hp with
    | str z =>
      have hz2 : z.length < 16777216 := hz
      obtain ⟨l, rfl⟩ : ∃ l, z = S l := ⟨_, S_of z⟩
      rw [S_len] at hz2
      refine iteT ⟨_, rfl, l, rfl, by omega, _, _, rfl, rfl, _, rfl, iteD (fun e1 => ?_) (fun e1 => ?_)⟩
      · refine ⟨_, rfl, _, _, rfl, rfl, _, rfl, iteD (fun e2 => ?_) (fun e2 => ?_)⟩
        · refine ⟨_, rfl, _, rfl, fun D nD => lc_signs (z := S l) (fun c => decide (c ∈ sigL)) (by rw [S_len]; exact hz2) nD (fun _ => rfl) (fun c H' hc s1 Q2 q2 => ?_) (fun H' s1 hD => ?_)⟩
          · exact ⟨_, rfl, c, sigL, rfl, rfl, q2 _ (Same.refl _)⟩
          · refine ⟨_, _, rfl, SqL.of hD, ?_⟩
            refine stop _ _ s1 ?_
            rw [all_id_map]
            show nameL _ _ = _
            unfold nameL
            rw [S_cps, decide_eq_true e1, decide_eq_true e2]
            rfl
        · refine stop _ _ (Same.refl _) ?_
          show nameL _ _ = _
          unfold nameL
          rw [S_cps, decide_eq_false e2]
          simp
      · refine ⟨_, rfl, iteF (stop _ _ (Same.refl _) ?_)⟩
        show nameL _ _ = _
        unfold nameL
        rw [S_cps, decide_eq_false e1]
        simp
    | int i => exact iteF (stop _ _ (Same.refl _) rfl)
    | bl b => exact iteF (stop _ _ (Same.refl _) rfl)
    | non => exact iteF (stop _ _ (Same.refl _) rfl)
    | lst h => exact iteF (stop _ _ (Same.refl _) rfl)
    | tup h => exact iteF (stop _ _ (Same.refl _) rfl)
    | dct h => exact iteF (stop _ _ (Same.refl _) rfl)
def sp_look_name (K : PySem.W.Frag) (CN : Addr) : Sp := fun vs H Q E => ∃ (x : V) (n : String) (m : Int), vs = [x, .int m] ∧ Pl K H x n ∧ Sz x ∧ (isName x m = true → ∀ H', Same H H' → Q .non H') ∧ (isName x m = false → ∀ H', Same H H' → E (.ref CN) none H')
theorem ok_look_name (T : Txt K mg) : FnOk P w K mg base (L2.CX P w) 2 T.look_name.a T.look_name.d ["thing", "most"] (sp_look_name K T.BadName.C) := by
  refine T.look_name.F.okX sc_look_name (fun vs H Q E h => ?_) (fun cdv A outer s H vs Q E hr h => ?_)
  · obtain ⟨x, n, m, rfl, _⟩ := h
    rfl
  · obtain ⟨x, n, m, rfl, hp, hz, k1, k2⟩ := h
    refine ⟨_, (pss_one (ps_if (pt_not (pt_val (pe_call (ok_is_name T) (hr.mono (by decide)) (by rfl) T.is_name.g T.is_name.F.kp T.is_name.b .nil (passes_call (takes_of rfl rfl rfl rfl) (fun _ _ _ _ h => h)) (pa_cons (pv 0) (pa_cons (pv 1) pa_nil)))))
      (pss_one (ps_raise rfl (takes_of rfl rfl rfl rfl) (pmk_own PySem.F.excBase_ValueError T.BadName.x T.BadName.g T.BadName.k (raises_own T.BadName.b T.BadName.t) (by exact rfl))))
      pss_nil)), ?_⟩
    refine ⟨_, rfl, _, rfl, x, n, m, rfl, hp, hz, fun H' sm => ⟨_, rfl, iteNB (fun e => ?_) (fun e => ?_)⟩⟩
    · exact k2 e _ sm
    · exact k1 e _ sm
end
end R
set_option maxRecDepth 100000
set_option maxHeartbeats 4000000
namespace R
open PySem PySem.Spec PyProof.Rows L2 RZ
open PySem.W (Datum)
def isForm (l : List Nat) : Bool := decide (l = [70]) || (decide (l = [86]) || decide (l = [83]))
/-- form, block, size fit -/
def okSizes (l : List Nat) (b s : Int) : Bool := !(decide (l = [70]) && decide (b < s) || decide (l = [86]) && decide (b < s + 3))
def okForm (x b s : V) : Bool := match x, b, s with
  | .str z, .int b, .int s => isForm z.cps.toList && (isWhole (.int b) 5 60 && (isWhole (.int s) 1 200 && okSizes z.cps.toList b s))
  | _, _, _ => false
theorem inForms (l : List Nat) : inV (.str (S l)) [.str (S [70]), .str (S [86]), .str (S [83])] = isForm l := by
  have h : ∀ k : List Nat, eqV (.str (S k)) (.str (S l)) = decide (l = k) := by
    intro k
    show (S k == S l) = _
    rw [Bool.eq_iff_iff, beq_iff_eq, decide_eq_true_eq, S_inj]
    exact ⟨fun e => e.symm, fun e => e.symm⟩
  unfold inV isForm
  rw [List.any_cons, List.any_cons, List.any_cons, List.any_nil, h, h, h, Bool.or_false]
theorem whole_int {x : V} {lo hi : Int} (h : isWhole x lo hi = true) : ∃ i, x = .int i ∧ lo ≤ i ∧ i ≤ hi := by
  cases x with
  | int i =>
    have h' : (decide (lo ≤ i) && decide (i ≤ hi)) = true := h
    rw [Bool.and_eq_true, decide_eq_true_eq, decide_eq_true_eq] at h'
    exact ⟨i, rfl, h'⟩
  | _ => exact nomatch h
theorem okForm_iff {x b s : V} (h : okForm x b s = true) : ∃ (l : List Nat) (bi si : Nat), x = .str (S l) ∧ b = .int bi ∧ s = .int si ∧ isForm l = true ∧ 5 ≤ bi ∧ bi ≤ 60 ∧ 1 ≤ si ∧ si ≤ 200 ∧ okSizes l bi si = true := by
  unfold okForm at h
  split at h
  · rename_i z b s
    rw [Bool.and_eq_true, Bool.and_eq_true, Bool.and_eq_true] at h
    obtain ⟨h1, h2, h3, h4⟩ := h
    obtain ⟨i, e, h5, h6⟩ := whole_int h2
    obtain ⟨j, e', h7, h8⟩ := whole_int h3
    cases e
    cases e'
    have eb : ((b.toNat : Nat) : Int) = b := by omega
    have es : ((s.toNat : Nat) : Int) = s := by omega
    exact ⟨z.cps.toList, b.toNat, s.toNat, by rw [← S_of], by rw [eb], by rw [es], h1, by omega, by omega, by omega, by omega, by rw [eb, es]; exact h4⟩
  · exact nomatch h
theorem okForm_of {l : List Nat} {b s : Nat} (h1 : isForm l = true) (h2 : 5 ≤ b ∧ b ≤ 60) (h3 : 1 ≤ s ∧ s ≤ 200) (h4 : okSizes l b s = true) : okForm (.str (S l)) (.int b) (.int s) = true := by
  show (isForm (S l).cps.toList && (isWhole (.int b) 5 60 && (isWhole (.int s) 1 200 && okSizes (S l).cps.toList b s))) = true
  rw [S_cps, h1, h4]
  have e1 : isWhole (.int (b : Int)) 5 60 = true := by
    show (decide (5 ≤ (b : Int)) && decide ((b : Int) ≤ 60)) = true
    rw [decide_eq_true (by omega), decide_eq_true (by omega)]; rfl
  have e2 : isWhole (.int (s : Int)) 1 200 = true := by
    show (decide (1 ≤ (s : Int)) && decide ((s : Int) ≤ 200)) = true
    rw [decide_eq_true (by omega), decide_eq_true (by omega)]; rfl
  rw [e1, e2]; rfl
theorem iteOr {c d : Bool} {A B : Prop} (h1 : (c || d) = true → A) (h2 : (c || d) = false → B) : if c = true then (if true = true then A else B) else (if d = true then A else B) := by
  cases c with
  | true => exact iteT (iteT (h1 rfl))
  | false =>
    cases d with
    | true => exact iteF (iteT (h1 rfl))
    | false => exact iteF (iteF (h2 rfl))
section
variable {P : Program} {w : World} {K : PySem.W.Frag} {mg : Str → Option Value} {base : Heap}
def sp_look_form (K : PySem.W.Frag) (CF : Addr) : Sp := fun vs H Q E => ∃ (x b s : V) (n m o : String), vs = [x, b, s] ∧ Pl K H x n ∧ Pl K H b m ∧ Pl K H s o ∧ (okForm x b s = true → Q .non H) ∧ (okForm x b s = false → E (.ref CF) none H)
theorem ok_look_form (T : Txt K mg) : FnOk P w K mg base (L2.CX P w) 2 T.look_form.a T.look_form.d ["form", "block", "size"] (sp_look_form K T.BadForm.C) := by
  refine T.look_form.F.okX sc_look_form (fun vs H Q E h => ?_) (fun cdv A outer s0 H vs Q E hr h => ?_)
  · obtain ⟨x, b, s, n, m, o, rfl, _⟩ := h
    rfl
  · obtain ⟨x, b, s, n, m, o, rfl, hx, hb, hs, k1, k2⟩ := h
    refine ⟨_, (pss_cons (ps_if (PW.pt (pw_or (pt_not (pt_val (pe_callB call_isi (by rfl) T.z_isinstance (by decide +kernel) (pa_cons (pv 0) (pa_cons (pe_bltn (v := .ty "str") (by rfl) T.z_str (by decide +kernel) rfl) pa_nil))))) (pw_or1 (pt_cmpR op_notIn_seq (pv 0) (pe_glob (v := .ref T.FORMS.a) rfl T.FORMS.g rfl) (by rfl)))))
      (pss_one (ps_raise rfl (takes_of rfl rfl rfl rfl) (pmk_own PySem.F.excBase_ValueError T.BadForm.x T.BadForm.g T.BadForm.k (raises_own T.BadForm.b T.BadForm.t) (by exact rfl))))
      pss_nil)
    (pss_cons (ps_if (PW.pt (pw_or (pt_not (pt_val (pe_call (ok_is_whole T) (hr.mono (by decide)) (by rfl) T.is_whole.g T.is_whole.F.kp T.is_whole.b .nil (passes_call (takes_of rfl rfl rfl rfl) (fun _ _ _ _ h => h)) (pa_cons (pv 1) (pa_cons pe_int (pa_cons (pe_glob (v := .int 60) rfl T.MOST_BLOCK.g ⟨_, rfl⟩) pa_nil)))))) (pw_or1 (pt_not (pt_val (pe_call (ok_is_whole T) (hr.mono (by decide)) (by rfl) T.is_whole.g T.is_whole.F.kp T.is_whole.b .nil (passes_call (takes_of rfl rfl rfl rfl) (fun _ _ _ _ h => h)) (pa_cons (pv 2) (pa_cons pe_int (pa_cons (pe_glob (v := .int 200) rfl T.MOST_SIZE.g ⟨_, rfl⟩) pa_nil)))))))))
      (pss_one (ps_raise rfl (takes_of rfl rfl rfl rfl) (pmk_own PySem.F.excBase_ValueError T.BadForm.x T.BadForm.g T.BadForm.k (raises_own T.BadForm.b T.BadForm.t) (by exact rfl))))
      pss_nil)
    (pss_one (ps_if (PW.pt (pw_or (PW.pt (pw_and (pt_cmpR op_eqS (pv 0) (pe_glob (v := .str (S [70])) rfl T.FIXED.g ⟨_, rfl⟩) (nomark _)) (pw_and1 (pt_cmpR op_gt (pv 2) (pv 1) (nomark _))))) (pw_or1 (PW.pt (pw_and (pt_cmpR op_eqS (pv 0) (pe_glob (v := .str (S [86])) rfl T.VARIED.g ⟨_, rfl⟩) (nomark _)) (pw_and1 (pt_cmpR op_gt (pe_op op_add (pv 2) pe_int) (pv 1) (nomark _))))))))
      (pss_one (ps_raise rfl (takes_of rfl rfl rfl rfl) (pmk_own PySem.F.excBase_ValueError T.BadForm.x T.BadForm.g T.BadForm.k (raises_own T.BadForm.b T.BadForm.t) (by exact rfl))))
      pss_nil)))), ?_⟩
    refine ⟨_, rfl, _, _, _, _, _, rfl, .ty _, hx.ty, kit_str hx, _, rfl, ?_⟩
    cases hx with
    | str z =>
      obtain ⟨l, rfl⟩ : ∃ l, z = S l := ⟨_, S_of z⟩
      refine iteF ⟨_, rfl, T.FORMS.a, _, rfl, .inr (T.FORMS.t _), rfl, rfl, _, rfl, ?_⟩
      show if (!inV (.str (S l)) [.str (S [70]), .str (S [86]), .str (S [83])]) = true then _ else _
      rw [inForms]
      refine iteNB (fun e1 => ?_) (fun e1 => ?_)
      · refine k2 ?_
        cases b <;> cases s <;> try rfl
        show (isForm (S l).cps.toList && _) = false
        rw [S_cps, e1]; rfl
      · refine ⟨_, rfl, b, m, 5, 60, rfl, hb, _, rfl, ?_⟩
        cases e2 : isWhole b 5 60 with
        | false =>
          refine iteT (iteT (k2 ?_))
          cases b <;> cases s <;> try rfl
          show (isForm (S l).cps.toList && (isWhole _ 5 60 && _)) = false
          rw [e2]; simp
        | true =>
          refine iteF ⟨_, rfl, s, o, 1, 200, rfl, hs, _, rfl, ?_⟩
          cases e3 : isWhole s 1 200 with
          | false =>
            refine iteT (k2 ?_)
            cases b <;> cases s <;> try rfl
            show (isForm (S l).cps.toList && (isWhole _ 5 60 && (isWhole _ 1 200 && _))) = false
            rw [e3]; simp
          | true =>
            refine iteF ?_
            obtain ⟨bi, rfl, hb1, hb2⟩ := whole_int e2
            obtain ⟨si, rfl, hs1, hs2⟩ := whole_int e3
            have eo : okForm (.str (S l)) (.int bi) (.int si) = okSizes l bi si := by
              show (isForm (S l).cps.toList && (isWhole (.int bi) 5 60 && (isWhole (.int si) 1 200 && okSizes (S l).cps.toList bi si))) = _
              rw [S_cps, e1, e2, e3]; rfl
            rw [eo] at k1 k2
            refine ⟨_, rfl, l, [70], rfl, rfl, _, rfl, ?_⟩
            by_cases c1 : l = [70]
            · have c2 : ¬ l = [86] := by rw [c1]; decide
              rw [decide_eq_true c1]
              refine iteT ⟨_, rfl, _, rfl, _, _, rfl, rfl, _, rfl, iteD (fun c3 => ?_) (fun c3 => ?_)⟩
              · refine iteT (k2 ?_)
                unfold okSizes
                rw [decide_eq_true c1, decide_eq_true c3]; rfl
              · refine ⟨_, rfl, l, [86], rfl, rfl, _, rfl, ?_⟩
                rw [decide_eq_false c2]
                refine iteF (iteF (k1 ?_))
                unfold okSizes
                rw [decide_eq_true c1, decide_eq_false c3, decide_eq_false c2]; rfl
            · rw [decide_eq_false c1]
              refine iteF (iteF ⟨_, rfl, l, [86], rfl, rfl, _, rfl, ?_⟩)
              by_cases c2 : l = [86]
              · rw [decide_eq_true c2]
                refine iteT ⟨_, rfl, _, _, rfl, rfl, _, rfl, _, _, rfl, rfl, _, rfl, iteD (fun c3 => ?_) (fun c3 => ?_)⟩
                · refine k2 ?_
                  unfold okSizes
                  rw [decide_eq_false c1, decide_eq_true c2, decide_eq_true c3]; rfl
                · refine k1 ?_
                  unfold okSizes
                  rw [decide_eq_false c1, decide_eq_true c2, decide_eq_false c3]; rfl
              · rw [decide_eq_false c2]
                refine iteF (iteF (k1 ?_))
                unfold okSizes
                rw [decide_eq_false c1, decide_eq_false c2]; rfl
    | int i => exact iteT (iteT (k2 rfl))
    | bl b => exact iteT (iteT (k2 rfl))
    | non => exact iteT (iteT (k2 rfl))
    | lst h => exact iteT (iteT (k2 rfl))
    | tup h => exact iteT (iteT (k2 rfl))
    | dct h => exact iteT (iteT (k2 rfl))
def sp_figures : Sp := fun vs H Q _ => ∃ n m : Nat, vs = [.int n, .int m] ∧ n < 10 ^ 10 ∧ m ≤ 1000 ∧ Q (.str (S (fig n m))) H
theorem ok_figures (T : Txt K mg) : FnOk P w K mg base (L2.CX P w) 1 T.figures.a T.figures.d ["number", "many"] sp_figures := by
  refine T.figures.F.okX sc_figures (fun vs H Q E h => ?_) (fun cdv A outer s0 H vs Q E hr h => ?_)
  · obtain ⟨n, m, rfl, _⟩ := h
    rfl
  · obtain ⟨n, m, rfl, hn, hm, k⟩ := h
    refine ⟨_, (pss_one (ps_ret (pe_op op_addS (pe_op op_mulS (pe_strS (l := [48]) (by decide +kernel)) (pe_op op_sub (pv 1) (pe_callB call_lenS (by rfl) T.z_len PySem.boot_len (pa_cons (pe_callTy call_strN (by rfl) T.z_str (by decide +kernel) (pa_cons (pv 0) pa_nil)) pa_nil)))) (pe_callTy call_strN (by rfl) T.z_str (by decide +kernel) (pa_cons (pv 0) pa_nil))))), ?_⟩
    have hd := dig_len 9 n hn
    refine ⟨_, rfl, _, rfl, n, rfl, hn, dig n, rfl, by omega, _, _, rfl, rfl, 48, _, rfl, rfl, by omega, by omega, _, rfl, n, rfl, hn, _, _, rfl, rfl, ?_, ?_⟩
    · rw [List.length_replicate]; omega
    · have e : ((m : Int) - ((dig n).length : Nat)).toNat = m - (dig n).length := by omega
      rw [e]
      exact k
end
end R
set_option maxRecDepth 100000
set_option maxHeartbeats 4000000
namespace R
open PySem PySem.Spec PyProof.Rows L2 RZ
open PySem.W (Datum)
theorem But2.refl {t r : Addr} (H : Hp) : But2 t r H H := fun _ _ h _ _ => h
theorem Town.ne {H : Hp} {t r p : Addr} (h : Town H t r) (n : H p = none) : p ≠ t ∧ p ≠ r := by
  obtain ⟨c, ns, h1, h2, _⟩ := h
  exact ⟨fun e => (by rw [e, h1] at n; cases n), fun e => (by rw [e, h2] at n; cases n)⟩
theorem town_new {H : Hp} {t r p : Addr} {o : HO} (h : Town H t r) (n : H p = none) : Town (upd H p o) t r := h.same (same_new n)
/-- a comprehension whose items draw -/
theorem lc_draw {J : It} {n : Nat} {G : Hp → Prop} {Y : Nat → Hp → V → Hp → Prop} (w : Walk J n G Y) {g : TG} {te : TE} {vs : List Nat} {σ : L2.St} {H1 : Hp} {D t r : Addr} {Qd : Hp → Prop} (R : Nat → V → Prop) (hn : n < 16777216) (nD : H1 D = none) (ht : Town H1 t r)
    (hY : ∀ i H x H', Y i H x H' → Same H H') (hG : ∀ H, But2 t r H1 H → G H)
    (hs : ∀ i x H H', i < n → But2 t r H1 H' → Town H' t r → Y i H x H' → ∀ Q : VK, (∀ y H2, R i y → But2 t r H' H2 → Town H2 t r → Q y H2) → g x (wipe σ vs) H' fun σ2 H2 => wipe σ2 vs = wipe σ vs ∧ te σ2 H2 Q)
    (hd : ∀ xs H, xs.length = n → (∀ i x, xs[i]? = some x → R i x) → But2 t r H1 H → Town H t r → H D = some (.lst xs) → Qd H)
    (hg : ∀ x σ H (R R' : L2.St → Hp → Prop), (∀ σ2 H2, R σ2 H2 → R' σ2 H2) → g x σ H R → g x σ H R') :
    ∃ W : Nat → Nat → Hp → Prop, (∃ m, W 0 m (upd H1 D (.lst []))) ∧ ∀ i m H, W i m H →
      (J.stop i H ∧ Qd H) ∨ (J.go i H ∧ ∃ Nx : Hp → Prop, (∀ H', Nx H' → ∃ m', m' < m ∧ W (i + 1) m' H') ∧ ∀ x H', J.yld i H x H' → g x (wipe σ vs) H' fun σ2 H2 => wipe σ2 vs = wipe σ vs ∧ tYes σ2 H2 fun b H3 =>
        if b = true then te σ2 H3 fun y H4 => ∃ acc, H4 D = some (.lst acc) ∧ acc.length < sizeLine ∧ Nx (upd H4 D (.lst (acc ++ [y]))) else Nx H3) := by
  have nt := ht.ne nD
  refine lc_it w (fun i H => But2 t r H1 H ∧ Town H t r ∧ ∃ xs, xs.length = i ∧ (∀ j x, xs[j]? = some x → R j x) ∧ H D = some (.lst xs)) ⟨But2.of_same (same_new nD), town_new ht nD, [], rfl, fun j x h => by simp at h, upd_same⟩ (fun i H _ p => hG H p.1) (fun i x H H' hi p y => ?_) (fun H p => ?_)
  · obtain ⟨pb, pt, xs, hl, hR, hD⟩ := p
    have sH' := hY _ _ _ _ y
    refine hg _ _ _ _ _ (fun σ2 H2 z => z) (hs i x H H' hi (pb.trans (But2.of_same sH')) (pt.same sH') y _ fun v H2 hv b2 t2 => ?_)
    have hD2 : H2 D = some (.lst xs) := b2 _ _ (sH' _ _ hD) nt.1 nt.2
    refine ⟨xs, hD2, szl (by omega), ?_, ?_, xs ++ [v], by rw [List.length_append, hl]; rfl, ?_, upd_same⟩
    · intro b o hb h1 h2
      rw [upd_ne (ne_of_none hb nD)]
      exact b2 _ _ (sH' _ _ (pb _ _ hb h1 h2)) h1 h2
    · obtain ⟨c, ns, g1, g2, g3, g4⟩ := t2
      exact ⟨c, ns, by rw [upd_ne nt.1.symm]; exact g1, by rw [upd_ne nt.2.symm]; exact g2, g3, g4⟩
    · intro j x hx
      by_cases hj : j < xs.length
      · rw [List.getElem?_append_left hj] at hx
        exact hR j x hx
      · rw [List.getElem?_append_right (by omega)] at hx
        have : j - xs.length = 0 := by
          cases e : j - xs.length with
          | zero => rfl
          | succ q => rw [e] at hx; simp at hx
        rw [this] at hx
        have ej : j = i := by omega
        rw [ej]
        have ex : v = x := Option.some.inj hx
        rw [← ex]
        exact hv
  · obtain ⟨pb, pt, xs, hl, hR, hD⟩ := p
    exact hd xs H hl hR pb pt hD
theorem chars_of {p : Nat → Prop} : ∀ {xs : List V}, (∀ (i : Nat) x, xs[i]? = some x → ∃ c, x = V.str (S [c]) ∧ p c) → ∃ l : List Nat, xs = (l.map fun c => [c]).map (fun l => V.str (S l)) ∧ l.length = xs.length ∧ ∀ c ∈ l, p c
  | [], _ => ⟨[], rfl, rfl, fun c h => by simp at h⟩
  | x :: xs, h => by
    obtain ⟨c, rfl, hc⟩ := h 0 x rfl
    obtain ⟨l, e, hl, hp⟩ := chars_of (xs := xs) fun i x hx => h (i + 1) x hx
    refine ⟨c :: l, by rw [e]; rfl, by simp [hl], fun d hd => ?_⟩
    rcases List.mem_cons.mp hd with rfl | hd
    · exact hc
    · exact hp d hd
theorem flat_chars (l : List Nat) : (l.map fun c => [c]).flatten = l := by
  induction l with
  | nil => rfl
  | cons c r ih => rw [List.map_cons, List.flatten_cons, ih]; rfl
section
variable {P : Program} {w : World} {K : PySem.W.Frag} {mg : Str → Option Value} {base : Heap}
/-- a form, the longest block, the size: they fit -/
def sp__law_shape (K : PySem.W.Frag) : Sp := fun vs H Q _ => ∃ (t r : Addr), vs = [.ref t] ∧ Town H t r ∧
  ∀ (l : List Nat) (b s : Nat) p H', okForm (.str (S l)) (.int b) (.int s) = true → But2 t r H H' → Town H' t r → H p = none → H' p = some (.tup [.str (S l), .int b, .int s]) → Q (.ref p) H'
theorem ok__law_shape (T : Txt K mg) : FnOk P w K mg base (L2.CX P w) 3 T._law_shape.a T._law_shape.d ["_law_town_here"] (sp__law_shape K) := by
  refine T._law_shape.F.okX sc__law_shape (fun vs H Q E h => ?_) (fun cdv A outer s0 H vs Q E hr h => ?_)
  · obtain ⟨t, r, rfl, _⟩ := h
    rfl
  · obtain ⟨t, r, rfl, hT, k⟩ := h
    refine ⟨_, (pss_cons (ps_set (i := 1) sc__law_shape.nd rfl (.inl rfl) (pe_call (ok__law_pick T) (hr.mono (by decide)) (by rfl) T._law_pick.g T._law_pick.F.kp T._law_pick.b .nil passL (pa_cons (pv 0) (pa_cons (pe_lst (pa_cons (pe_strS (l := [70]) (by decide +kernel)) (pa_cons (pe_strS (l := [86]) (by decide +kernel)) (pa_cons (pe_strS (l := [86]) (by decide +kernel)) (pa_cons (pe_strS (l := [83]) (by decide +kernel)) (pa_cons (pe_strS (l := [83]) (by decide +kernel)) pa_nil)))))) pa_nil))))
    (pss_cons (ps_set (i := 2) sc__law_shape.nd rfl (.inl rfl) (pe_call (ok__law_pick T) (hr.mono (by decide)) (by rfl) T._law_pick.g T._law_pick.F.kp T._law_pick.b .nil passL (pa_cons (pv 0) (pa_cons (pe_lst (pa_cons pe_int (pa_cons pe_int (pa_cons pe_int (pa_cons pe_int (pa_cons (pe_op op_add pe_int (pe_call (ok__law_draw T) (hr.mono (by decide)) (by rfl) T._law_draw.g T._law_draw.F.kp T._law_draw.b .nil passL (pa_cons (pv 0) (pa_cons pe_int pa_nil)))) pa_nil)))))) pa_nil))))
    (pss_cons (ps_if (pt_cmpR op_eqS (pv 1) (pe_strS (l := [83]) (by decide +kernel)) (nomark _))
      (pss_one (ps_ret (pe_tup (pa_cons (pv 1) (pa_cons (pv 2) (pa_cons (pe_call (ok__law_pick T) (hr.mono (by decide)) (by rfl) T._law_pick.g T._law_pick.F.kp T._law_pick.b .nil passL (pa_cons (pv 0) (pa_cons (pe_lst (pa_cons pe_int (pa_cons pe_int (pa_cons pe_int (pa_cons pe_int pa_nil))))) pa_nil))) pa_nil))))))
      pss_nil)
    (pss_one (ps_ret (pe_tup (pa_cons (pv 1) (pa_cons (pv 2) (pa_cons (pe_op op_add pe_int (pe_call (ok__law_draw T) (hr.mono (by decide)) (by rfl) T._law_draw.g T._law_draw.F.kp T._law_draw.b .nil passL (pa_cons (pv 0) (pa_cons (pe_ifExp (pt_cmpR op_eqS (pv 1) (pe_strS (l := [70]) (by decide +kernel)) (nomark _)) (pv 2) (pe_op op_sub (pv 2) pe_int)) pa_nil)))) pa_nil))))))))), ?_⟩
    refine ⟨_, rfl, sz (by decide), fun p np => ?_⟩
    have n1 := hT.ne np
    refine ⟨t, r, p, _, rfl, town_new hT np, SqL.of upd_same, n1.1, n1.2, by decide, by decide, fun j v H1 hj b1 t1 => ?_⟩
    have b01 : But2 t r H H1 := (But2.of_same (same_new np)).trans b1
    refine ⟨_, rfl, _, rfl, t, r, 56, rfl, t1, by decide, by decide, fun z H2 z0 z1 b2 t2 => ⟨_, _, rfl, rfl, ?_⟩⟩
    refine ⟨sz (show 5 ≤ 16777216 by decide), fun q nq => ?_⟩
    have n2 := t2.ne nq
    have b02 := b01.trans b2
    refine ⟨t, r, q, _, rfl, town_new t2 nq, SqL.of upd_same, n2.1, n2.2, (show 0 < 5 by decide), (show 5 < 1000 by decide), fun j2 v2 H3 hj2 b3 t3 => ?_⟩
    have b03 : But2 t r H H3 := (b02.trans (But2.of_same (same_new nq))).trans b3
    obtain ⟨b, rfl, hb5, hb60⟩ : ∃ b : Nat, v2 = .int b ∧ 5 ≤ b ∧ b ≤ 60 := by
      have := List.mem_of_getElem? hj2
      simp only [List.mem_cons, List.not_mem_nil, or_false] at this
      rcases this with rfl | rfl | rfl | rfl | rfl
      · exact ⟨5, rfl, by decide, by decide⟩
      · exact ⟨12, rfl, by decide, by decide⟩
      · exact ⟨40, rfl, by decide, by decide⟩
      · exact ⟨60, rfl, by decide, by decide⟩
      · exact ⟨(5 + z).toNat, by congr 1; omega, by omega, by omega⟩
    obtain ⟨l, rfl, hl⟩ : ∃ l, v = .str (S l) ∧ (l = [70] ∨ l = [86] ∨ l = [83]) := by
      have := List.mem_of_getElem? hj
      simp only [List.mem_cons, List.not_mem_nil, or_false] at this
      rcases this with rfl | rfl | rfl | rfl | rfl
      · exact ⟨[70], rfl, .inl rfl⟩
      · exact ⟨[86], rfl, .inr (.inl rfl)⟩
      · exact ⟨[86], rfl, .inr (.inl rfl)⟩
      · exact ⟨[83], rfl, .inr (.inr rfl)⟩
      · exact ⟨[83], rfl, .inr (.inr rfl)⟩
    have hfree : ∀ {a : Addr} {H' : Hp}, But2 t r H H' → Town H' t r → H' a = none → H a = none := fun {a H'} bb tt na => by
      have nn := tt.ne na
      cases e : H a with
      | none => rfl
      | some o => rw [bb a o e nn.1 nn.2] at na; cases na
    refine ⟨_, rfl, l, [83], rfl, rfl, _, rfl, iteD (fun e => ?_) (fun e => ?_)⟩
    · subst e
      refine ⟨_, rfl, _, rfl, _, rfl, sz (by decide), fun p2 np2 => ?_⟩
      have n3 := t3.ne np2
      refine ⟨t, r, p2, _, rfl, town_new t3 np2, SqL.of upd_same, n3.1, n3.2, by decide, by decide, fun j4 v4 H4 hj4 b4 t4 => ?_⟩
      have b04 := (b03.trans (But2.of_same (same_new np2))).trans b4
      obtain ⟨s, rfl, hs1, hs2⟩ : ∃ s : Nat, v4 = .int s ∧ 1 ≤ s ∧ s ≤ 200 := by
        have := List.mem_of_getElem? hj4
        simp only [List.mem_cons, List.not_mem_nil, or_false] at this
        rcases this with rfl | rfl | rfl | rfl
        · exact ⟨1, rfl, by decide, by decide⟩
        · exact ⟨9, rfl, by decide, by decide⟩
        · exact ⟨80, rfl, by decide, by decide⟩
        · exact ⟨200, rfl, by decide, by decide⟩
      refine ⟨sz (show 3 ≤ 16777216 by decide), fun p3 np3 => ?_⟩
      exact k _ b s p3 _ (okForm_of rfl ⟨hb5, hb60⟩ ⟨hs1, hs2⟩ rfl) (b04.trans (But2.of_same (same_new np3))) (town_new t4 np3) (hfree b04 t4 np3) upd_same
    · refine ⟨_, rfl, _, rfl, _, rfl, _, rfl, l, [70], rfl, rfl, _, rfl, ?_⟩
      rcases hl with rfl | rfl | rfl
      · refine iteT ⟨_, rfl, t, r, b, rfl, t3, by omega, by omega, fun z4 H4 z40 z41 b4 t4 => ⟨_, _, rfl, rfl, sz (show 3 ≤ 16777216 by decide), fun p3 np3 => ?_⟩⟩
        have b04 := b03.trans b4
        have es : (1 : Int) + z4 = ((1 + z4).toNat : Nat) := by omega
        refine k _ b (1 + z4).toNat p3 _ (okForm_of rfl ⟨hb5, hb60⟩ ⟨by omega, by omega⟩ ?_) (b04.trans (But2.of_same (same_new np3))) (town_new t4 np3) (hfree b04 t4 np3) (by rw [← es]; exact upd_same)
        unfold okSizes
        rw [decide_eq_false (show ¬ ((b : Int) < ((1 + z4).toNat : Nat)) by omega), Bool.and_false, Bool.false_or]
        rfl
      · refine iteF ⟨_, rfl, _, _, rfl, rfl, t, r, _, rfl, t3, by omega, by omega, fun z4 H4 z40 z41 b4 t4 => ⟨_, _, rfl, rfl, sz (show 3 ≤ 16777216 by decide), fun p3 np3 => ?_⟩⟩
        have b04 := b03.trans b4
        have es : (1 : Int) + z4 = ((1 + z4).toNat : Nat) := by omega
        refine k _ b (1 + z4).toNat p3 _ (okForm_of rfl ⟨hb5, hb60⟩ ⟨by omega, by omega⟩ ?_) (b04.trans (But2.of_same (same_new np3))) (town_new t4 np3) (hfree b04 t4 np3) (by rw [← es]; exact upd_same)
        unfold okSizes
        rw [decide_eq_false (show ¬ ((b : Int) < ((1 + z4).toNat : Nat) + 3) by omega), Bool.and_false, Bool.or_false]
        rfl
      · exact absurd rfl e
def sp__law_figures : Sp := fun vs H Q _ => ∃ n m : Nat, vs = [.int n, .int m] ∧ n < 10 ^ 10 ∧ m ≤ 1000 ∧ Q (.str (S (fig n m))) H
theorem ok__law_figures (T : Txt K mg) : FnOk P w K mg base (L2.CX P w) 1 T._law_figures.a T._law_figures.d ["_law_number", "_law_long"] sp__law_figures := by
  refine T._law_figures.F.okX sc__law_figures (fun vs H Q E h => ?_) (fun cdv A outer s0 H vs Q E hr h => ?_)
  · obtain ⟨n, m, rfl, _⟩ := h
    rfl
  · obtain ⟨n, m, rfl, hn, hm, k⟩ := h
    refine ⟨_, (pss_one (ps_ret (pe_op op_addS (pe_op op_mulS (pe_strS (l := [48]) (by decide +kernel)) (pe_op op_sub (pv 1) (pe_callB call_lenS (by rfl) T.z_len PySem.boot_len (pa_cons (pe_callTy call_strN (by rfl) T.z_str (by decide +kernel) (pa_cons (pv 0) pa_nil)) pa_nil)))) (pe_callTy call_strN (by rfl) T.z_str (by decide +kernel) (pa_cons (pv 0) pa_nil))))), ?_⟩
    have hd := dig_len 9 n hn
    refine ⟨_, rfl, _, rfl, n, rfl, hn, dig n, rfl, by omega, _, _, rfl, rfl, 48, _, rfl, rfl, by omega, by omega, _, rfl, n, rfl, hn, _, _, rfl, rfl, ?_, ?_⟩
    · rw [List.length_replicate]; omega
    · have e : ((m : Int) - ((dig n).length : Nat)).toNat = m - (dig n).length := by omega
      rw [e]
      exact k
end
end R
set_option maxRecDepth 100000
set_option maxHeartbeats 4000000
namespace R
open PySem PySem.Spec PyProof.Rows L2 RZ
open PySem.W (Datum)
open PySem.NumText
/-- the signs of a text -/
def txt (x : V) : List Nat := match x with
  | .str z => z.cps.toList
  | _ => []
theorem txt_S (l : List Nat) : txt (.str (S l)) = l := S_cps l
theorem nameL_len {l : List Nat} {m : Nat} (h : nameL l m = true) : 1 ≤ l.length ∧ l.length ≤ m := by
  unfold nameL at h
  rw [Bool.and_eq_true, Bool.and_eq_true, decide_eq_true_eq, decide_eq_true_eq] at h
  omega
theorem isName_of {x : V} {m : Nat} (h : isName x m = true) : ∃ l, x = .str (S l) ∧ nameL l m = true := by
  cases x with
  | str z =>
    obtain ⟨l, rfl⟩ : ∃ l, z = S l := ⟨_, S_of z⟩
    rw [isName_S] at h
    exact ⟨l, rfl, h⟩
  | _ => exact nomatch h
def isDig (c : Nat) : Bool := decide (c ∈ ([48, 49, 50, 51, 52, 53, 54, 55, 56, 57] : List Nat))
theorem isDig_iff (c : Nat) : isDig c = true ↔ 48 ≤ c ∧ c ≤ 57 := by
  unfold isDig
  rw [decide_eq_true_eq]
  constructor
  · intro h
    simp only [List.mem_cons, List.not_mem_nil, or_false] at h
    omega
  · intro h
    obtain ⟨k, rfl⟩ : ∃ k, c = 48 + k := ⟨c - 48, by omega⟩
    have : ∀ k, k < 10 → (48 + k) ∈ ([48, 49, 50, 51, 52, 53, 54, 55, 56, 57] : List Nat) := by decide
    exact this k (by omega)
theorem allDig {l : List Nat} (h : l.all isDig = true) : ∀ c ∈ l, 48 ≤ c ∧ c ≤ 57 := fun c hc => (isDig_iff c).mp (List.all_eq_true.mp h c hc)
/-! ### what is read -/
def readVol (l : List Nat) : Option (List Nat × List Nat) :=
  if l.length = 18 ∧ l.take 4 = [86, 79, 76, 49] then
    (if nameL (bareL ((l.take 10).drop 4)) 8 = true ∧ nameL (bareL (l.drop 10)) 8 = true then some (bareL ((l.take 10).drop 4), bareL (l.drop 10)) else none)
  else none
section
variable {P : Program} {w : World} {K : PySem.W.Frag} {mg : Str → Option Value} {base : Heap}
def sp_padded : Sp := fun vs H Q _ => ∃ (l : List Nat) (m : Nat), vs = [.str (S l), .int m] ∧ l.length ≤ 1000 ∧ m ≤ 1000 ∧ Q (.str (S (pad l m))) H
theorem ok_padded (T : Txt K mg) : FnOk P w K mg base (L2.CX P w) 1 T.padded.a T.padded.d ["name", "many"] sp_padded := by
  refine T.padded.F.okX sc_padded (fun vs H Q E h => ?_) (fun cdv A outer s0 H vs Q E hr h => ?_)
  · obtain ⟨l, m, rfl, _⟩ := h
    rfl
  · obtain ⟨l, m, rfl, hn, hm, k⟩ := h
    refine ⟨_, (pss_one (ps_ret (pe_op op_addS (pv 0) (pe_op op_mulS (pe_strS (l := [32]) (by decide +kernel)) (pe_op op_sub (pv 1) (pe_callB call_lenS (by rfl) T.z_len PySem.boot_len (pa_cons (pv 0) pa_nil))))))), ?_⟩
    refine ⟨_, rfl, _, rfl, _, rfl, l, rfl, by omega, _, _, rfl, rfl, 32, _, rfl, rfl, by omega, by omega, l, _, rfl, rfl, ?_, ?_⟩
    · rw [List.length_replicate]; omega
    · have e : ((m : Int) - (l.length : Nat)).toNat = m - l.length := by omega
      rw [e]
      exact k
def sp_reel_label (K : PySem.W.Frag) (CN : Addr) : Sp := fun vs H Q E => ∃ (x y : V) (n m : String), vs = [x, y] ∧ Pl K H x n ∧ Sz x ∧ Pl K H y m ∧ Sz y ∧
  (isName x 6 = true → isName y 8 = true → ∀ H', Same H H' → Q (.str (S (volLab (txt x) (txt y)))) H') ∧ ((isName x 6 && isName y 8) = false → ∀ H', Same H H' → E (.ref CN) none H')
theorem ok_reel_label (T : Txt K mg) : FnOk P w K mg base (L2.CX P w) 3 T.reel_label.a T.reel_label.d ["serial", "owner"] (sp_reel_label K T.BadName.C) := by
  refine T.reel_label.F.okX sc_reel_label (fun vs H Q E h => ?_) (fun cdv A outer s0 H vs Q E hr h => ?_)
  · obtain ⟨x, y, n, m, rfl, _⟩ := h
    rfl
  · obtain ⟨x, y, n, m, rfl, hx, zx, hy, zy, k1, k2⟩ := h
    refine ⟨_, (pss_cons (ps_expr (pe_call (ok_look_name T) (hr.mono (by decide)) (by rfl) T.look_name.g T.look_name.F.kp T.look_name.b .nil (passes_call (takes_of rfl rfl rfl rfl) (fun _ _ _ _ h => h)) (pa_cons (pv 0) (pa_cons pe_int pa_nil))))
    (pss_cons (ps_expr (pe_call (ok_look_name T) (hr.mono (by decide)) (by rfl) T.look_name.g T.look_name.F.kp T.look_name.b .nil (passes_call (takes_of rfl rfl rfl rfl) (fun _ _ _ _ h => h)) (pa_cons (pv 1) (pa_cons pe_int pa_nil))))
    (pss_one (ps_ret (pe_op op_addS (pe_op op_addS (pe_strS (l := [86, 79, 76, 49]) (by decide +kernel)) (pe_call (ok_padded T) (hr.mono (by decide)) (by rfl) T.padded.g T.padded.F.kp T.padded.b .nil (passes_call (takes_of rfl rfl rfl rfl) (fun _ _ _ _ h => h)) (pa_cons (pv 0) (pa_cons pe_int pa_nil)))) (pe_call (ok_padded T) (hr.mono (by decide)) (by rfl) T.padded.g T.padded.F.kp T.padded.b .nil (passes_call (takes_of rfl rfl rfl rfl) (fun _ _ _ _ h => h)) (pa_cons (pv 1) (pa_cons pe_int pa_nil)))))))), ?_⟩
    refine ⟨_, rfl, x, n, 6, rfl, hx, zx, fun e1 H1 s1 => ?_, fun e1 H1 s1 => k2 (by rw [e1]; rfl) _ s1⟩
    refine ⟨_, rfl, y, m, 8, rfl, hy.same s1, zy, fun e2 H2 s2 => ?_, fun e2 H2 s2 => k2 (by rw [e2, Bool.and_false]) _ (s1.trans s2)⟩
    obtain ⟨a, rfl, ha⟩ := isName_of (m := 6) e1
    obtain ⟨b, rfl, hb⟩ := isName_of (m := 8) e2
    have la := nameL_len ha
    have lb := nameL_len hb
    have k3 := k1 e1 e2 _ (s1.trans s2)
    rw [txt_S, txt_S] at k3
    have pa : (pad a 6).length = 6 := pad_len la.2
    have pb : (pad b 8).length = 8 := pad_len lb.2
    refine ⟨_, rfl, a, 6, rfl, by omega, by omega, _, _, rfl, rfl, by rw [pa]; decide, _, rfl, b, 8, rfl, by omega, by omega, _, _, rfl, rfl, ?_, k3⟩
    rw [List.length_append, pa, pb]
    decide
def sp_form_label (K : PySem.W.Frag) (CF : Addr) : Sp := fun vs H Q E => ∃ (x b s : V) (n m o : String), vs = [x, b, s] ∧ Pl K H x n ∧ Pl K H b m ∧ Pl K H s o ∧
  (∀ (l : List Nat) (bi si : Nat), okForm x b s = true → x = .str (S l) → b = .int bi → s = .int si → Q (.str (S (formLab l bi si))) H) ∧ (okForm x b s = false → E (.ref CF) none H)
theorem ok_form_label (T : Txt K mg) : FnOk P w K mg base (L2.CX P w) 3 T.form_label.a T.form_label.d ["form", "block", "size"] (sp_form_label K T.BadForm.C) := by
  refine T.form_label.F.okX sc_form_label (fun vs H Q E h => ?_) (fun cdv A outer s0 H vs Q E hr h => ?_)
  · obtain ⟨x, b, s, n, m, o, rfl, _⟩ := h
    rfl
  · obtain ⟨x, b, s, n, m, o, rfl, hx, hb, hs, k1, k2⟩ := h
    refine ⟨_, (pss_cons (ps_expr (pe_call (ok_look_form T) (hr.mono (by decide)) (by rfl) T.look_form.g T.look_form.F.kp T.look_form.b .nil (passes_call (takes_of rfl rfl rfl rfl) (fun _ _ _ _ h => h)) (pa_cons (pv 0) (pa_cons (pv 1) (pa_cons (pv 2) pa_nil)))))
    (pss_one (ps_ret (pe_op op_addS (pe_op op_addS (pe_op op_addS (pe_strS (l := [72, 68, 82, 50]) (by decide +kernel)) (pv 0)) (pe_call (ok_figures T) (hr.mono (by decide)) (by rfl) T.figures.g T.figures.F.kp T.figures.b .nil (passes_call (takes_of rfl rfl rfl rfl) (fun _ _ _ _ h => h)) (pa_cons (pv 1) (pa_cons pe_int pa_nil)))) (pe_call (ok_figures T) (hr.mono (by decide)) (by rfl) T.figures.g T.figures.F.kp T.figures.b .nil (passes_call (takes_of rfl rfl rfl rfl) (fun _ _ _ _ h => h)) (pa_cons (pv 2) (pa_cons pe_int pa_nil))))))), ?_⟩
    refine ⟨_, rfl, _, rfl, _, rfl, x, b, s, n, m, o, rfl, hx, hb, hs, fun e => ?_, fun e => k2 e⟩
    obtain ⟨l, bi, si, rfl, rfl, rfl, hl, b1, b2, s1, s2, _⟩ := okForm_iff e
    have lb : (fig bi 3).length = 3 := fig_len (by decide) (by omega)
    have ls : (fig si 3).length = 3 := fig_len (by decide) (by omega)
    have l1 : l.length = 1 := by
      unfold isForm at hl
      rw [Bool.or_eq_true, Bool.or_eq_true, decide_eq_true_eq, decide_eq_true_eq, decide_eq_true_eq] at hl
      rcases hl with rfl | rfl | rfl <;> rfl
    refine ⟨_, rfl, _, l, rfl, rfl, by rw [l1]; decide, _, rfl, bi, 3, rfl, by omega, by decide, _, _, rfl, rfl, ?_, _, rfl, si, 3, rfl, by omega, by decide, _, _, rfl, rfl, ?_, k1 l bi si e rfl rfl rfl⟩
    · rw [List.length_append, l1, lb]; decide
    · rw [List.length_append, List.length_append, l1, lb, ls]; decide
def sp_bare (CL : Addr) : Sp := fun vs H Q E => ∃ l : List Nat, vs = [.str (S l)] ∧ l.length ≤ 1000 ∧ ∀ H', Same H H' → ((nameL (bareL l) 8 = true → Q (.str (S (bareL l))) H') ∧ (nameL (bareL l) 8 = false → E (.ref CL) none H'))
theorem ok_bare (T : Txt K mg) : FnOk P w K mg base (L2.CX P w) 2 T.bare.a T.bare.d ["text"] (sp_bare T.BadLabel.C) := by
  refine T.bare.F.okX sc_bare (fun vs H Q E h => ?_) (fun cdv A outer s0 H vs Q E hr h => ?_)
  · obtain ⟨l, rfl, _⟩ := h
    rfl
  · obtain ⟨l, rfl, hl, k⟩ := h
    refine ⟨_, (pss_cons (ps_while (passes_of rfl) (pt_cmpR op_eqS (pe_slice sl_strS (pv 0) (po_some (pe_un un_neg pe_int)) po_none) (pe_strS (l := [32]) (by decide +kernel)) (nomark _))
      (pss_one (ps_set (i := 0) sc_bare.nd rfl (.inl rfl) (pe_slice sl_strS (pv 0) po_none (po_some (pe_un un_neg pe_int))))))
    (pss_cons (ps_if (pt_not (pt_val (pe_call (ok_is_name T) (hr.mono (by decide)) (by rfl) T.is_name.g T.is_name.F.kp T.is_name.b .nil (passes_call (takes_of rfl rfl rfl rfl) (fun _ _ _ _ h => h)) (pa_cons (pv 0) (pa_cons pe_int pa_nil)))))
      (pss_one (ps_raise rfl (takes_of rfl rfl rfl rfl) (pmk_own PySem.F.excBase_ValueError T.BadLabel.x T.BadLabel.g T.BadLabel.k (raises_own T.BadLabel.b T.BadLabel.t) (by exact rfl))))
      pss_nil)
    (pss_one (ps_ret (pv 0))))), ?_⟩
    refine ⟨fun m σ H' => ∃ l', σ = [some (.str (S l'))] ∧ m = l'.length ∧ m ≤ l.length ∧ bareL l' = bareL l ∧ H' = H, ⟨_, l, rfl, rfl, Nat.le_refl _, rfl, rfl⟩, fun m σ H' w => ?_⟩
    obtain ⟨l', rfl, rfl, hm, hb, rfl⟩ := w
    refine ⟨_, rfl, _, rfl, _, rfl, l', rfl, by omega, _, _, rfl, rfl, _, rfl, ?_⟩
    rw [sl_last]
    refine iteD (fun e => ?_) (fun e => ?_)
    · have st := bare_step e
      refine ⟨fun σ' H2 => ∃ m', m' < l'.length ∧ ∃ l2, σ' = [some (.str (S l2))] ∧ m' = l2.length ∧ m' ≤ l.length ∧ bareL l2 = bareL l ∧ H2 = H', fun σ' H2 h => h, ?_⟩
      refine ⟨_, rfl, _, rfl, _, rfl, l', rfl, by omega, ?_⟩
      rw [sl_but]
      exact ⟨_, st.2, _, rfl, rfl, by omega, by rw [st.1, hb], rfl⟩
    · have st := bare_stop e
      rw [st] at hb
      refine ⟨_, rfl, _, _, 8, rfl, .str _, ?_, fun H2 s2 => ⟨_, rfl, iteNB (fun e2 => ?_) (fun e2 => ?_)⟩⟩
      · show (S l').length < 16777216
        rw [S_len]; omega
      · rw [isName_S, hb] at e2
        exact (k _ s2).2 e2
      · rw [isName_S, hb] at e2
        have := (k _ s2).1 e2
        rw [← hb] at this
        exact ⟨_, rfl, this⟩
def sp_number_in (CL : Addr) : Sp := fun vs H Q E => ∃ l : List Nat, vs = [.str (S l)] ∧ l ≠ [] ∧ l.length ≤ 600 ∧ ∀ H', Same H H' → ((l.all isDig = true → Q (.int (digitsVal l : Nat)) H') ∧ (l.all isDig = false → E (.ref CL) none H'))
theorem ok_number_in (T : Txt K mg) : FnOk P w K mg base (L2.CX P w) 1 T.number_in.a T.number_in.d ["text"] (sp_number_in T.BadLabel.C) := by
  refine T.number_in.F.okX sc_number_in (fun vs H Q E h => ?_) (fun cdv A outer s0 H vs Q E hr h => ?_)
  · obtain ⟨l, rfl, _⟩ := h
    rfl
  · obtain ⟨l, rfl, h0, hl, k⟩ := h
    refine ⟨_, (pss_cons (ps_if (pt_not (pt_val (pe_callB (cr_all rfl) (by rfl) T.z_all (by decide +kernel) (pa_cons (pe_lc (own := [("sign", 1)]) (g := gName 1) rfl sc_number_in.nd (pi_str (pv 0)) (blkOk_by (N := N_number_in) (sc := defScope s_number_in) (by decide +kernel)) (fun _ _ _ _ _ => (pg_name (i := 1) sc_number_in.nd rfl (.inl rfl))) (fun _ _ _ _ _ => pts_nil) (fun _ _ _ _ _ => (pe_cmpR op_inS2 (pv 1) (pe_strS (l := [48, 49, 50, 51, 52, 53, 54, 55, 56, 57]) (by decide +kernel)) (by rfl)))) pa_nil))))
      (pss_one (ps_raise rfl (takes_of rfl rfl rfl rfl) (pmk_own PySem.F.excBase_ValueError T.BadLabel.x T.BadLabel.g T.BadLabel.k (raises_own T.BadLabel.b T.BadLabel.t) (by exact rfl))))
      pss_nil)
    (pss_one (ps_ret (pe_callTy call_intS (by rfl) T.z_int (by decide +kernel) (pa_cons (pv 0) pa_nil))))), ?_⟩
    refine ⟨_, rfl, _, rfl, fun D nD => lc_signs (z := S l) isDig (by rw [S_len]; omega) nD (fun _ => rfl) (fun c H' hc s1 Q2 q2 => ⟨_, rfl, c, _, rfl, rfl, q2 _ (Same.refl _)⟩) (fun H' s1 hD => ?_)⟩
    refine ⟨_, _, rfl, SqL.of hD, _, rfl, ?_⟩
    rw [all_id_map, S_cps]
    refine iteNB (fun e => (k _ s1).2 e) (fun e => ?_)
    exact ⟨_, rfl, l, rfl, allDig e, h0, hl, (k _ s1).1 e⟩
def sp_read_reel_label (K : PySem.W.Frag) (CL : Addr) : Sp := fun vs H Q E => ∃ (x : V) (n : String), vs = [x] ∧ Pl K H x n ∧ Sz x ∧
  (∀ a b, readVol (txt x) = some (a, b) → n = "str" → ∀ p H', Same H H' → H p = none → H' p = some (.tup [.str (S a), .str (S b)]) → Q (.ref p) H') ∧ ((n ≠ "str" ∨ readVol (txt x) = none) → ∀ H', Same H H' → E (.ref CL) none H')
theorem ok_read_reel_label (T : Txt K mg) : FnOk P w K mg base (L2.CX P w) 3 T.read_reel_label.a T.read_reel_label.d ["text"] (sp_read_reel_label K T.BadLabel.C) := by
  refine T.read_reel_label.F.okX sc_read_reel_label (fun vs H Q E h => ?_) (fun cdv A outer s0 H vs Q E hr h => ?_)
  · obtain ⟨x, n, rfl, _⟩ := h
    rfl
  · obtain ⟨x, n, rfl, hx, zx, k1, k2⟩ := h
    refine ⟨_, (pss_cons (ps_if (PW.pt (pw_or (pt_not (pt_val (pe_callB call_isi (by rfl) T.z_isinstance (by decide +kernel) (pa_cons (pv 0) (pa_cons (pe_bltn (v := .ty "str") (by rfl) T.z_str (by decide +kernel) rfl) pa_nil))))) (pw_or (pt_cmpR op_ne (pe_callB call_lenS (by rfl) T.z_len PySem.boot_len (pa_cons (pv 0) pa_nil)) pe_int (nomark _)) (pw_or1 (pt_cmpR op_neS (pe_slice sl_strS (pv 0) po_none (po_some pe_int)) (pe_strS (l := [86, 79, 76, 49]) (by decide +kernel)) (nomark _))))))
      (pss_one (ps_raise rfl (takes_of rfl rfl rfl rfl) (pmk_own PySem.F.excBase_ValueError T.BadLabel.x T.BadLabel.g T.BadLabel.k (raises_own T.BadLabel.b T.BadLabel.t) (by exact rfl))))
      pss_nil)
    (pss_one (ps_ret (pe_tup (pa_cons (pe_call (ok_bare T) (hr.mono (by decide)) (by rfl) T.bare.g T.bare.F.kp T.bare.b .nil (passes_call (takes_of rfl rfl rfl rfl) (fun _ _ _ _ h => h)) (pa_cons (pe_slice sl_strS (pv 0) (po_some pe_int) (po_some pe_int)) pa_nil)) (pa_cons (pe_call (ok_bare T) (hr.mono (by decide)) (by rfl) T.bare.g T.bare.F.kp T.bare.b .nil (passes_call (takes_of rfl rfl rfl rfl) (fun _ _ _ _ h => h)) (pa_cons (pe_slice sl_strS (pv 0) (po_some pe_int) po_none) pa_nil)) pa_nil)))))), ?_⟩
    refine ⟨_, rfl, _, _, _, _, _, rfl, .ty _, hx.ty, kit_str hx, _, rfl, ?_⟩
    cases hx with
    | str z =>
      obtain ⟨l, rfl⟩ : ∃ l, z = S l := ⟨_, S_of z⟩
      have zl : l.length < 16777216 := by rw [← S_len]; exact zx
      rw [txt_S] at k1 k2
      refine iteF ⟨_, rfl, l, rfl, by omega, rfl, _, rfl, ?_⟩
      refine iteN (fun e => iteT (k2 (.inr ?_) _ (Same.refl _))) (fun e => ?_)
      · unfold readVol
        rw [if_neg]
        intro h
        apply e
        rw [h.1]
        rfl
      · have el : l.length = 18 := by
          have := V.int.inj e
          omega
        refine ⟨_, rfl, _, rfl, l, rfl, by omega, _, _, rfl, rfl, _, rfl, ?_⟩
        rw [show sl l none (some (4 : Int)) = l.take 4 from sl_to l 4]
        refine iteN (fun e2 => k2 (.inr ?_) _ (Same.refl _)) (fun e2 => ?_)
        · unfold readVol
          rw [if_neg]
          intro h
          exact e2 h.2
        · have er : readVol l = (if nameL (bareL ((l.take 10).drop 4)) 8 = true ∧ nameL (bareL (l.drop 10)) 8 = true then some (bareL ((l.take 10).drop 4), bareL (l.drop 10)) else none) := if_pos ⟨el, e2⟩
          refine ⟨_, rfl, _, rfl, _, rfl, l, rfl, by omega, ?_⟩
          rw [show sl l (some (4 : Int)) (some (10 : Int)) = (l.take 10).drop 4 from sl_mid l 4 10]
          refine ⟨(l.take 10).drop 4, rfl, ?_, fun H1 s1 => ⟨fun e3 => ?_, fun e3 => k2 (.inr ?_) _ s1⟩⟩
          · rw [List.length_drop, List.length_take]; omega
          · refine ⟨_, rfl, _, rfl, l, rfl, by omega, ?_⟩
            rw [show sl l (some (10 : Int)) none = l.drop 10 from sl_from l 10]
            refine ⟨l.drop 10, rfl, ?_, fun H2 s2 => ⟨fun e4 => ?_, fun e4 => k2 (.inr ?_) _ (s1.trans s2)⟩⟩
            · rw [List.length_drop]; omega
            · refine ⟨sz (show 2 ≤ 16777216 by decide), fun p np => k1 _ _ ?_ rfl p _ ((s1.trans s2).trans (same_new np)) ((s1.trans s2).free np) upd_same⟩
              rw [er, if_pos ⟨e3, e4⟩]
            · rw [er, if_neg]
              intro h
              rw [h.2] at e4
              cases e4
          · rw [er, if_neg]
            intro h
            rw [h.1] at e3
            cases e3
    | int i => exact iteT (iteT (k2 (.inl (by decide)) _ (Same.refl _)))
    | bl b => exact iteT (iteT (k2 (.inl (by decide)) _ (Same.refl _)))
    | non => exact iteT (iteT (k2 (.inl (by decide)) _ (Same.refl _)))
    | lst h => exact iteT (iteT (k2 (.inl (by decide)) _ (Same.refl _)))
    | tup h => exact iteT (iteT (k2 (.inl (by decide)) _ (Same.refl _)))
    | dct h => exact iteT (iteT (k2 (.inl (by decide)) _ (Same.refl _)))
end
end R
set_option maxRecDepth 100000
set_option maxHeartbeats 4000000
namespace R
open PySem PySem.Spec PyProof.Rows L2 RZ
open PySem.W (Datum)
open PySem.NumText
def isKind (l : List Nat) : Bool := decide (l = [72, 68, 82, 49]) || (decide (l = [69, 79, 70, 49]) || decide (l = [69, 79, 86, 49]))
theorem inKinds (l : List Nat) : inV (.str (S l)) [.str (S [72, 68, 82, 49]), .str (S [69, 79, 70, 49]), .str (S [69, 79, 86, 49])] = isKind l := by
  have h : ∀ k : List Nat, eqV (.str (S k)) (.str (S l)) = decide (l = k) := by
    intro k
    show (S k == S l) = _
    rw [Bool.eq_iff_iff, beq_iff_eq, decide_eq_true_eq, S_inj]
    exact ⟨fun e => e.symm, fun e => e.symm⟩
  unfold inV isKind
  rw [List.any_cons, List.any_cons, List.any_cons, List.any_nil, h, h, h, Bool.or_false]
theorem kind_len {l : List Nat} (h : isKind l = true) : l.length = 4 := by
  unfold isKind at h
  rw [Bool.or_eq_true, Bool.or_eq_true, decide_eq_true_eq, decide_eq_true_eq, decide_eq_true_eq] at h
  rcases h with rfl | rfl | rfl <;> rfl
/-- the numbers of a label, as the values of a tuple -/
def mostV : List V := [.int 9999, .int 9999, .int 9999, .int 99, .int 99999, .int 99999, .int 999999]
def wholeAll (xs : List V) : Bool := ((xs.zip mosts).map fun p => isWhole p.1 0 (p.2 : Int)).all id
def okNums (o : Option (List V)) : Bool := match o with
  | some xs => decide (xs.length = 7) && wholeAll xs
  | none => false
/-- what is handed in as numbers: a tuple of values of known kinds, or no tuple -/
def NumArg (K : PySem.W.Frag) (H : Hp) (x : V) (o : Option (List V)) : Prop := match o with
  | some xs => ∃ a, x = .ref a ∧ SqT K H a xs ∧ xs.length ≤ 1000 ∧ ∀ y ∈ xs, ∃ n, Pl K H y n
  | none => ∃ n, Pl K H x n ∧ n ≠ "tuple"
def fileRes (x y z : V) (o : Option (List V)) : Nat :=
  if isKind (txt x) = false then 1 else if (isName y 8 && isName z 6) = false then 2 else if okNums o = false then 3 else 0
theorem okNums_iff {o : Option (List V)} (h : okNums o = true) : ∃ ns : List Nat, o = some (ns.map fun n : Nat => V.int (n : Int)) ∧ ns.length = 7 ∧ ∀ p ∈ ns.zip mosts, p.1 ≤ p.2 := by
  cases o with
  | none => exact nomatch h
  | some xs =>
    have h' : (decide (xs.length = 7) && wholeAll xs) = true := h
    rw [Bool.and_eq_true, decide_eq_true_eq] at h'
    obtain ⟨h1, h2⟩ := h'
    unfold wholeAll at h2
    rw [List.all_map, List.all_eq_true] at h2
    match xs, h1 with
    | [a, b, c, d, e, f, g], _ =>
      have q : ∀ p ∈ ([a, b, c, d, e, f, g] : List V).zip mosts, ∃ n : Nat, p.1 = .int n ∧ n ≤ p.2 := fun p hp => by
        obtain ⟨i, e1, e2, e3⟩ := whole_int (h2 p hp)
        exact ⟨i.toNat, by rw [e1]; congr 1; omega, by omega⟩
      obtain ⟨a', rfl, ha⟩ := q (a, 9999) (by simp [mosts])
      obtain ⟨b', rfl, hb⟩ := q (b, 9999) (by simp [mosts])
      obtain ⟨c', rfl, hc⟩ := q (c, 9999) (by simp [mosts])
      obtain ⟨d', rfl, hd⟩ := q (d, 99) (by simp [mosts])
      obtain ⟨e', rfl, he⟩ := q (e, 99999) (by simp [mosts])
      obtain ⟨f', rfl, hf⟩ := q (f, 99999) (by simp [mosts])
      obtain ⟨g', rfl, hg⟩ := q (g, 999999) (by simp [mosts])
      refine ⟨[a', b', c', d', e', f', g'], rfl, rfl, ?_⟩
      intro p hp
      simp [mosts] at hp
      rcases hp with rfl | rfl | rfl | rfl | rfl | rfl | rfl <;> assumption
theorem numsLab_len {ns : List Nat} (h : ns.length = 7) (hm : ∀ p ∈ ns.zip mosts, p.1 ≤ p.2) : (numsLab ns).length = 30 := by
  match ns, h with
  | [a, b, c, d, e, f, g], _ =>
    have ha := hm (a, 9999) (by simp [mosts])
    have hb := hm (b, 9999) (by simp [mosts])
    have hc := hm (c, 9999) (by simp [mosts])
    have hd := hm (d, 99) (by simp [mosts])
    have he := hm (e, 99999) (by simp [mosts])
    have hf := hm (f, 99999) (by simp [mosts])
    have hg := hm (g, 999999) (by simp [mosts])
    simp only at ha hb hc hd he hf hg
    show (fig a 4 ++ (fig b 4 ++ (fig c 4 ++ (fig d 2 ++ (fig e 5 ++ (fig f 5 ++ (fig g 6 ++ []))))))).length = 30
    simp only [List.length_append, List.length_nil]
    rw [fig_len (by decide) (by omega), fig_len (by decide) (by omega), fig_len (by decide) (by omega), fig_len (by decide) (by omega), fig_len (by decide) (by omega), fig_len (by decide) (by omega), fig_len (by decide) (by omega)]
section
variable {P : Program} {w : World} {K : PySem.W.Frag} {mg : Str → Option Value} {base : Heap}
def sp_file_label (K : PySem.W.Frag) (CL CN CM : Addr) : Sp := fun vs H Q E => ∃ (x y z u : V) (n m k : String) (o : Option (List V)), vs = [x, y, z, u] ∧ Pl K H x n ∧ Pl K H y m ∧ Sz y ∧ Pl K H z k ∧ Sz z ∧ NumArg K H u o ∧
  (∀ ns : List Nat, fileRes x y z o = 0 → o = some (ns.map fun n : Nat => V.int (n : Int)) → ns.length = 7 → (∀ p ∈ ns.zip mosts, p.1 ≤ p.2) → ∀ H', Same H H' → Q (.str (S (fileLab (txt x) (txt y) (txt z) ns))) H') ∧
  (fileRes x y z o = 1 → ∀ H', Same H H' → E (.ref CL) none H') ∧ (fileRes x y z o = 2 → ∀ H', Same H H' → E (.ref CN) none H') ∧ (fileRes x y z o = 3 → ∀ H', Same H H' → E (.ref CM) none H')
theorem ok_file_label (T : Txt K mg) : FnOk P w K mg base (L2.CX P w) 3 T.file_label.a T.file_label.d ["kind", "name", "first", "numbers"] (sp_file_label K T.BadLabel.C T.BadName.C T.BadNumber.C) := by
  refine T.file_label.F.okX sc_file_label (fun vs H Q E h => ?_) (fun cdv A outer s0 H vs Q E hr h => ?_)
  · obtain ⟨x, y, z, u, n, m, k, o, rfl, _⟩ := h
    rfl
  · obtain ⟨x, y, z, u, n, m, k, o, rfl, hx, hy, zy, hz, zz, hu, k0, k1, k2, k3⟩ := h
    refine ⟨_, (pss_cons (ps_if (PW.pt (pw_or (pt_not (pt_val (pe_callB call_isi (by rfl) T.z_isinstance (by decide +kernel) (pa_cons (pv 0) (pa_cons (pe_bltn (v := .ty "str") (by rfl) T.z_str (by decide +kernel) rfl) pa_nil))))) (pw_or1 (pt_cmpR op_notIn_seq (pv 0) (pe_glob (v := .ref T.KINDS.a) rfl T.KINDS.g rfl) (by rfl)))))
      (pss_one (ps_raise rfl (takes_of rfl rfl rfl rfl) (pmk_own PySem.F.excBase_ValueError T.BadLabel.x T.BadLabel.g T.BadLabel.k (raises_own T.BadLabel.b T.BadLabel.t) (by exact rfl))))
      pss_nil)
    (pss_cons (ps_expr (pe_call (ok_look_name T) (hr.mono (by decide)) (by rfl) T.look_name.g T.look_name.F.kp T.look_name.b .nil (passes_call (takes_of rfl rfl rfl rfl) (fun _ _ _ _ h => h)) (pa_cons (pv 1) (pa_cons pe_int pa_nil))))
    (pss_cons (ps_expr (pe_call (ok_look_name T) (hr.mono (by decide)) (by rfl) T.look_name.g T.look_name.F.kp T.look_name.b .nil (passes_call (takes_of rfl rfl rfl rfl) (fun _ _ _ _ h => h)) (pa_cons (pv 2) (pa_cons pe_int pa_nil))))
    (pss_cons (ps_set (i := 4) sc_file_label.nd rfl (.inl rfl) (pe_and (pe_callB call_isi (by rfl) T.z_isinstance (by decide +kernel) (pa_cons (pv 3) (pa_cons (pe_bltn (v := .ty "tuple") (by rfl) T.z_tuple (by decide +kernel) rfl) pa_nil))) (pe_one (pe_cmpR op_eq (pe_callB call_len_seq (by rfl) T.z_len PySem.boot_len (pa_cons (pv 3) pa_nil)) (pe_callB call_len_seq (by rfl) T.z_len PySem.boot_len (pa_cons (pe_glob (v := .ref T.LONG.a) rfl T.LONG.g rfl) pa_nil)) (nomark _)))))
    (pss_cons (ps_if (PW.pt (pw_or (pt_not (pt_val (pv 4))) (pw_or1 (pt_not (pt_val (pe_callB (cr_all rfl) (by rfl) T.z_all (by decide +kernel) (pa_cons (pe_lc (own := [("one", 6), ("most", 8)]) (g := gTup K 2 (gCons (gName 6) (gCons (gName 8) gNil))) rfl sc_file_label.nd (pi_zipA (by rfl) T.z_zip (pa_cons (pv 3) (pa_cons (pe_glob (v := .ref T.MOSTS.a) rfl T.MOSTS.g rfl) pa_nil))) (blkOk_by (N := N_file_label) (sc := defScope s_file_label) (by decide +kernel)) (fun _ _ _ _ _ => (pg_tup rfl (pgs_cons (pg_name (i := 6) sc_file_label.nd rfl (.inl rfl)) (pgs_cons (pg_name (i := 8) sc_file_label.nd rfl (.inl rfl)) pgs_nil)))) (fun _ _ _ _ _ => pts_nil) (fun _ _ _ _ _ => (pe_call (ok_is_whole T) (hr.mono (by decide)) (by rfl) T.is_whole.g T.is_whole.F.kp T.is_whole.b .nil passL (pa_cons (pv 6) (pa_cons pe_int (pa_cons (pv 8) pa_nil)))))) pa_nil)))))))
      (pss_one (ps_raise rfl (takes_of rfl rfl rfl rfl) (pmk_own PySem.F.excBase_ValueError T.BadNumber.x T.BadNumber.g T.BadNumber.k (raises_own T.BadNumber.b T.BadNumber.t) (by exact rfl))))
      pss_nil)
    (pss_cons (ps_setLc (i := 5) (own := [("one", 6), ("long", 7)]) (g := gTup K 2 (gCons (gName 6) (gCons (gName 7) gNil))) rfl sc_file_label.nd rfl rfl (sw_true rfl rfl rfl (by decide +kernel)) (pi_zipA (by rfl) T.z_zip (pa_cons (pv 3) (pa_cons (pe_glob (v := .ref T.LONG.a) rfl T.LONG.g rfl) pa_nil))) (blkOk_by (N := N_file_label) (sc := defScope s_file_label) (by decide +kernel)) (fun _ _ _ _ _ => (pg_tup rfl (pgs_cons (pg_name (i := 6) sc_file_label.nd rfl (.inl rfl)) (pgs_cons (pg_name (i := 7) sc_file_label.nd rfl (.inl rfl)) pgs_nil)))) (fun _ _ _ _ _ => pts_nil) (fun _ _ _ _ _ => (pe_call (ok_figures T) (hr.mono (by decide)) (by rfl) T.figures.g T.figures.F.kp T.figures.b .nil passL (pa_cons (pv 6) (pa_cons (pv 7) pa_nil)))))
    (pss_one (ps_ret (pe_op op_addS (pe_op op_addS (pe_op op_addS (pv 0) (pe_call (ok_padded T) (hr.mono (by decide)) (by rfl) T.padded.g T.padded.F.kp T.padded.b .nil (passes_call (takes_of rfl rfl rfl rfl) (fun _ _ _ _ h => h)) (pa_cons (pv 1) (pa_cons pe_int pa_nil)))) (pe_call (ok_padded T) (hr.mono (by decide)) (by rfl) T.padded.g T.padded.F.kp T.padded.b .nil (passes_call (takes_of rfl rfl rfl rfl) (fun _ _ _ _ h => h)) (pa_cons (pv 2) (pa_cons pe_int pa_nil)))) (pe_joinS (pe_strS (l := []) (by decide +kernel)) (pv 5))))))))))), ?_⟩
    refine ⟨_, rfl, _, _, _, _, _, rfl, .ty _, hx.ty, kit_str hx, _, rfl, ?_⟩
    cases hx with
    | str t =>
      obtain ⟨l, rfl⟩ : ∃ l, t = S l := ⟨_, S_of t⟩
      rw [txt_S] at k0
      refine iteF ⟨_, rfl, T.KINDS.a, _, rfl, .inr (T.KINDS.t _), rfl, rfl, _, rfl, ?_⟩
      show if (!inV (.str (S l)) [.str (S [72, 68, 82, 49]), .str (S [69, 79, 70, 49]), .str (S [69, 79, 86, 49])]) = true then _ else _
      rw [inKinds]
      refine iteNB (fun e1 => k1 (by unfold fileRes; rw [txt_S, e1]; rfl) _ (Same.refl _)) (fun e1 => ?_)
      have er : fileRes (.str (S l)) y z o = if (isName y 8 && isName z 6) = false then 2 else if okNums o = false then 3 else 0 := by
        unfold fileRes
        rw [txt_S, e1]
        rfl
      rw [er] at k0 k1 k2 k3
      refine ⟨_, rfl, y, m, 8, rfl, hy, zy, fun e2 H1 s1 => ?_, fun e2 H1 s1 => k2 (by rw [e2]; rfl) _ s1⟩
      refine ⟨_, rfl, z, k, 6, rfl, hz.same s1, zz, fun e3 H2 s2 => ?_, fun e3 H2 s2 => k2 (by rw [e2, e3]; rfl) _ (s1.trans s2)⟩
      rw [e2, e3] at k0 k1 k2 k3
      obtain ⟨a, rfl, ha⟩ := isName_of (m := 8) e2
      obtain ⟨b, rfl, hb⟩ := isName_of (m := 6) e3
      have la := nameL_len ha
      have lb := nameL_len hb
      rw [txt_S, txt_S] at k0
      have s12 := s1.trans s2
      cases o with
      | none =>
        obtain ⟨j, hj, nj⟩ := hu
        have hj2 := hj.same s12
        have bad := k3 rfl
        refine ⟨_, rfl, _, _, _, _, _, rfl, .ty _, hj2.ty, kit_tuple hj2, _, rfl, ?_⟩
        have ej : (j == "tuple") = false := by simpa using nj
        rw [ej]
        exact iteF ⟨_, rfl, _, rfl, iteT (bad _ s12)⟩
      | some xs =>
        obtain ⟨c, rfl, hT, hl, hall⟩ := hu
        have hT2 := sqt_same hT s12
        have hj2 : Pl K H2 (.ref c) "tuple" := .tup hT2
        refine ⟨_, rfl, _, _, _, _, _, rfl, .ty _, hj2.ty, kit_tuple hj2, _, rfl, ?_⟩
        refine iteT ⟨_, rfl, _, _, rfl, .inr hT2, _, _, rfl, .inr (T.LONG.t _), rfl, ?_⟩
        refine ⟨_, rfl, _, rfl, ?_⟩
        refine iteN (fun e4 => ?_) (fun e4 => ?_)
        · refine iteT (k3 ?_ _ s12)
          have : okNums (some xs) = false := by
            show (decide (xs.length = 7) && _) = false
            rw [decide_eq_false, Bool.false_and]
            intro h
            apply e4
            rw [h]
            rfl
          rw [this]
          rfl
        · have e7 : xs.length = 7 := by
            have := V.int.inj e4
            have q : (List.length [V.int 4, V.int 4, V.int 4, V.int 2, V.int 5, V.int 5, V.int 6]) = 7 := rfl
            rw [q] at this
            omega
          refine ⟨_, rfl, c, T.MOSTS.a, xs, mostV, rfl, .inr ⟨hT2, T.MOSTS.t _, ?_⟩⟩
          refine fun D nD => lc_map (walk_zipT (n := 7) (by rw [e7]; rfl)) (((xs.zip mosts).map fun p => isWhole p.1 0 (p.2 : Int)).map V.bl) (by simp [e7, mosts]) (by decide) nD ypair_same (fun H' s => ⟨sqt_same hT2 s, T.MOSTS.t _⟩) (fun i v H3 H4 v2 hi hv2 s3 s4 hY Q2 q2 => ?_) (fun H3 s3 hD => ?_) gTup2_mono
          · obtain ⟨T2, p, q, rfl, h1, rfl, h3, h4⟩ := hY
            refine ⟨T2, _, rfl, .inl (.inl upd_same), rfl, p, [q], rfl, q, [], rfl, rfl, rfl, ?_⟩
            obtain ⟨nn, hpl⟩ := hall p (List.mem_of_getElem? h3)
            have hmo : ∃ mm, mosts[i]? = some mm ∧ q = V.int (mm : Nat) := by
              have h4' : (mosts.map fun n : Nat => V.int (n : Int))[i]? = some q := h4
              rw [List.getElem?_map] at h4'
              cases e : mosts[i]? with
              | none => rw [e] at h4'; cases h4'
              | some mm => rw [e] at h4'; exact ⟨mm, rfl, (Option.some.inj h4').symm⟩
            obtain ⟨mm, hm1, rfl⟩ := hmo
            have ev : v2 = .bl (isWhole p 0 (mm : Int)) := by
              rw [List.getElem?_map, List.getElem?_map, List.getElem?_zip_eq_some (z := (p, mm)) |>.mpr ⟨h3, hm1⟩] at hv2
              exact (Option.some.inj hv2).symm
            subst ev
            exact ⟨_, rfl, _, rfl, p, nn, 0, _, rfl, (hpl.same s12).same s4, q2 _ (Same.refl _)⟩
          · refine ⟨_, _, rfl, SqL.of hD, _, rfl, ?_⟩
            refine iteNB (fun e5 => ?_) (fun e5 => ?_)
            · refine k3 ?_ _ (s12.trans s3)
              have : okNums (some xs) = false := by
                show (decide (xs.length = 7) && _) = false
                unfold wholeAll
                rw [e5, Bool.and_false]
              rw [this]
              rfl
            · have eo : okNums (some xs) = true := by
                show (decide (xs.length = 7) && _) = true
                unfold wholeAll
                rw [e5, e7]
                rfl
              rw [eo] at k0
              obtain ⟨ns, en, ln, hm⟩ := okNums_iff eo
              have exs : xs = ns.map fun n : Nat => V.int (n : Int) := Option.some.inj en
              subst exs
              have s123 := s12.trans s3
              have hT3 := sqt_same hT s123
              refine ⟨_, rfl, c, T.LONG.a, _, [V.int 4, V.int 4, V.int 4, V.int 2, V.int 5, V.int 5, V.int 6], rfl, .inr ⟨hT3, T.LONG.t _, ?_⟩⟩
              refine fun D2 nD2 => lc_map (walk_zipT (n := 7) (by rw [e7]; rfl)) (((ns.zip longs).map fun p => fig p.1 p.2).map fun l => V.str (S l)) (by simp [ln, longs]) (by decide) nD2 ypair_same (fun H' s => ⟨sqt_same hT3 s, T.LONG.t _⟩) (fun i v H4 H5 v2 hi hv2 s4 s5 hY Q2 q2 => ?_) (fun H4 s4 hD2 => ?_) gTup2_mono
              · obtain ⟨T2, p, q, rfl, h1, rfl, h3, h4⟩ := hY
                refine ⟨T2, _, rfl, .inl (.inl upd_same), rfl, p, [q], rfl, q, [], rfl, rfl, rfl, ?_⟩
                obtain ⟨nn, hn1, rfl⟩ : ∃ nn, ns[i]? = some nn ∧ p = V.int (nn : Nat) := by
                  have h3' : (ns.map fun n : Nat => V.int (n : Int))[i]? = some p := h3
                  rw [List.getElem?_map] at h3'
                  cases e : ns[i]? with
                  | none => rw [e] at h3'; cases h3'
                  | some mm => rw [e] at h3'; exact ⟨mm, rfl, (Option.some.inj h3').symm⟩
                obtain ⟨mm, hm1, rfl⟩ : ∃ mm, longs[i]? = some mm ∧ q = V.int (mm : Nat) := by
                  have h4' : (longs.map fun n : Nat => V.int (n : Int))[i]? = some q := h4
                  rw [List.getElem?_map] at h4'
                  cases e : longs[i]? with
                  | none => rw [e] at h4'; cases h4'
                  | some mm => rw [e] at h4'; exact ⟨mm, rfl, (Option.some.inj h4').symm⟩
                have ev : v2 = .str (S (fig nn mm)) := by
                  rw [List.getElem?_map, List.getElem?_map, List.getElem?_zip_eq_some (z := (nn, mm)) |>.mpr ⟨hn1, hm1⟩] at hv2
                  exact (Option.some.inj hv2).symm
                subst ev
                have b1 : nn < 10 ^ 10 := by
                  obtain ⟨mo, hmo⟩ : ∃ mo, mosts[i]? = some mo := by
                    have : i < mosts.length := hi
                    exact ⟨mosts[i], List.getElem?_eq_getElem this⟩
                  have b := hm (nn, mo) (List.mem_of_getElem? (List.getElem?_zip_eq_some (z := (nn, mo)) |>.mpr ⟨hn1, hmo⟩))
                  have : ∀ q ∈ mosts, q ≤ 999999 := by decide
                  have := this mo (List.mem_of_getElem? hmo)
                  simp only at b
                  omega
                have b2 : mm ≤ 1000 := by
                  have : ∀ q ∈ longs, q ≤ 1000 := by decide
                  exact this mm (List.mem_of_getElem? hm1)
                exact ⟨_, rfl, _, rfl, nn, mm, rfl, b1, b2, q2 _ (Same.refl _)⟩
              · have lk := kind_len e1
                have p8 : (pad a 8).length = 8 := pad_len la.2
                have p6 : (pad b 6).length = 6 := pad_len lb.2
                have nl := numsLab_len ln hm
                refine ⟨_, rfl, _, rfl, a, 8, rfl, by omega, by decide, l, _, rfl, rfl, by rw [lk, p8]; decide, _, rfl, b, 6, rfl, by omega, by decide, _, _, rfl, rfl, by rw [List.length_append, lk, p8, p6]; decide, ⟨_, rfl⟩, _, rfl, D2, _, rfl, rfl, SqL.of hD2, ?_, _, _, rfl, rfl, ?_, ?_⟩
                · show (numsLab ns).length ≤ _
                  rw [nl]; decide
                · show _ + (numsLab ns).length ≤ _
                  rw [List.length_append, List.length_append, lk, p8, p6, nl]; decide
                · exact k0 ns rfl rfl ln hm _ (s123.trans s4)
    | int i => exact iteT (iteT (k1 rfl _ (Same.refl _)))
    | bl b => exact iteT (iteT (k1 rfl _ (Same.refl _)))
    | non => exact iteT (iteT (k1 rfl _ (Same.refl _)))
    | lst h => exact iteT (iteT (k1 rfl _ (Same.refl _)))
    | tup h => exact iteT (iteT (k1 rfl _ (Same.refl _)))
    | dct h => exact iteT (iteT (k1 rfl _ (Same.refl _)))
end
end R
set_option maxRecDepth 100000
set_option maxHeartbeats 4000000
namespace R
open PySem PySem.Spec PyProof.Rows L2 RZ
open PySem.W (Datum)
open PySem.NumText
def readNums : List Nat → List Nat → Option (List Nat)
  | [], _ => some []
  | k :: ks, rest => if (rest.take k).all isDig = true then (readNums ks (rest.drop k)).map (digitsVal (rest.take k) :: ·) else none
def readFile (l : List Nat) : Option (List Nat × List Nat × List Nat × List Nat) :=
  if l.length = 48 ∧ isKind (l.take 4) = true then
    (match readNums longs (l.drop 18) with
    | some ns => if nameL (bareL ((l.take 12).drop 4)) 8 = true ∧ nameL (bareL ((l.take 18).drop 12)) 8 = true then some (l.take 4, bareL ((l.take 12).drop 4), bareL ((l.take 18).drop 12), ns) else none
    | none => none)
  else none
def intsV (ns : List Nat) : List V := ns.map fun n : Nat => V.int (n : Int)
section
variable {P : Program} {w : World} {K : PySem.W.Frag} {mg : Str → Option Value} {base : Heap}
/-- a file's label's tuple at p, its numbers at q -/
def FileTup (H : Hp) (p : Addr) (k n f : List Nat) (ns : List Nat) : Prop := ∃ q, H q = some (.tup (intsV ns)) ∧ H p = some (.tup [.str (S k), .str (S n), .str (S f), .ref q])
def sp_read_file_label (K : PySem.W.Frag) (CL : Addr) : Sp := fun vs H Q E => ∃ (x : V) (n : String), vs = [x] ∧ Pl K H x n ∧ Sz x ∧
  (∀ k a b ns, readFile (txt x) = some (k, a, b, ns) → n = "str" → ∀ p q H', Same H H' → H p = none → H q = none → H' q = some (.tup (intsV ns)) → H' p = some (.tup [.str (S k), .str (S a), .str (S b), .ref q]) → Q (.ref p) H') ∧ ((n ≠ "str" ∨ readFile (txt x) = none) → ∀ H', Same H H' → E (.ref CL) none H')
theorem ok_read_file_label (T : Txt K mg) : FnOk P w K mg base (L2.CX P w) 3 T.read_file_label.a T.read_file_label.d ["text"] (sp_read_file_label K T.BadLabel.C) := by
  refine T.read_file_label.F.okX sc_read_file_label (fun vs H Q E h => ?_) (fun cdv A outer s0 H vs Q E hr h => ?_)
  · obtain ⟨x, n, rfl, _⟩ := h
    rfl
  · obtain ⟨x, n, rfl, hx, zx, k1, k2⟩ := h
    refine ⟨_, (pss_cons (ps_if (PW.pt (pw_or (pt_not (pt_val (pe_callB call_isi (by rfl) T.z_isinstance (by decide +kernel) (pa_cons (pv 0) (pa_cons (pe_bltn (v := .ty "str") (by rfl) T.z_str (by decide +kernel) rfl) pa_nil))))) (pw_or (pt_cmpR op_ne (pe_callB call_lenS (by rfl) T.z_len PySem.boot_len (pa_cons (pv 0) pa_nil)) (pe_op op_add pe_int (pe_callB (cr_sumT rfl) (by rfl) T.z_sum (by decide +kernel) (pa_cons (pe_glob (v := .ref T.LONG.a) rfl T.LONG.g rfl) pa_nil))) (nomark _)) (pw_or1 (pt_cmpR op_notIn_seq (pe_slice sl_strS (pv 0) po_none (po_some pe_int)) (pe_glob (v := .ref T.KINDS.a) rfl T.KINDS.g rfl) (by rfl))))))
      (pss_one (ps_raise rfl (takes_of rfl rfl rfl rfl) (pmk_own PySem.F.excBase_ValueError T.BadLabel.x T.BadLabel.g T.BadLabel.k (raises_own T.BadLabel.b T.BadLabel.t) (by exact rfl))))
      pss_nil)
    (pss_cons (ps_set (i := 1) sc_read_file_label.nd rfl (.inl rfl) (pe_lst pa_nil))
    (pss_cons (ps_set (i := 2) sc_read_file_label.nd rfl (.inl rfl) (pe_slice sl_strS (pv 0) (po_some pe_int) po_none))
    (pss_cons (ps_for (passes_of rfl) rfl
      (pi_tup (pe_glob (v := .ref T.LONG.a) rfl T.LONG.g rfl)) (pg_name (i := 3) sc_read_file_label.nd rfl (.inl rfl))
      (pss_cons (ps_expr (pe_bm PySem.F.plainAttrs_list PySem.F.slot_list_append PySem.F.type_list_append mt_append (pv 1) (pa_cons (pe_call (ok_number_in T) (hr.mono (by decide)) (by rfl) T.number_in.g T.number_in.F.kp T.number_in.b .nil (passes_call (takes_of rfl rfl rfl rfl) (fun _ _ _ _ h => h)) (pa_cons (pe_slice sl_strS (pv 2) po_none (po_some (pv 3))) pa_nil)) pa_nil)))
      (pss_one (ps_set (i := 2) sc_read_file_label.nd rfl (.inl rfl) (pe_slice sl_strS (pv 2) (po_some (pv 3)) po_none)))))
    (pss_one (ps_ret (pe_tup (pa_cons (pe_slice sl_strS (pv 0) po_none (po_some pe_int)) (pa_cons (pe_call (ok_bare T) (hr.mono (by decide)) (by rfl) T.bare.g T.bare.F.kp T.bare.b .nil (passes_call (takes_of rfl rfl rfl rfl) (fun _ _ _ _ h => h)) (pa_cons (pe_slice sl_strS (pv 0) (po_some pe_int) (po_some pe_int)) pa_nil)) (pa_cons (pe_call (ok_bare T) (hr.mono (by decide)) (by rfl) T.bare.g T.bare.F.kp T.bare.b .nil (passes_call (takes_of rfl rfl rfl rfl) (fun _ _ _ _ h => h)) (pa_cons (pe_slice sl_strS (pv 0) (po_some pe_int) (po_some pe_int)) pa_nil)) (pa_cons (pe_callTy call_tuple_of (by rfl) T.z_tuple (by decide +kernel) (pa_cons (pv 1) pa_nil)) pa_nil))))))))))), ?_⟩
    refine ⟨_, rfl, _, _, _, _, _, rfl, .ty _, hx.ty, kit_str hx, _, rfl, ?_⟩
    cases hx with
    | str z =>
      obtain ⟨l, rfl⟩ : ∃ l, z = S l := ⟨_, S_of z⟩
      have zl : l.length < 16777216 := by rw [← S_len]; exact zx
      rw [txt_S] at k1 k2
      refine iteF ⟨_, rfl, l, rfl, by omega, T.LONG.a, [4, 4, 4, 2, 5, 5, 6], rfl, T.LONG.t _, _, _, rfl, rfl, rfl, _, rfl, ?_⟩
      refine iteN (fun e => iteT (k2 (.inr ?_) _ (Same.refl _))) (fun e => ?_)
      · unfold readFile
        rw [if_neg]
        intro h
        apply e
        rw [h.1]
        rfl
      · have el : l.length = 48 := by
          have := V.int.inj e
          have q : ([4, 4, 4, 2, 5, 5, 6] : List Int).sum = 30 := by decide
          rw [q] at this
          omega
        refine ⟨_, rfl, _, rfl, l, rfl, by omega, ?_⟩
        rw [show sl l none (some (4 : Int)) = l.take 4 from sl_to l 4]
        refine ⟨T.KINDS.a, _, rfl, .inr (T.KINDS.t _), rfl, rfl, _, rfl, ?_⟩
        show if (!inV (.str (S (l.take 4))) [.str (S [72, 68, 82, 49]), .str (S [69, 79, 70, 49]), .str (S [69, 79, 86, 49])]) = true then _ else _
        rw [inKinds]
        refine iteNB (fun e1 => k2 (.inr (if_neg fun h => ?_)) _ (Same.refl _)) (fun e1 => ?_)
        · rw [h.2] at e1; cases e1
        have er : readFile l = (match readNums longs (l.drop 18) with
          | some ns => if nameL (bareL ((l.take 12).drop 4)) 8 = true ∧ nameL (bareL ((l.take 18).drop 12)) 8 = true then some (l.take 4, bareL ((l.take 12).drop 4), bareL ((l.take 18).drop 12), ns) else none
          | none => none) := if_pos ⟨el, e1⟩
        refine ⟨Nat.zero_le _, fun p np => ?_⟩
        refine ⟨_, rfl, _, rfl, l, rfl, by omega, ?_⟩
        rw [show sl l (some (18 : Int)) none = l.drop 18 from sl_from l 18]
        refine ⟨T.LONG.a, rfl, ⟨_, T.LONG.t _⟩, for_it (walk_tup (xs := intsV longs)) (fun i σ H' => ∃ (rest ns : List Nat) (v : Option V), σ = [some (.str (S l)), some (.ref p), some (.str (S rest)), v] ∧ rest.length = (longs.drop i).sum ∧ ns.length = i ∧
            readNums longs (l.drop 18) = (readNums (longs.drop i) rest).map (ns ++ ·) ∧ H' p = some (.lst (intsV ns)) ∧ Same H H') ⟨l.drop 18, [], none, rfl, by rw [List.length_drop, el]; rfl, rfl, ?_, upd_same, same_new np⟩ (fun i σ H' _ _ => T.LONG.t _) ?_ ?_⟩
        · rw [List.drop_zero]
          cases readNums longs (l.drop 18) <;> rfl
        · rintro i x σ H1 H2 hi ⟨rest, ns, v, rfl, hr1, hn1, hrd, hp, sm⟩ ⟨rfl, hx⟩
          have hi7 : i < longs.length := by rw [intsV, List.length_map] at hi; exact hi
          obtain ⟨k, hk, rfl⟩ : ∃ k, longs[i]? = some k ∧ x = .int (k : Nat) := by
            have hx' : (longs.map fun n : Nat => V.int (n : Int))[i]? = some x := hx
            rw [List.getElem?_map, List.getElem?_eq_getElem hi7] at hx'
            exact ⟨longs[i], List.getElem?_eq_getElem hi7, (Option.some.inj hx').symm⟩
          have hd : longs.drop i = k :: longs.drop (i + 1) := by
            rw [List.drop_eq_getElem_cons hi7]
            rw [List.getElem?_eq_getElem hi7] at hk
            rw [Option.some.inj hk]
          have hk1 : 1 ≤ k ∧ k ≤ 6 := by
            have : ∀ q ∈ longs, 1 ≤ q ∧ q ≤ 6 := by decide
            exact this k (List.mem_of_getElem? hk)
          have hsum : (longs.drop i).sum = k + (longs.drop (i + 1)).sum := by rw [hd, List.sum_cons]
          have hb : (longs.drop i).sum ≤ 30 := by
            have : ∀ q, q < 7 → (longs.drop q).sum ≤ 30 := by decide
            exact this i hi7
          refine ⟨_, rfl, .inl ⟨rfl, _, SqL.of hp⟩, _, rfl, _, rfl, _, rfl, rest, rfl, by omega, ?_⟩
          rw [sl_to]
          have hne : rest.take k ≠ [] := by
            intro e
            have := congrArg List.length e
            rw [List.length_take, List.length_nil] at this
            omega
          refine ⟨rest.take k, rfl, hne, by rw [List.length_take]; omega, fun H3 s3 => ⟨fun e2 => ?_, fun e2 => k2 (.inr ?_) _ (sm.trans s3)⟩⟩
          · have hp3 := s3 _ _ hp
            refine ⟨p, _, _, rfl, rfl, hp3, szl ?_, ?_⟩
            · have : longs.length = 7 := rfl
              rw [intsV, List.length_map]; omega
            refine ⟨_, rfl, _, rfl, _, rfl, rest, rfl, by omega, ?_⟩
            rw [sl_from]
            refine ⟨rest.drop k, ns ++ [digitsVal (rest.take k)], _, rfl, ?_, ?_, ?_, ?_, ?_⟩
            · rw [List.length_drop]; omega
            · rw [List.length_append, hn1]; rfl
            · rw [hrd, hd]
              show Option.map _ (if (rest.take k).all isDig = true then _ else none) = _
              rw [if_pos e2, Option.map_map]
              congr 1
              funext q
              simp
            · rw [upd_same, intsV, intsV, List.map_append]
              all_goals rfl
            · intro b o hb
              rw [upd_ne (ne_of_none hb np)]
              exact s3 _ _ (sm _ _ hb)
          · rw [er, hrd, hd]
            have hnone : readNums (k :: longs.drop (i + 1)) rest = none := if_neg (by rw [e2]; decide)
            rw [hnone]
            rfl
        · rintro σ H1 ⟨rest, ns, v, rfl, hr1, hn1, hrd, hp, sm⟩
          have e7 : longs.drop (intsV longs).length = [] := rfl
          rw [e7] at hrd
          have hrd2 : readNums longs (l.drop 18) = some ns := by
            rw [hrd]
            show some (ns ++ []) = some ns
            rw [List.append_nil]
          rw [hrd2] at er
          have er2 : readFile l = if nameL (bareL ((l.take 12).drop 4)) 8 = true ∧ nameL (bareL ((l.take 18).drop 12)) 8 = true then some (l.take 4, bareL ((l.take 12).drop 4), bareL ((l.take 18).drop 12), ns) else none := er
          refine ⟨_, rfl, _, rfl, l, rfl, by omega, ?_⟩
          rw [show sl l none (some (4 : Int)) = l.take 4 from sl_to l 4]
          refine ⟨_, rfl, _, rfl, _, rfl, l, rfl, by omega, ?_⟩
          rw [show sl l (some (4 : Int)) (some (12 : Int)) = (l.take 12).drop 4 from sl_mid l 4 12]
          refine ⟨(l.take 12).drop 4, rfl, by rw [List.length_drop, List.length_take]; omega, fun H2 s2 => ⟨fun e3 => ?_, fun e3 => k2 (.inr ?_) _ (sm.trans s2)⟩⟩
          · refine ⟨_, rfl, _, rfl, _, rfl, l, rfl, by omega, ?_⟩
            rw [show sl l (some (12 : Int)) (some (18 : Int)) = (l.take 18).drop 12 from sl_mid l 12 18]
            refine ⟨(l.take 18).drop 12, rfl, by rw [List.length_drop, List.length_take]; omega, fun H3 s3 => ⟨fun e4 => ?_, fun e4 => k2 (.inr ?_) _ ((sm.trans s2).trans s3)⟩⟩
            · have s13 := (sm.trans s2).trans s3
              refine ⟨_, rfl, p, _, rfl, .inl ⟨SqL.of (s3 _ _ (s2 _ _ hp)), fun q nq => ?_⟩⟩
              refine ⟨sz (show 4 ≤ 16777216 by decide), fun r nr => k1 _ _ _ ns ?_ rfl r q _ (s13.trans ((same_new nq).trans (same_new nr))) ((s13.trans (same_new nq)).free nr) (s13.free nq) ?_ upd_same⟩
              · rw [er2, if_pos ⟨e3, e4⟩]
              · rw [upd_ne (ne_of_none upd_same nr), upd_same]
            · rw [er2, if_neg]
              intro h
              rw [h.2] at e4
              cases e4
          · rw [er2, if_neg]
            intro h
            rw [h.1] at e3
            cases e3
    | int i => exact iteT (iteT (k2 (.inl (by decide)) _ (Same.refl _)))
    | bl b => exact iteT (iteT (k2 (.inl (by decide)) _ (Same.refl _)))
    | non => exact iteT (iteT (k2 (.inl (by decide)) _ (Same.refl _)))
    | lst h => exact iteT (iteT (k2 (.inl (by decide)) _ (Same.refl _)))
    | tup h => exact iteT (iteT (k2 (.inl (by decide)) _ (Same.refl _)))
    | dct h => exact iteT (iteT (k2 (.inl (by decide)) _ (Same.refl _)))
theorem formLab_parts {l : List Nat} {b s : Nat} (h1 : l.length = 1) (h2 : b ≤ 60) (h3 : s ≤ 200) : (formLab l b s).length = 11 ∧ (formLab l b s).take 4 = [72, 68, 82, 50] ∧ (∀ c, l = [c] → atI (formLab l b s) 4 = some c) ∧ ((formLab l b s).take 8).drop 5 = fig b 3 ∧ (formLab l b s).drop 8 = fig s 3 := by
  have lb : (fig b 3).length = 3 := fig_len (by decide) (by omega)
  have ls : (fig s 3).length = 3 := fig_len (by decide) (by omega)
  match l, h1 with
  | [c], _ =>
    have e : formLab [c] b s = [72, 68, 82, 50, c] ++ (fig b 3 ++ fig s 3) := by
      unfold formLab
      simp
    refine ⟨?_, ?_, fun d hd => ?_, ?_, ?_⟩
    · rw [e, List.length_append, List.length_append, lb, ls]; rfl
    · rw [e]; rfl
    · cases hd
      rw [e]
      exact atI_nat (j := 4) rfl
    · rw [e]
      show ((72 :: 68 :: 82 :: 50 :: c :: (fig b 3 ++ fig s 3)).take 8).drop 5 = _
      show ((fig b 3 ++ fig s 3)).take 3 = _
      rw [List.take_append_of_le_length (by omega), List.take_of_length_le (by omega)]
    · rw [e]
      show (fig b 3 ++ fig s 3).drop 3 = _
      rw [List.drop_append_of_le_length (by omega), List.drop_eq_nil_of_le (by omega), List.nil_append]
theorem fig_ne {n m : Nat} : fig n m ≠ [] := by
  intro e
  have h := congrArg List.length e
  unfold fig at h
  rw [List.length_append, List.length_replicate, List.length_nil] at h
  have := dig_pos n
  omega
theorem fig_dig (n m : Nat) : (fig n m).all isDig = true := List.all_eq_true.mpr fun c hc => (isDig_iff c).mpr (fig_all n m c hc)
/-- of a label that a form gave -/
def sp_read_form_ok : Sp := fun vs H Q _ => ∃ (l : List Nat) (b s : Nat), vs = [.str (S (formLab l b s))] ∧ okForm (.str (S l)) (.int b) (.int s) = true ∧
  ∀ p H', Same H H' → H p = none → H' p = some (.tup [.str (S l), .int b, .int s]) → Q (.ref p) H'
theorem ok_read_form_label (T : Txt K mg) : FnOk P w K mg base (L2.CX P w) 3 T.read_form_label.a T.read_form_label.d ["text"] sp_read_form_ok := by
  refine T.read_form_label.F.okX sc_read_form_label (fun vs H Q E h => ?_) (fun cdv A outer s0 H vs Q E hr h => ?_)
  · obtain ⟨l, b, s, rfl, _⟩ := h
    rfl
  · obtain ⟨l, b, s, rfl, ho, k⟩ := h
    refine ⟨_, (pss_cons (ps_if (PW.pt (pw_or (pt_not (pt_val (pe_callB call_isi (by rfl) T.z_isinstance (by decide +kernel) (pa_cons (pv 0) (pa_cons (pe_bltn (v := .ty "str") (by rfl) T.z_str (by decide +kernel) rfl) pa_nil))))) (pw_or (pt_cmpR op_ne (pe_callB call_lenS (by rfl) T.z_len PySem.boot_len (pa_cons (pv 0) pa_nil)) pe_int (nomark _)) (pw_or (pt_cmpR op_neS (pe_slice sl_strS (pv 0) po_none (po_some pe_int)) (pe_strS (l := [72, 68, 82, 50]) (by decide +kernel)) (nomark _)) (pw_or1 (pt_cmpR op_notInS2 (pe_ix ix_strS (pv 0) pe_int (fun _ _ => rfl)) (pe_glob (v := .str (S [65, 66, 67, 68, 69, 70, 71, 72, 73, 74, 75, 76, 77, 78, 79, 80, 81, 82, 83, 84, 85, 86, 87, 88, 89, 90, 48, 49, 50, 51, 52, 53, 54, 55, 56, 57])) rfl T.SIGNS.g ⟨_, rfl⟩) (by rfl)))))))
      (pss_one (ps_raise rfl (takes_of rfl rfl rfl rfl) (pmk_own PySem.F.excBase_ValueError T.BadLabel.x T.BadLabel.g T.BadLabel.k (raises_own T.BadLabel.b T.BadLabel.t) (by exact rfl))))
      pss_nil)
    (pss_cons (ps_set (i := 1) sc_read_form_label.nd rfl (.inl rfl) (pe_tup (pa_cons (pe_ix ix_strS (pv 0) pe_int (fun _ _ => rfl)) (pa_cons (pe_call (ok_number_in T) (hr.mono (by decide)) (by rfl) T.number_in.g T.number_in.F.kp T.number_in.b .nil (passes_call (takes_of rfl rfl rfl rfl) (fun _ _ _ _ h => h)) (pa_cons (pe_slice sl_strS (pv 0) (po_some pe_int) (po_some pe_int)) pa_nil)) (pa_cons (pe_call (ok_number_in T) (hr.mono (by decide)) (by rfl) T.number_in.g T.number_in.F.kp T.number_in.b .nil (passes_call (takes_of rfl rfl rfl rfl) (fun _ _ _ _ h => h)) (pa_cons (pe_slice sl_strS (pv 0) (po_some pe_int) po_none) pa_nil)) pa_nil)))))
    (pss_cons (ps_try_thru0 (pss_one (ps_expr (pe_call (ok_look_form T) (hr.mono (by decide)) (by rfl) T.look_form.g T.look_form.F.kp T.look_form.b .nil passL (pa_cons (pe_ix ix_tup (pv 1) pe_int (fun _ _ => rfl)) (pa_cons (pe_ix ix_tup (pv 1) pe_int (fun _ _ => rfl)) (pa_cons (pe_ix ix_tup (pv 1) pe_int (fun _ _ => rfl)) pa_nil)))))))
    (pss_one (ps_ret (pv 1)))))), ?_⟩
    obtain ⟨l', b', s', el, eb, es, hl, hb1, hb2, hs1, hs2, _⟩ := okForm_iff ho
    have e1 : l = l' := S_inj.mp (V.str.inj el)
    have e2 : b = b' := by have := V.int.inj eb; omega
    have e3 : s = s' := by have := V.int.inj es; omega
    subst e1 e2 e3
    have hl1 : ∃ c, l = [c] ∧ c ∈ sigL := by
      unfold isForm at hl
      rw [Bool.or_eq_true, Bool.or_eq_true, decide_eq_true_eq, decide_eq_true_eq, decide_eq_true_eq] at hl
      rcases hl with rfl | rfl | rfl
      · exact ⟨_, rfl, by decide⟩
      · exact ⟨_, rfl, by decide⟩
      · exact ⟨_, rfl, by decide⟩
    obtain ⟨c, rfl, hc⟩ := hl1
    obtain ⟨f1, f2, f3, f4, f5⟩ := formLab_parts (l := [c]) (b := b) (s := s) rfl hb2 hs2
    have f3 := f3 c rfl
    generalize hL : formLab [c] b s = L at f1 f2 f3 f4 f5 ⊢
    have hx : Pl K H (.str (S L)) "str" := .str _
    refine ⟨_, rfl, _, _, _, _, _, rfl, .ty _, hx.ty, kit_str hx, _, rfl, ?_⟩
    refine iteF ⟨_, rfl, L, rfl, by omega, rfl, _, rfl, ?_⟩
    refine iteN (c := V.int (L.length : Nat) = V.int 11) (fun e => absurd (by rw [f1]; rfl) e) (fun e => ?_)
    refine ⟨_, rfl, _, rfl, L, rfl, by omega, ?_⟩
    rw [show sl L none (some (4 : Int)) = L.take 4 from sl_to L 4, f2]
    refine ⟨[72, 68, 82, 50], [72, 68, 82, 50], rfl, rfl, _, rfl, ?_⟩
    refine iteN (c := ([72, 68, 82, 50] : List Nat) = [72, 68, 82, 50]) (fun e => absurd rfl e) (fun e => ?_)
    refine ⟨_, rfl, L, _, c, rfl, rfl, by omega, f3, c, sigL, rfl, rfl, _, rfl, ?_⟩
    refine iteN (fun e => absurd hc e) (fun e => ?_)
    refine ⟨_, rfl, L, _, c, rfl, rfl, by omega, f3, ?_⟩
    refine ⟨_, rfl, _, rfl, _, rfl, L, rfl, by omega, ?_⟩
    rw [show sl L (some (5 : Int)) (some (8 : Int)) = (L.take 8).drop 5 from sl_mid L 5 8, f4]
    have lb : (fig b 3).length = 3 := fig_len (by decide) (by omega)
    have ls : (fig s 3).length = 3 := fig_len (by decide) (by omega)
    refine ⟨fig b 3, rfl, fig_ne, by omega, fun H1 s1 => ⟨fun _ => ?_, fun e => absurd (fig_dig b 3) (by rw [e]; decide)⟩⟩
    refine ⟨_, rfl, _, rfl, L, rfl, by omega, ?_⟩
    rw [show sl L (some (8 : Int)) none = L.drop 8 from sl_from L 8, f5]
    refine ⟨fig s 3, rfl, fig_ne, by omega, fun H2 s2 => ⟨fun _ => ?_, fun e => absurd (fig_dig s 3) (by rw [e]; decide)⟩⟩
    rw [fig_val, fig_val]
    refine ⟨sz (show 3 ≤ 16777216 by decide), fun p np => ?_⟩
    have s3 := (s1.trans s2).trans (same_new (o := .tup [.str (S [c]), .int (b : Int), .int (s : Int)]) np)
    have hp : (upd H2 p (.tup [.str (S [c]), .int (b : Int), .int (s : Int)])) p = some (.tup [.str (S [c]), .int (b : Int), .int (s : Int)]) := upd_same
    refine ⟨_, rfl, p, _, 0, _, rfl, rfl, SqT.of hp, rfl, _, rfl, p, _, 1, _, rfl, rfl, SqT.of hp, rfl, _, rfl, p, _, 2, _, rfl, rfl, SqT.of hp, rfl, ?_⟩
    refine ⟨_, _, _, _, _, _, rfl, .str _, .int _, .int _, fun _ => ?_, fun e => absurd ho (by rw [e]; decide)⟩
    exact ⟨_, rfl, k p _ s3 ((s1.trans s2).free np) hp⟩
end
end R
set_option maxRecDepth 100000
set_option maxHeartbeats 4000000
namespace R
open PySem PySem.Spec PyProof.Rows L2 RZ
open PySem.W (Datum)
open PySem.NumText
/-! ### what is read of a label that was written -/
theorem nameL_sig {l : List Nat} {m : Int} (h : nameL l m = true) : ∀ c ∈ l, c ∈ sigL := by
  unfold nameL at h
  rw [Bool.and_eq_true, List.all_eq_true] at h
  exact fun c hc => of_decide_eq_true (h.2 c hc)
theorem sig_not_blank : ∀ c ∈ sigL, c ≠ 32 := by decide
theorem nameL_mono {l : List Nat} {m k : Int} (h : nameL l m = true) (hm : m ≤ k) : nameL l k = true := by
  unfold nameL at h ⊢
  rw [Bool.and_eq_true, Bool.and_eq_true, decide_eq_true_eq, decide_eq_true_eq] at h ⊢
  exact ⟨⟨h.1.1, by omega⟩, h.2⟩
theorem nameL_of {l : List Nat} {m : Nat} (h1 : 1 ≤ l.length) (h2 : l.length ≤ m) (h3 : ∀ c ∈ l, c ∈ sigL) : nameL l m = true := by
  unfold nameL
  rw [Bool.and_eq_true, Bool.and_eq_true, decide_eq_true_eq, decide_eq_true_eq, List.all_eq_true]
  exact ⟨⟨by omega, by omega⟩, fun c hc => decide_eq_true (h3 c hc)⟩
theorem readVol_lab {a b : List Nat} (ha : nameL a 6 = true) (hb : nameL b 8 = true) : readVol (volLab a b) = some (a, b) := by
  have la := nameL_len (m := 6) ha
  have lb := nameL_len (m := 8) hb
  have pa : (pad a 6).length = 6 := pad_len la.2
  have pb : (pad b 8).length = 8 := pad_len lb.2
  have e : volLab a b = [86, 79, 76, 49] ++ (pad a 6 ++ pad b 8) := by unfold volLab; rw [List.append_assoc]
  have e1 : (volLab a b).length = 18 := by rw [e, List.length_append, List.length_append, pa, pb]; rfl
  have e2 : (volLab a b).take 4 = [86, 79, 76, 49] := by rw [e]; rfl
  have e3 : ((volLab a b).take 10).drop 4 = pad a 6 := by
    rw [e]
    show (pad a 6 ++ pad b 8).take 6 = _
    rw [List.take_append_of_le_length (by omega), List.take_of_length_le (by omega)]
  have e4 : (volLab a b).drop 10 = pad b 8 := by
    rw [e]
    show (pad a 6 ++ pad b 8).drop 6 = _
    rw [List.drop_append_of_le_length (by omega), List.drop_eq_nil_of_le (by omega), List.nil_append]
  have b1 := bare_pad (l := a) 6 fun c hc => sig_not_blank c (nameL_sig ha c hc)
  have b2 := bare_pad (l := b) 8 fun c hc => sig_not_blank c (nameL_sig hb c hc)
  unfold readVol
  rw [if_pos ⟨e1, e2⟩, e3, e4, b1, b2, if_pos ⟨nameL_mono ha (by decide), hb⟩]
theorem readNums_lab : ∀ (ks ns : List Nat), ns.length = ks.length → (∀ p ∈ ns.zip ks, p.1 < 10 ^ p.2 ∧ 1 ≤ p.2) → readNums ks (((ns.zip ks).map fun p => fig p.1 p.2).flatten) = some ns
  | [], [], _, _ => rfl
  | [], _ :: _, h, _ => by simp at h
  | _ :: _, [], h, _ => by simp at h
  | k :: ks, n :: ns, h, hp => by
    have ih := readNums_lab ks ns (by simpa using h) fun p hp' => hp p (by rw [List.zip_cons_cons]; exact List.mem_cons_of_mem _ hp')
    have h1 := hp (n, k) (by rw [List.zip_cons_cons]; exact List.mem_cons_self)
    have lf : (fig n k).length = k := fig_len h1.2 h1.1
    rw [List.zip_cons_cons, List.map_cons, List.flatten_cons]
    have e1 : (fig n k ++ ((ns.zip ks).map fun p => fig p.1 p.2).flatten).take k = fig n k := by
      rw [List.take_append_of_le_length (by omega), List.take_of_length_le (by omega)]
    have e2 : (fig n k ++ ((ns.zip ks).map fun p => fig p.1 p.2).flatten).drop k = ((ns.zip ks).map fun p => fig p.1 p.2).flatten := by
      rw [List.drop_append_of_le_length (by omega), List.drop_eq_nil_of_le (by omega), List.nil_append]
    show (if _ then _ else none) = _
    rw [e1, e2, if_pos (fig_dig n k), ih, fig_val]
    rfl
/-- seven numbers that fit a label -/
def Fit (ns : List Nat) : Prop := ns.length = 7 ∧ ∀ p ∈ ns.zip mosts, p.1 ≤ p.2
theorem Fit.longs {ns : List Nat} (h : Fit ns) : ∀ p ∈ ns.zip longs, p.1 < 10 ^ p.2 ∧ 1 ≤ p.2 := by
  obtain ⟨h1, h2⟩ := h
  match ns, h1 with
  | [a, b, c, d, e, f, g], _ =>
    have ha := h2 (a, 9999) (by simp [mosts])
    have hb := h2 (b, 9999) (by simp [mosts])
    have hc := h2 (c, 9999) (by simp [mosts])
    have hd := h2 (d, 99) (by simp [mosts])
    have he := h2 (e, 99999) (by simp [mosts])
    have hf := h2 (f, 99999) (by simp [mosts])
    have hg := h2 (g, 999999) (by simp [mosts])
    simp only at ha hb hc hd he hf hg
    intro p hp
    simp [R.longs] at hp
    rcases hp with rfl | rfl | rfl | rfl | rfl | rfl | rfl <;> (constructor <;> simp only [] <;> omega)
theorem readFile_lab {k n f ns : List Nat} (hk : isKind k = true) (hn : nameL n 8 = true) (hf : nameL f 6 = true) (h : Fit ns) : readFile (fileLab k n f ns) = some (k, n, f, ns) := by
  have lk := kind_len hk
  have ln := nameL_len (m := 8) hn
  have lf := nameL_len (m := 6) hf
  have pn : (pad n 8).length = 8 := pad_len ln.2
  have pf : (pad f 6).length = 6 := pad_len lf.2
  have nl := numsLab_len h.1 h.2
  have e : fileLab k n f ns = k ++ (pad n 8 ++ (pad f 6 ++ numsLab ns)) := by unfold fileLab; simp only [List.append_assoc]
  have e1 : (fileLab k n f ns).length = 48 := by rw [e]; simp only [List.length_append]; omega
  have e2 : (fileLab k n f ns).take 4 = k := by rw [e, List.take_append_of_le_length (by omega), List.take_of_length_le (by omega)]
  have d4 : (fileLab k n f ns).drop 4 = pad n 8 ++ (pad f 6 ++ numsLab ns) := by rw [e, List.drop_append_of_le_length (by omega), List.drop_eq_nil_of_le (by omega), List.nil_append]
  have d12 : (fileLab k n f ns).drop 12 = pad f 6 ++ numsLab ns := by
    rw [show 12 = 4 + 8 from rfl, ← List.drop_drop, d4, List.drop_append_of_le_length (by omega), List.drop_eq_nil_of_le (by omega), List.nil_append]
  have d18 : (fileLab k n f ns).drop 18 = numsLab ns := by
    rw [show 18 = 12 + 6 from rfl, ← List.drop_drop, d12, List.drop_append_of_le_length (by omega), List.drop_eq_nil_of_le (by omega), List.nil_append]
  have e3 : ((fileLab k n f ns).take 12).drop 4 = pad n 8 := by
    rw [List.drop_take, d4, List.take_append_of_le_length (by omega), List.take_of_length_le (by omega)]
  have e4 : ((fileLab k n f ns).take 18).drop 12 = pad f 6 := by
    rw [List.drop_take, d12, List.take_append_of_le_length (by omega), List.take_of_length_le (by omega)]
  have b1 := bare_pad (l := n) 8 fun c hc => sig_not_blank c (nameL_sig hn c hc)
  have b2 := bare_pad (l := f) 6 fun c hc => sig_not_blank c (nameL_sig hf c hc)
  have hr : readNums longs (numsLab ns) = some ns := readNums_lab longs ns (by rw [h.1]; rfl) h.longs
  unfold readFile
  rw [if_pos ⟨e1, by rw [e2]; exact hk⟩, d18, hr, e2, e3, e4, b1, b2]
  show (if _ then _ else _) = _
  rw [if_pos ⟨hn, nameL_mono hf (by decide)⟩]
theorem okNums_of {ns : List Nat} (h : Fit ns) : okNums (some (intsV ns)) = true := by
  obtain ⟨h1, h2⟩ := h
  show (decide ((intsV ns).length = 7) && wholeAll (intsV ns)) = true
  rw [Bool.and_eq_true, decide_eq_true_eq]
  refine ⟨by rw [intsV, List.length_map]; exact h1, ?_⟩
  unfold wholeAll
  rw [List.all_map, List.all_eq_true]
  intro p hp
  have : ∃ q ∈ ns.zip mosts, p = (V.int (q.1 : Nat), q.2) := by
    unfold intsV at hp
    rw [List.zip_map_left] at hp
    obtain ⟨q, hq, e⟩ := List.mem_map.mp hp
    exact ⟨q, hq, e.symm⟩
  obtain ⟨q, hq, rfl⟩ := this
  have := h2 q hq
  show (decide ((0 : Int) ≤ (q.1 : Nat)) && decide (((q.1 : Nat) : Int) ≤ (q.2 : Nat))) = true
  rw [decide_eq_true (by omega), decide_eq_true (by omega)]
  rfl
theorem fileRes_ok {k n f ns : List Nat} (hk : isKind k = true) (hn : nameL n 8 = true) (hf : nameL f 6 = true) (h : Fit ns) : fileRes (.str (S k)) (.str (S n)) (.str (S f)) (some (intsV ns)) = 0 := by
  unfold fileRes
  rw [txt_S, hk, isName_S, isName_S, hn, hf, okNums_of h]
  rfl
theorem numArg_ok {K : PySem.W.Frag} {H : Hp} {a : Addr} {ns : List Nat} (h : SqT K H a (intsV ns)) (f : Fit ns) : NumArg K H (.ref a) (some (intsV ns)) :=
  ⟨a, rfl, h, by rw [intsV, List.length_map, f.1]; decide, fun y hy => by
    obtain ⟨n, _, rfl⟩ := List.mem_map.mp hy
    exact ⟨_, .int _⟩⟩
theorem fit_of : ∀ {xs : List V}, xs.length = 7 → (∀ (i : Nat) x, xs[i]? = some x → ∃ n m : Nat, x = V.int n ∧ mosts[i]? = some m ∧ n ≤ m) → ∃ ns, xs = intsV ns ∧ Fit ns := by
  intro xs h7 h
  match xs, h7 with
  | [x0, x1, x2, x3, x4, x5, x6], _ =>
    obtain ⟨n0, m0, rfl, e0, l0⟩ := h 0 _ rfl
    obtain ⟨n1, m1, rfl, e1, l1⟩ := h 1 _ rfl
    obtain ⟨n2, m2, rfl, e2, l2⟩ := h 2 _ rfl
    obtain ⟨n3, m3, rfl, e3, l3⟩ := h 3 _ rfl
    obtain ⟨n4, m4, rfl, e4, l4⟩ := h 4 _ rfl
    obtain ⟨n5, m5, rfl, e5, l5⟩ := h 5 _ rfl
    obtain ⟨n6, m6, rfl, e6, l6⟩ := h 6 _ rfl
    cases e0; cases e1; cases e2; cases e3; cases e4; cases e5; cases e6
    refine ⟨[n0, n1, n2, n3, n4, n5, n6], rfl, rfl, ?_⟩
    intro p hp
    simp [mosts] at hp
    rcases hp with rfl | rfl | rfl | rfl | rfl | rfl | rfl <;> assumption
theorem intsV_inj : ∀ {a b : List Nat}, intsV a = intsV b → a = b
  | [], [], _ => rfl
  | [], _ :: _, h => by cases h
  | _ :: _, [], h => by cases h
  | x :: a, y :: b, h => by
    have h1 : V.int (x : Int) :: intsV a = V.int (y : Int) :: intsV b := h
    injection h1 with h2 h3
    have h4 := V.int.inj h2
    rw [intsV_inj h3, show x = y by omega]
theorem fit_zero : Fit [0, 0, 0, 0, 0, 0, 0] := ⟨rfl, by decide⟩
theorem dp_nats {K : PySem.W.Frag} {H : Hp} : ∀ ns : List Nat, DpAll K H (intsV ns) (ns.map fun n : Nat => PyData.int n)
  | [] => .nil
  | n :: r => .cons (.int n) (dp_nats r)
theorem plain_nats : ∀ ns : List Nat, PyData.plainAll (ns.map fun n : Nat => PyData.int n) = true
  | [] => rfl
  | n :: r => by
    rw [List.map_cons, PyData.plainAll, plain_nats r]
    rfl
theorem depth_nats : ∀ ns : List Nat, PyData.depthAll (ns.map fun n : Nat => PyData.int n) = 0
  | [] => rfl
  | n :: r => by
    rw [List.map_cons, PyData.depthAll, depth_nats r]
    rfl
/-- the same data: != is false, == is true -/
theorem ne_same {K : PySem.W.Frag} {H : Hp} {x y : V} {d : PyData} {Q : VK} (hx : Dp K H x d) (hy : Dp K H y d) (hp : d.plain = true) (hd : d.depth ≤ 60) (q : Q (.bl false) H) : rNeP K x y H Q :=
  ⟨d, d, hx, hy, hp, hp, hd, by rw [SeqAt.eqv_refl_plain d hp]; exact q⟩
theorem eq_same {K : PySem.W.Frag} {H : Hp} {x y : V} {d : PyData} {Q : VK} (hx : Dp K H x d) (hy : Dp K H y d) (hp : d.plain = true) (hd : d.depth ≤ 60) (q : Q (.bl true) H) : rEqP K x y H Q :=
  ⟨d, d, hx, hy, hp, hp, hd, by rw [SeqAt.eqv_refl_plain d hp]; exact q⟩
end R
set_option maxRecDepth 100000
set_option maxHeartbeats 8000000
namespace R
open PySem PySem.Spec PyProof.Rows L2 RZ
open PySem.W (Datum)
open PySem.NumText
section
variable {P : Program} {w : World} {K : PySem.W.Frag} {mg : Str → Option Value} {base : Heap}
theorem zeros_lab : numsLab [0, 0, 0, 0, 0, 0, 0] = List.replicate 30 48 := by
  have h : ∀ m, fig 0 (m + 1) = List.replicate (m + 1) 48 := fun m => by
    unfold fig
    rw [dig_lt (by decide), List.replicate_succ']
    all_goals rfl
  show fig 0 (3 + 1) ++ (fig 0 (3 + 1) ++ (fig 0 (3 + 1) ++ (fig 0 (1 + 1) ++ (fig 0 (4 + 1) ++ (fig 0 (4 + 1) ++ (fig 0 (5 + 1) ++ [])))))) = _
  rw [h, h, h, h]
  all_goals rfl
def spLaw (K : PySem.W.Frag) : Sp := fun vs H Q _ => ∃ (a : Addr) (ns : List Int), vs = [.ref a] ∧ SqL K H a (ns.map V.int) ∧ ns.length ≤ 63 ∧ ∀ H', Q (.bl true) H'
theorem ok_law (T : Txt K mg) : FnOk P w K mg base (L2.CX P w) 4 T.law.a T.law.d ["_law_script"] (spLaw K) := by
  refine T.law.F.okX sc_law (fun vs H Q E h => ?_) (fun cdv A outer s0 H0 vs Q E hr h => ?_)
  · obtain ⟨a, ns, rfl, _⟩ := h
    rfl
  · obtain ⟨a, ns0, rfl, hS, hlen, kk⟩ := h
    refine ⟨_, (pss_cons (ps_set (i := 1) sc_law.nd rfl (.inr rfl) (pe_call (ok__law_town T) (hr.mono (by decide)) (by rfl) T._law_town.g T._law_town.F.kp T._law_town.b .nil passL (pa_cons (pv 0) pa_nil)))
    (pss_cons (ps_set (i := 3) sc_law.nd rfl (.inl rfl) (pe_joinS (pe_strS (l := []) (by decide +kernel)) (pe_lc (own := [("_law_k", 2)]) (g := gName 2) rfl sc_law.nd (pi_range1 (by rfl) T.z_range (pa_cons (pe_op op_add pe_int (pe_call (ok__law_draw T) (hr.mono (by decide)) (by rfl) T._law_draw.g T._law_draw.F.kp T._law_draw.b .nil passL (pa_cons (pv 1) (pa_cons pe_int pa_nil)))) pa_nil)) (blkOk_by (N := N_law) (sc := defScope s_law) (by decide +kernel)) (fun _ _ _ _ _ => (pg_name (i := 2) sc_law.nd rfl (.inl rfl))) (fun _ _ _ _ _ => pts_nil) (fun _ _ _ _ _ => (pe_call (ok__law_pick T) (hr.mono (by decide)) (by rfl) T._law_pick.g T._law_pick.F.kp T._law_pick.b .nil passL (pa_cons (pv 1) (pa_cons (pe_lst (pa_cons (pe_strS (l := [65]) (by decide +kernel)) (pa_cons (pe_strS (l := [90]) (by decide +kernel)) (pa_cons (pe_strS (l := [48]) (by decide +kernel)) (pa_cons (pe_strS (l := [57]) (by decide +kernel)) (pa_cons (pe_strS (l := [81]) (by decide +kernel)) pa_nil)))))) pa_nil)))))))
    (pss_cons (ps_set (i := 4) sc_law.nd rfl (.inl rfl) (pe_joinS (pe_strS (l := []) (by decide +kernel)) (pe_lc (own := [("_law_k", 2)]) (g := gName 2) rfl sc_law.nd (pi_range1 (by rfl) T.z_range (pa_cons (pe_op op_add pe_int (pe_call (ok__law_draw T) (hr.mono (by decide)) (by rfl) T._law_draw.g T._law_draw.F.kp T._law_draw.b .nil passL (pa_cons (pv 1) (pa_cons pe_int pa_nil)))) pa_nil)) (blkOk_by (N := N_law) (sc := defScope s_law) (by decide +kernel)) (fun _ _ _ _ _ => (pg_name (i := 2) sc_law.nd rfl (.inl rfl))) (fun _ _ _ _ _ => pts_nil) (fun _ _ _ _ _ => (pe_call (ok__law_pick T) (hr.mono (by decide)) (by rfl) T._law_pick.g T._law_pick.F.kp T._law_pick.b .nil passL (pa_cons (pv 1) (pa_cons (pe_lst (pa_cons (pe_strS (l := [65]) (by decide +kernel)) (pa_cons (pe_strS (l := [90]) (by decide +kernel)) (pa_cons (pe_strS (l := [48]) (by decide +kernel)) (pa_cons (pe_strS (l := [57]) (by decide +kernel)) (pa_cons (pe_strS (l := [81]) (by decide +kernel)) pa_nil)))))) pa_nil)))))))
    (pss_cons (ps_set (i := 5) sc_law.nd rfl (.inl rfl) (pe_call (ok_reel_label T) (hr.mono (by decide)) (by rfl) T.reel_label.g T.reel_label.F.kp T.reel_label.b .nil passL (pa_cons (pv 4) (pa_cons (pv 3) pa_nil))))
    (pss_cons (ps_if (PW.pt (pw_or (pt_cmpR op_neS (pv 5) (pe_op op_addS (pe_op op_addS (pe_op op_addS (pe_op op_addS (pe_strS (l := [86, 79, 76, 49]) (by decide +kernel)) (pv 4)) (pe_op op_mulS (pe_strS (l := [32]) (by decide +kernel)) (pe_op op_sub pe_int (pe_callB call_lenS (by rfl) T.z_len PySem.boot_len (pa_cons (pv 4) pa_nil))))) (pv 3)) (pe_op op_mulS (pe_strS (l := [32]) (by decide +kernel)) (pe_op op_sub pe_int (pe_callB call_lenS (by rfl) T.z_len PySem.boot_len (pa_cons (pv 3) pa_nil))))) (nomark _)) (pw_or1 (pt_cmpR (op_neP hr.units) (pe_call (ok_read_reel_label T) (hr.mono (by decide)) (by rfl) T.read_reel_label.g T.read_reel_label.F.kp T.read_reel_label.b .nil passL (pa_cons (pv 5) pa_nil)) (pe_tup (pa_cons (pv 4) (pa_cons (pv 3) pa_nil))) (nomark _)))))
      (pss_one (ps_ret pe_bl))
      pss_nil)
    (pss_cons (ps_set (i := 6) sc_law.nd rfl (.inl rfl) (pe_lst (pa_cons pe_int (pa_cons pe_int (pa_cons pe_int (pa_cons pe_int (pa_cons pe_int (pa_cons pe_int (pa_cons pe_int pa_nil)))))))))
    (pss_cons (ps_set (i := 7) sc_law.nd rfl (.inl rfl) (pe_lst (pa_cons pe_int (pa_cons pe_int (pa_cons pe_int (pa_cons pe_int (pa_cons pe_int (pa_cons pe_int (pa_cons pe_int pa_nil)))))))))
    (pss_cons (ps_set (i := 8) sc_law.nd rfl (.inl rfl) (pe_callTy call_tuple_of (by rfl) T.z_tuple (by decide +kernel) (pa_cons (pe_lc (own := [("_law_top", 15)]) (g := gName 15) rfl sc_law.nd (pi_list (pv 7)) (blkOk_by (N := N_law) (sc := defScope s_law) (by decide +kernel)) (fun _ _ _ _ _ => (pg_name (i := 15) sc_law.nd rfl (.inl rfl))) (fun _ _ _ _ _ => pts_nil) (fun _ _ _ _ _ => (pe_call (ok__law_pick T) (hr.mono (by decide)) (by rfl) T._law_pick.g T._law_pick.F.kp T._law_pick.b .nil passL (pa_cons (pv 1) (pa_cons (pe_lst (pa_cons pe_int (pa_cons (pv 15) (pa_cons (pe_call (ok__law_draw T) (hr.mono (by decide)) (by rfl) T._law_draw.g T._law_draw.F.kp T._law_draw.b .nil passL (pa_cons (pv 1) (pa_cons (pe_op op_add (pv 15) pe_int) pa_nil))) pa_nil)))) pa_nil))))) pa_nil)))
    (pss_cons (ps_set (i := 9) sc_law.nd rfl (.inl rfl) (pe_call (ok__law_pick T) (hr.mono (by decide)) (by rfl) T._law_pick.g T._law_pick.F.kp T._law_pick.b .nil passL (pa_cons (pv 1) (pa_cons (pe_lst (pa_cons (pe_strS (l := [72, 68, 82, 49]) (by decide +kernel)) (pa_cons (pe_strS (l := [69, 79, 70, 49]) (by decide +kernel)) (pa_cons (pe_strS (l := [69, 79, 86, 49]) (by decide +kernel)) pa_nil)))) pa_nil))))
    (pss_cons (ps_set (i := 5) sc_law.nd rfl (.inl rfl) (pe_callN (ok_file_label T) (hr.mono (by decide)) (by rfl) T.file_label.g T.file_label.F.kp T.kb_file_label_numbers passL (pa_cons (pv 9) (pa_cons (pv 3) (pa_cons (pv 4) pa_nil))) (pk_cons (pv 8) pk_nil)))
    (pss_cons (ps_set (i := 10) sc_law.nd rfl (.inl rfl) (pe_op op_addS (pe_op op_addS (pe_op op_addS (pe_op op_addS (pv 9) (pv 3)) (pe_op op_mulS (pe_strS (l := [32]) (by decide +kernel)) (pe_op op_sub pe_int (pe_callB call_lenS (by rfl) T.z_len PySem.boot_len (pa_cons (pv 3) pa_nil))))) (pv 4)) (pe_op op_mulS (pe_strS (l := [32]) (by decide +kernel)) (pe_op op_sub pe_int (pe_callB call_lenS (by rfl) T.z_len PySem.boot_len (pa_cons (pv 4) pa_nil))))))
    (pss_cons (ps_for (passes_of rfl) rfl
      (pi_range1 (by rfl) T.z_range (pa_cons pe_int pa_nil)) (pg_name (i := 2) sc_law.nd rfl (.inl rfl))
      (pss_one (ps_set (i := 10) sc_law.nd rfl (.inl rfl) (pe_op op_addS (pv 10) (pe_call (ok__law_figures T) (hr.mono (by decide)) (by rfl) T._law_figures.g T._law_figures.F.kp T._law_figures.b .nil passL (pa_cons (pe_ix ix_tup (pv 8) (pv 2) (fun _ _ => rfl)) (pa_cons (pe_ix ix_list (pv 6) (pv 2) (fun _ _ => rfl)) pa_nil)))))))
    (pss_cons (ps_if (PW.pt (pw_or (pt_cmpR op_neS (pv 5) (pv 10) (nomark _)) (pw_or1 (pt_cmpR (op_neP hr.units) (pe_call (ok_read_file_label T) (hr.mono (by decide)) (by rfl) T.read_file_label.g T.read_file_label.F.kp T.read_file_label.b .nil passL (pa_cons (pv 5) pa_nil)) (pe_tup (pa_cons (pv 9) (pa_cons (pv 3) (pa_cons (pv 4) (pa_cons (pv 8) pa_nil))))) (nomark _)))))
      (pss_one (ps_ret pe_bl))
      pss_nil)
    (pss_cons (ps_asg (pe_call (ok__law_shape T) (hr.mono (by decide)) (by rfl) T._law_shape.g T._law_shape.F.kp T._law_shape.b .nil passL (pa_cons (pv 1) pa_nil)) (pg_tup rfl (pgs_cons (pg_name (i := 11) sc_law.nd rfl (.inl rfl)) (pgs_cons (pg_name (i := 12) sc_law.nd rfl (.inl rfl)) (pgs_cons (pg_name (i := 13) sc_law.nd rfl (.inl rfl)) pgs_nil)))))
    (pss_cons (ps_set (i := 5) sc_law.nd rfl (.inl rfl) (pe_call (ok_form_label T) (hr.mono (by decide)) (by rfl) T.form_label.g T.form_label.F.kp T.form_label.b .nil passL (pa_cons (pv 11) (pa_cons (pv 12) (pa_cons (pv 13) pa_nil)))))
    (pss_cons (ps_if (PW.pt (pw_or (pt_cmpR op_neS (pv 5) (pe_op op_addS (pe_op op_addS (pe_op op_addS (pe_strS (l := [72, 68, 82, 50]) (by decide +kernel)) (pv 11)) (pe_call (ok__law_figures T) (hr.mono (by decide)) (by rfl) T._law_figures.g T._law_figures.F.kp T._law_figures.b .nil passL (pa_cons (pv 12) (pa_cons pe_int pa_nil)))) (pe_call (ok__law_figures T) (hr.mono (by decide)) (by rfl) T._law_figures.g T._law_figures.F.kp T._law_figures.b .nil passL (pa_cons (pv 13) (pa_cons pe_int pa_nil)))) (nomark _)) (pw_or1 (pt_cmpR (op_neP hr.units) (pe_call (ok_read_form_label T) (hr.mono (by decide)) (by rfl) T.read_form_label.g T.read_form_label.F.kp T.read_form_label.b .nil passL (pa_cons (pv 5) pa_nil)) (pe_tup (pa_cons (pv 11) (pa_cons (pv 12) (pa_cons (pv 13) pa_nil)))) (nomark _)))))
      (pss_one (ps_ret pe_bl))
      pss_nil)
    (pss_cons (ps_for (passes_of rfl) rfl
      (pi_list (pe_lst (pa_cons (pe_call (ok_read_reel_label T) (hr.mono (by decide)) (by rfl) T.read_reel_label.g T.read_reel_label.F.kp T.read_reel_label.b .nil passL (pa_cons (pe_call (ok_reel_label T) (hr.mono (by decide)) (by rfl) T.reel_label.g T.reel_label.F.kp T.reel_label.b .nil passL (pa_cons (pv 4) (pa_cons (pv 3) pa_nil))) pa_nil)) (pa_cons (pe_call (ok_read_form_label T) (hr.mono (by decide)) (by rfl) T.read_form_label.g T.read_form_label.F.kp T.read_form_label.b .nil passL (pa_cons (pv 5) pa_nil)) (pa_cons (pe_call (ok_read_file_label T) (hr.mono (by decide)) (by rfl) T.read_file_label.g T.read_file_label.F.kp T.read_file_label.b .nil passL (pa_cons (pv 10) pa_nil)) pa_nil))))) (pg_name (i := 14) sc_law.nd rfl (.inl rfl))
      (pss_one (ps_if (pt_not (pt_val (pe_callB call_isi (by rfl) T.z_isinstance (by decide +kernel) (pa_cons (pv 14) (pa_cons (pe_bltn (v := .ty "tuple") (by rfl) T.z_tuple (by decide +kernel) rfl) pa_nil)))))
        (pss_one (ps_ret pe_bl))
        pss_nil)))
    (pss_one (ps_ret (pe_cmpR op_eqS (pe_call (ok_file_label T) (hr.mono (by decide)) (by rfl) T.file_label.g T.file_label.F.kp T.bd_file_label.b T.bd_file_label.v passL (pa_cons (pe_strS (l := [72, 68, 82, 49]) (by decide +kernel)) (pa_cons (pv 3) (pa_cons (pv 4) pa_nil)))) (pe_op op_addS (pe_op op_addS (pe_strS (l := [72, 68, 82, 49]) (by decide +kernel)) (pe_slice sl_strS (pv 10) (po_some pe_int) (po_some pe_int))) (pe_op op_mulS (pe_strS (l := [48]) (by decide +kernel)) pe_int)) (nomark _))))))))))))))))))))), ?_⟩
    -- the town
    refine ⟨_, rfl, a, ns0, rfl, hS, hlen, fun t r H1 s1 nt nr T1 => ?_⟩
    -- the name
    refine ⟨⟨_, rfl⟩, _, rfl, t, r, 8, rfl, T1, by decide, by decide, fun z H2 z0 z1 b2 T2 => ⟨_, _, rfl, rfl, _, rfl, by omega, by omega, fun D nD => ?_⟩⟩
    refine lc_draw walk_range (fun _ y => ∃ c, y = V.str (S [c]) ∧ c ∈ sigL) (by omega) nD T2 yfn_same (fun _ _ => trivial) (fun i x H H' hi bb tt hY q qk => ⟨rfl, ?_⟩) (fun xs H3 hl hx b3 T3 hD => ?_) gName_mono
    · refine ⟨_, rfl, sz (by decide), fun p np => ?_⟩
      have n1 := tt.ne np
      refine ⟨t, r, p, _, rfl, town_new tt np, SqL.of upd_same, n1.1, n1.2, by decide, by decide, fun j v H4 hj b4 t4 => qk v H4 ?_ ((But2.of_same (same_new np)).trans b4) t4⟩
      have := List.mem_of_getElem? hj
      simp only [List.mem_cons, List.not_mem_nil, or_false] at this
      rcases this with rfl | rfl | rfl | rfl | rfl
      · exact ⟨65, rfl, by decide⟩
      · exact ⟨90, rfl, by decide⟩
      · exact ⟨48, rfl, by decide⟩
      · exact ⟨57, rfl, by decide⟩
      · exact ⟨81, rfl, by decide⟩
    obtain ⟨nm, rfl, lnm, hnm⟩ := chars_of fun i x hxi => hx i x hxi
    have lnm2 : nm.length = (1 + z).toNat := by rw [← hl, ← lnm]
    have hName : nameL nm 8 = true := nameL_of (m := 8) (by omega) (by omega) hnm
    refine ⟨D, nm.map fun c => [c], rfl, rfl, SqL.of hD, by rw [flat_chars]; omega, ?_⟩
    rw [flat_chars]
    -- the serial
    refine ⟨⟨_, rfl⟩, _, rfl, t, r, 6, rfl, T3, by decide, by decide, fun z2 H4 z20 z21 b4 T4 => ⟨_, _, rfl, rfl, _, rfl, by omega, by omega, fun D2 nD2 => ?_⟩⟩
    refine lc_draw walk_range (fun _ y => ∃ c, y = V.str (S [c]) ∧ c ∈ sigL) (by omega) nD2 T4 yfn_same (fun _ _ => trivial) (fun i x H H' hi bb tt hY q qk => ⟨rfl, ?_⟩) (fun xs H5 hl2 hx2 b5 T5 hD2 => ?_) gName_mono
    · refine ⟨_, rfl, sz (by decide), fun p np => ?_⟩
      have n1 := tt.ne np
      refine ⟨t, r, p, _, rfl, town_new tt np, SqL.of upd_same, n1.1, n1.2, by decide, by decide, fun j v H4 hj b4 t4 => qk v H4 ?_ ((But2.of_same (same_new np)).trans b4) t4⟩
      have := List.mem_of_getElem? hj
      simp only [List.mem_cons, List.not_mem_nil, or_false] at this
      rcases this with rfl | rfl | rfl | rfl | rfl
      · exact ⟨65, rfl, by decide⟩
      · exact ⟨90, rfl, by decide⟩
      · exact ⟨48, rfl, by decide⟩
      · exact ⟨57, rfl, by decide⟩
      · exact ⟨81, rfl, by decide⟩
    obtain ⟨sr, rfl, lsr, hsr⟩ := chars_of fun i x hxi => hx2 i x hxi
    have lsr2 : sr.length = (1 + z2).toNat := by rw [← hl2, ← lsr]
    have hSer : nameL sr 6 = true := nameL_of (m := 6) (by omega) (by omega) hsr
    refine ⟨D2, sr.map fun c => [c], rfl, rfl, SqL.of hD2, by rw [flat_chars]; omega, ?_⟩
    rw [flat_chars]
    -- the label of a reel
    have pS : ∀ H, Pl K H (.str (S sr)) "str" := fun H => .str _
    have pN : ∀ H, Pl K H (.str (S nm)) "str" := fun H => .str _
    have zS : Sz (.str (S sr)) := by show (S sr).length < _; rw [S_len]; omega
    have zN : Sz (.str (S nm)) := by show (S nm).length < _; rw [S_len]; omega
    have nmb : nm.length ≤ 8 := by omega
    have srb : sr.length ≤ 6 := by omega
    have iS : isName (.str (S sr)) 6 = true := by rw [isName_S]; exact hSer
    have iN : isName (.str (S nm)) 8 = true := by rw [isName_S]; exact hName
    refine ⟨_, rfl, _, rfl, _, _, _, _, rfl, pS _, zS, pN _, zN, fun _ _ H6 s6 => ?_, fun e => absurd e (by rw [iS, iN]; decide)⟩
    rw [txt_S, txt_S]
    have pl6 : (pad sr 6).length = 6 := pad_len srb
    have pl8 : (pad nm 8).length = 8 := pad_len nmb
    have t6 : ((6 : Int) - (sr.length : Nat)).toNat = 6 - sr.length := by omega
    have t8 : ((8 : Int) - (nm.length : Nat)).toNat = 8 - nm.length := by omega
    refine ⟨_, rfl, _, rfl, _, sr, rfl, rfl, by simp only [List.length_cons, List.length_nil]; omega, _, rfl, sr, rfl, by omega, _, _, rfl, rfl, 32, _, rfl, rfl, by omega, by omega, _, _, rfl, rfl, ?_, _, rfl, _, nm, rfl, rfl, ?_, _, rfl, nm, rfl, by omega, _, _, rfl, rfl, 32, _, rfl, rfl, by omega, by omega, _, _, rfl, rfl, ?_, volLab sr nm, _, rfl, rfl, _, rfl, ?_⟩
    · simp only [List.length_cons, List.length_nil, List.length_append, List.length_replicate]; omega
    · simp only [List.length_cons, List.length_nil, List.length_append, List.length_replicate]; omega
    · simp only [List.length_cons, List.length_nil, List.length_append, List.length_replicate]; omega
    refine iteN (fun e => absurd ?_ e) (fun _ => ?_)
    · unfold volLab pad
      rw [t6, t8]
      simp only [List.append_assoc]
    have zV : Sz (.str (S (volLab sr nm))) := by
      show (S _).length < _
      rw [S_len]
      unfold volLab
      rw [List.length_append, List.length_append, pl6, pl8]
      decide
    have hV := readVol_lab hSer hName
    refine ⟨_, rfl, .str (S (volLab sr nm)), "str", rfl, .str _, zV, fun x y hxy _ p1 H7 s7 n7 e7 => ?_, fun e => ?_⟩
    rotate_left
    · rw [txt_S, hV] at e
      rcases e with e | e
      · exact absurd rfl e
      · cases e
    rw [txt_S, hV] at hxy
    cases hxy
    refine ⟨_, rfl, _, rfl, sz (show 2 ≤ 16777216 by decide), fun p2 n2 => ?_⟩
    refine ne_same (d := .tuple [.str (S sr), .str (S nm)]) (.tup (SqT.of (same_new n2 _ _ e7)) (.cons (.str _) (.cons (.str _) .nil))) (.tup (SqT.of upd_same) (.cons (.str _) (.cons (.str _) .nil))) rfl (by simp [PyData.depth, PyData.depthAll]) ⟨_, rfl, iteF ?_⟩
    -- the numbers
    refine ⟨sz (by decide), fun p3 n3 => ?_⟩
    refine ⟨sz (by decide), fun p4 n4 => ?_⟩
    have b37 : But2 t r H3 H5 := b4.trans b5
    have T7 := ((T5.same s6).same s7)
    have T10 := town_new (o := .tup [.str (S sr), .str (S nm)]) T7 n2
    have T11 := town_new (o := .lst [.int 4, .int 4, .int 4, .int 2, .int 5, .int 5, .int 6]) T10 n3
    have T12 := town_new (o := .lst [.int 9999, .int 9999, .int 9999, .int 99, .int 99999, .int 99999, .int 999999]) T11 n4
    have ne3 := T10.ne n3
    have ne4 := T11.ne n4
    have ne34 : p3 ≠ p4 := ne_of_none upd_same n4
    refine ⟨_, rfl, p4, rfl, ⟨_, SqL.of upd_same⟩, fun D3 nD3 => ?_⟩
    have nD3a := T12.ne nD3
    refine lc_draw (t := t) (r := r) (walk_list (xs := intsV mosts)) (fun i y => ∃ n m : Nat, y = V.int n ∧ mosts[i]? = some m ∧ n ≤ m) (by decide) nD3 T12 yat_same (fun H b => SqL.of (b _ _ upd_same ne4.1 ne4.2)) (fun i x H H' hi bb tt hY q qk => ⟨rfl, ?_⟩) (fun xs H8 hl3 hx3 b8 T8 hD3 => ?_) gName_mono
    · obtain ⟨rfl, hxi⟩ := hY
      obtain ⟨m, hm, rfl⟩ : ∃ m, mosts[i]? = some m ∧ x = .int (m : Nat) := by
        have h' : (mosts.map fun n : Nat => V.int (n : Int))[i]? = some x := hxi
        rw [List.getElem?_map] at h'
        cases e : mosts[i]? with
        | none => rw [e] at h'; cases h'
        | some mm => rw [e] at h'; exact ⟨mm, rfl, (Option.some.inj h').symm⟩
      have hmb : m ≤ 999999 := by
        have : ∀ q ∈ mosts, q ≤ 999999 := by decide
        exact this m (List.mem_of_getElem? hm)
      refine ⟨_, rfl, _, rfl, _, rfl, _, rfl, _, _, rfl, rfl, t, r, (m : Int) + 1, rfl, tt, by omega, by omega, fun zz Ha h0 h1 ba Ta => ?_⟩
      refine ⟨sz (show 3 ≤ 16777216 by decide), fun p np => ?_⟩
      have n1 := Ta.ne np
      refine ⟨t, r, p, _, rfl, town_new Ta np, SqL.of upd_same, n1.1, n1.2, (show 0 < 3 by decide), (show 3 < 1000 by decide), fun j v Hb hj bb2 Tb => qk v Hb ?_ ((ba.trans (But2.of_same (same_new np))).trans bb2) Tb⟩
      have := List.mem_of_getElem? hj
      simp only [List.mem_cons, List.not_mem_nil, or_false] at this
      rcases this with rfl | rfl | rfl
      · exact ⟨0, m, rfl, hm, Nat.zero_le _⟩
      · exact ⟨m, m, rfl, hm, Nat.le_refl _⟩
      · exact ⟨zz.toNat, m, by congr 1; omega, hm, by omega⟩
    obtain ⟨dr, rfl, hFit⟩ := fit_of hl3 hx3
    refine ⟨D3, _, rfl, .inl ⟨SqL.of hD3, fun pd nd => ?_⟩⟩
    have nda := T8.ne nd
    have T9 := town_new (o := .tup (intsV dr)) T8 nd
    -- the kind
    refine ⟨_, rfl, sz (by decide), fun p5 n5 => ?_⟩
    have ne5 := T9.ne n5
    refine ⟨t, r, p5, _, rfl, town_new T9 n5, SqL.of upd_same, ne5.1, ne5.2, by decide, by decide, fun j v H9 hj b9 T9b => ?_⟩
    obtain ⟨kd, rfl, hkd⟩ : ∃ kd, v = .str (S kd) ∧ isKind kd = true := by
      have := List.mem_of_getElem? hj
      simp only [List.mem_cons, List.not_mem_nil, or_false] at this
      rcases this with rfl | rfl | rfl
      · exact ⟨_, rfl, by decide⟩
      · exact ⟨_, rfl, by decide⟩
      · exact ⟨_, rfl, by decide⟩
    have lkd := kind_len hkd
    have hpd : H9 pd = some (.tup (intsV dr)) := b9 _ _ (same_new n5 _ _ upd_same) nda.1 nda.2
    have hp3 : H9 p3 = some (.lst [.int 4, .int 4, .int 4, .int 2, .int 5, .int 5, .int 6]) := by
      refine b9 _ _ (same_new n5 _ _ (same_new nd _ _ (b8 _ _ ?_ ne3.1 ne3.2))) ne3.1 ne3.2
      rw [upd_ne ne34, upd_same]
    have nl := numsLab_len hFit.1 hFit.2
    have rok := fileRes_ok hkd hName hSer hFit
    -- the label of a file
    refine ⟨_, rfl, _, rfl, _, rfl, _, rfl, rfl, rfl, _, _, _, _, _, _, _, some (intsV dr), rfl, .str (S kd), .str (S nm), zN, .str (S sr), zS, numArg_ok (SqT.of hpd) hFit, fun ns2 _ en _ _ H10 s10 => ?_, fun e => absurd (rok.symm.trans e) (by decide), fun e => absurd (rok.symm.trans e) (by decide), fun e => absurd (rok.symm.trans e) (by decide)⟩
    have en2 : dr = ns2 := by
      exact intsV_inj (Option.some.inj en)
    subst en2
    rw [txt_S, txt_S, txt_S]
    -- what is due
    refine ⟨_, rfl, _, rfl, _, _, rfl, rfl, by omega, _, rfl, nm, rfl, by omega, _, _, rfl, rfl, 32, _, rfl, rfl, by omega, by omega, _, _, rfl, rfl, ?_, _, rfl, _, _, rfl, rfl, ?_, _, rfl, sr, rfl, by omega, _, _, rfl, rfl, 32, _, rfl, rfl, by omega, by omega, _, _, rfl, rfl, ?_, ?_⟩
    · simp only [List.length_cons, List.length_nil, List.length_append, List.length_replicate]; omega
    · simp only [List.length_cons, List.length_nil, List.length_append, List.length_replicate]; omega
    · simp only [List.length_cons, List.length_nil, List.length_append, List.length_replicate]; omega
    rw [t6, t8]
    have hpd10 := s10 _ _ hpd
    have hp310 := s10 _ _ hp3
    refine ⟨7, rfl, by decide, by decide, for_it walk_range (fun i σ H => H = H10 ∧ ∃ v2 : Option V, σ = [some (.ref a), some (.ref t), v2, some (.str (S nm)), some (.str (S sr)), some (.str (S (fileLab kd nm sr dr))), some (.ref p3), some (.ref p4), some (.ref pd), some (.str (S kd)),
      some (.str (S (kd ++ pad nm 8 ++ pad sr 6 ++ (((dr.zip longs).take i).map fun p => fig p.1 p.2).flatten))), none, none, none, none, none]) ⟨rfl, none, ?_⟩ (fun _ _ _ _ _ => trivial) ?_ ?_⟩
    · show [_, _, _, _, _, _, _, _, _, _, _, _, _, _, _, _] = _
      unfold pad
      simp only [List.take_zero, List.map_nil, List.flatten_nil, List.append_nil, List.append_assoc]
    · rintro i x σ H Hx hi ⟨rfl, v2, rfl⟩ ⟨rfl, rfl⟩
      have hi7 : i < 7 := hi
      obtain ⟨n, hn⟩ : ∃ n, dr[i]? = some n := ⟨dr[i]'(by rw [hFit.1]; exact hi7), List.getElem?_eq_getElem _⟩
      obtain ⟨m, hm⟩ : ∃ m, longs[i]? = some m := ⟨longs[i]'hi7, List.getElem?_eq_getElem _⟩
      have hz : (dr.zip longs)[i]? = some (n, m) := List.getElem?_zip_eq_some.mpr ⟨hn, hm⟩
      have hb := hFit.longs (n, m) (List.mem_of_getElem? hz)
      have hmb : m ≤ 6 := by
        have : ∀ q ∈ longs, q ≤ 6 := by decide
        exact this m (List.mem_of_getElem? hm)
      have hnb : n < 10 ^ 10 := Nat.lt_of_lt_of_le hb.1 (Nat.pow_le_pow_right (by decide) (by omega))
      have e0 : (0 : Int) + (i : Nat) = ((i : Nat) : Int) := by omega
      have a1 : atI (intsV dr) ((0 : Int) + (i : Nat)) = some (.int (n : Nat)) := by
        rw [e0]
        exact atI_nat (by unfold intsV; rw [List.getElem?_map, hn]; rfl)
      have a2 : atI [V.int 4, V.int 4, V.int 4, V.int 2, V.int 5, V.int 5, V.int 6] ((0 : Int) + (i : Nat)) = some (.int (m : Nat)) := by
        rw [e0]
        refine atI_nat ?_
        show (longs.map fun n : Nat => V.int (n : Int))[i]? = _
        rw [List.getElem?_map, hm]
        rfl
      refine ⟨_, rfl, _, rfl, _, rfl, pd, _, _, _, rfl, rfl, SqT.of hpd10, a1, _, rfl, _, rfl, p3, _, _, _, rfl, rfl, SqL.of hp310, a2, n, m, rfl, hnb, by omega, _, _, rfl, rfl, ?_, ?_⟩
      · have lt : (((dr.zip longs).take i).map fun p => fig p.1 p.2).flatten.length ≤ 30 := by
          have : (numsLab dr).length = ((((dr.zip longs).take i).map fun p => fig p.1 p.2).flatten ++ (((dr.zip longs).drop i).map fun p => fig p.1 p.2).flatten).length := by
            rw [← List.flatten_append, ← List.map_append, List.take_append_drop]
            rfl
          rw [nl, List.length_append] at this
          omega
        have lf : (fig n m).length = m := fig_len hb.2 hb.1
        simp only [List.length_append, lf, lkd, pl6, pl8]
        omega
      · refine ⟨rfl, some (.int ((0 : Int) + (i : Nat))), ?_⟩
        show [_, _, _, _, _, _, _, _, _, _, _, _, _, _, _, _] = _
        rw [List.take_add_one, hz]
        simp only [Option.toList, List.map_append, List.map_cons, List.map_nil, List.flatten_append, List.flatten_cons, List.flatten_nil, List.append_nil, List.append_assoc]
        all_goals rfl
    · rintro σ H ⟨rfl, v2, rfl⟩
      have ed : kd ++ pad nm 8 ++ pad sr 6 ++ (((dr.zip longs).take (7 : Int).toNat).map fun p => fig p.1 p.2).flatten = fileLab kd nm sr dr := by
        rw [List.take_of_length_le (by rw [List.length_zip, hFit.1]; decide)]
        rfl
      rw [ed]
      refine ⟨_, rfl, _, rfl, _, _, rfl, rfl, _, rfl, ?_⟩
      refine iteN (fun e => absurd rfl e) (fun _ => ?_)
      have zF : Sz (.str (S (fileLab kd nm sr dr))) := by
        show (S _).length < _
        rw [S_len]
        unfold fileLab
        rw [List.length_append, List.length_append, List.length_append, pl6, pl8, nl, lkd]
        decide
      have hF := readFile_lab hkd hName hSer hFit
      refine ⟨_, rfl, _, "str", rfl, .str _, zF, fun k' n' f' ns' hxy _ p6 p7 H11 s11 n6 n7 e7 e6 => ?_, fun e => ?_⟩
      rotate_left
      · rw [txt_S, hF] at e
        rcases e with e | e
        · exact absurd rfl e
        · cases e
      rw [txt_S, hF] at hxy
      cases hxy
      refine ⟨_, rfl, _, rfl, _, rfl, _, rfl, sz (show 4 ≤ 16777216 by decide), fun p8 n8 => ?_⟩
      refine ne_same (d := .tuple [.str (S kd), .str (S nm), .str (S sr), .tuple (dr.map fun n : Nat => PyData.int n)]) (.tup (SqT.of (same_new n8 _ _ e6)) (.cons (.str _) (.cons (.str _) (.cons (.str _) (.cons (.tup (SqT.of (same_new n8 _ _ e7)) (dp_nats dr)) .nil))))) (.tup (SqT.of upd_same) (.cons (.str _) (.cons (.str _) (.cons (.str _) (.cons (.tup (SqT.of (same_new n8 _ _ (s11 _ _ hpd10))) (dp_nats dr)) .nil))))) ?_ ?_ ⟨_, rfl, ?_⟩
      · simp only [PyData.plain, PyData.plainAll, plain_nats, Bool.and_true, Bool.and_self]
      · simp [PyData.depth, PyData.depthAll, depth_nats]
      -- the form
      refine iteF ?_
      have T13 := town_new (o := .tup [.str (S kd), .str (S nm), .str (S sr), .ref pd]) ((T9b.same s10).same s11) n8
      refine ⟨_, rfl, t, r, rfl, T13, fun l b s p9 H12 hok b12 T12 n9 e9 => ?_⟩
      refine ⟨p9, _, rfl, SqT.of e9, rfl, _, _, rfl, _, _, rfl, _, _, rfl, rfl, ?_⟩
      obtain ⟨l', b', s', el, eb, es, hl', hb1, hb2, hs1, hs2, _⟩ := okForm_iff hok
      have el2 : l = l' := S_inj.mp (V.str.inj el)
      have eb2 : b = b' := by have := V.int.inj eb; omega
      have es2 : s = s' := by have := V.int.inj es; omega
      subst el2 eb2 es2
      have l1 : l.length = 1 := by
        unfold isForm at hl'
        rw [Bool.or_eq_true, Bool.or_eq_true, decide_eq_true_eq, decide_eq_true_eq, decide_eq_true_eq] at hl'
        rcases hl' with rfl | rfl | rfl <;> rfl
      have lb : (fig b 3).length = 3 := fig_len (by decide) (by omega)
      have ls : (fig s 3).length = 3 := fig_len (by decide) (by omega)
      refine ⟨_, rfl, _, rfl, _, rfl, _, _, _, _, _, _, rfl, .str (S l), .int b, .int s, fun la ba sa _ ea eb es => ?_, fun e => absurd (hok.symm.trans e) (by decide)⟩
      have ea2 : l = la := S_inj.mp (V.str.inj ea)
      have eb2 : b = ba := by have := V.int.inj eb; omega
      have es2 : s = sa := by have := V.int.inj es; omega
      subst ea2 eb2 es2
      refine ⟨_, rfl, _, rfl, _, _, rfl, rfl, by simp only [List.length_cons, List.length_nil]; omega, _, rfl, b, 3, rfl, by omega, by decide, _, _, rfl, rfl, ?_, _, rfl, s, 3, rfl, by omega, by decide, _, _, rfl, rfl, ?_, _, _, rfl, rfl, _, rfl, ?_⟩
      · rw [List.length_append, l1, lb]; decide
      · rw [List.length_append, List.length_append, l1, lb, ls]; decide
      refine iteN (fun e => absurd rfl e) (fun _ => ?_)
      refine ⟨_, rfl, l, b, s, rfl, hok, fun p10 H13 s13 n10 e10 => ?_⟩
      refine ⟨_, rfl, _, rfl, _, rfl, sz (show 3 ≤ 16777216 by decide), fun p11 n11 => ?_⟩
      refine ne_same (d := .tuple [.str (S l), .int b, .int s]) (.tup (SqT.of (same_new n11 _ _ e10)) (.cons (.str _) (.cons (.int _) (.cons (.int _) .nil)))) (.tup (SqT.of upd_same) (.cons (.str _) (.cons (.int _) (.cons (.int _) .nil)))) rfl (by simp [PyData.depth, PyData.depthAll]) ⟨_, rfl, iteF ?_⟩
      -- all are tuples
      refine ⟨_, rfl, _, rfl, _, _, _, _, rfl, pS _, zS, pN _, zN, fun _ _ H14 s14 => ?_, fun e => absurd e (by rw [iS, iN]; decide)⟩
      rw [txt_S, txt_S]
      refine ⟨.str (S (volLab sr nm)), "str", rfl, .str _, zV, fun x y hxy _ pa H15 s15 n15 e15 => ?_, fun e => ?_⟩
      rotate_left
      · rw [txt_S, hV] at e
        rcases e with e | e
        · exact absurd rfl e
        · cases e
      refine ⟨_, rfl, l, b, s, rfl, hok, fun pb H16 s16 n16 e16 => ?_⟩
      refine ⟨_, rfl, _, "str", rfl, .str _, zF, fun k' n' f' ns' hxy2 _ pc pc2 H17 s17 nc1 nc2 ec2 ec1 => ?_, fun e => ?_⟩
      rotate_left
      · rw [txt_S, hF] at e
        rcases e with e | e
        · exact absurd rfl e
        · cases e
      refine ⟨sz (show 3 ≤ 16777216 by decide), fun pl npl => ?_⟩
      refine ⟨pl, rfl, ⟨_, SqL.of upd_same⟩, ?_⟩
      have g1 := same_new (o := .lst [.ref pa, .ref pb, .ref pc]) npl _ _ (s17 _ _ (s16 _ _ e15))
      have g2 := same_new (o := .lst [.ref pa, .ref pb, .ref pc]) npl _ _ (s17 _ _ e16)
      have g3 := same_new (o := .lst [.ref pa, .ref pb, .ref pc]) npl _ _ ec1
      generalize hG : upd H17 pl (.lst [.ref pa, .ref pb, .ref pc]) = G at g1 g2 g3
      have gl : G pl = some (.lst [.ref pa, .ref pb, .ref pc]) := by rw [← hG]; exact upd_same
      refine for_it (walk_list (xs := [.ref pa, .ref pb, .ref pc])) (fun i σ H => H = G ∧ ∃ v14 : Option V, σ = [some (.ref a), some (.ref t), v2, some (.str (S nm)), some (.str (S sr)), some (.str (S (formLab l b s))), some (.ref p3), some (.ref p4), some (.ref pd), some (.str (S kd)),
        some (.str (S (fileLab kd nm sr dr))), some (.str (S l)), some (.int b), some (.int s), v14, none]) ⟨rfl, none, rfl⟩ (fun i σ H _ h => by rw [h.1]; exact SqL.of gl) ?_ ?_
      · rintro i x σ H Hx hi ⟨rfl, v14, rfl⟩ ⟨rfl, hx⟩
        obtain ⟨q, ys, rfl, hq⟩ : ∃ q ys, x = .ref q ∧ SqT K Hx q ys := by
          have := List.mem_of_getElem? hx
          simp only [List.mem_cons, List.not_mem_nil, or_false] at this
          rcases this with rfl | rfl | rfl
          · exact ⟨_, _, rfl, SqT.of g1⟩
          · exact ⟨_, _, rfl, SqT.of g2⟩
          · exact ⟨_, _, rfl, SqT.of g3⟩
        have hpl : Pl K Hx (.ref q) "tuple" := .tup hq
        refine ⟨_, rfl, _, _, _, _, _, rfl, .ty _, hpl.ty, kit_tuple hpl, _, rfl, iteF ?_⟩
        exact ⟨rfl, _, rfl⟩
      · rintro σ H ⟨rfl, v14, rfl⟩
        -- the default
        have rok2 := fileRes_ok (k := [72, 68, 82, 49]) (by decide) hName hSer fit_zero
        refine ⟨_, rfl, _, rfl, _, _, _, _, _, _, _, some (intsV [0, 0, 0, 0, 0, 0, 0]), rfl, .str (S [72, 68, 82, 49]), .str (S nm), zN, .str (S sr), zS, numArg_ok (T.ZEROS.t _) fit_zero, fun ns2 _ en _ _ H18 s18 => ?_, fun e => absurd (rok2.symm.trans e) (by decide), fun e => absurd (rok2.symm.trans e) (by decide), fun e => absurd (rok2.symm.trans e) (by decide)⟩
        have en2 : [0, 0, 0, 0, 0, 0, 0] = ns2 := by
          exact intsV_inj (Option.some.inj en)
        subst en2
        rw [txt_S, txt_S, txt_S]
        have lF : (fileLab kd nm sr dr).length = 48 := by
          unfold fileLab
          rw [List.length_append, List.length_append, List.length_append, pl6, pl8, nl, lkd]
        refine ⟨_, rfl, _, rfl, _, rfl, _, rfl, by omega, _, _, rfl, rfl, ?_, 48, _, rfl, rfl, by decide, by decide, _, _, rfl, rfl, ?_, fileLab [72, 68, 82, 49] nm sr [0, 0, 0, 0, 0, 0, 0], _, rfl, rfl, ?_⟩
        · rw [show sl (fileLab kd nm sr dr) (some (4 : Int)) (some (18 : Int)) = ((fileLab kd nm sr dr).take 18).drop 4 from sl_mid _ 4 18, List.length_drop, List.length_take, lF]
          decide
        · rw [show sl (fileLab kd nm sr dr) (some (4 : Int)) (some (18 : Int)) = ((fileLab kd nm sr dr).take 18).drop 4 from sl_mid _ 4 18, List.length_append, List.length_drop, List.length_take, lF]
          decide
        have fin : fileLab [72, 68, 82, 49] nm sr [0, 0, 0, 0, 0, 0, 0] = [72, 68, 82, 49] ++ sl (fileLab kd nm sr dr) (some (4 : Int)) (some (18 : Int)) ++ List.replicate (30 : Int).toNat 48 := by
          rw [show sl (fileLab kd nm sr dr) (some (4 : Int)) (some (18 : Int)) = ((fileLab kd nm sr dr).take 18).drop 4 from sl_mid _ 4 18]
          have : ((fileLab kd nm sr dr).take 18).drop 4 = pad nm 8 ++ pad sr 6 := by
            unfold fileLab
            rw [List.take_append_of_le_length (by simp only [List.length_append]; omega), List.take_of_length_le (by simp only [List.length_append]; omega), List.append_assoc, List.drop_append_of_le_length (by omega), List.drop_eq_nil_of_le (by omega), List.nil_append]
          rw [this]
          unfold fileLab
          rw [zeros_lab]
          simp only [List.append_assoc]
          all_goals rfl
        have fin2 := decide_eq_true fin
        exact (congrArg (fun b => Q (.bl b) H18) fin2).mpr (kk _)
end
end R
set_option maxRecDepth 100000
set_option maxHeartbeats 8000000
namespace R
open PySem PySem.Spec PyProof.Rows L2 RZ
theorem lit_65_66_67_68_69_70_71_72_73_74_75_76_77_78_79_80_81_82_83_84_85_86_87_88_89_90_48_49_50_51_52_53_54_55_56_57 : ("ABCDEFGHIJKLMNOPQRSTUVWXYZ0123456789" : Str) = S [65, 66, 67, 68, 69, 70, 71, 72, 73, 74, 75, 76, 77, 78, 79, 80, 81, 82, 83, 84, 85, 86, 87, 88, 89, 90, 48, 49, 50, 51, 52, 53, 54, 55, 56, 57] := by decide +kernel
theorem lit_69_79_70_49 : ("EOF1" : Str) = S [69, 79, 70, 49] := by decide +kernel
theorem lit_69_79_86_49 : ("EOV1" : Str) = S [69, 79, 86, 49] := by decide +kernel
theorem lit_70 : ("F" : Str) = S [70] := by decide +kernel
theorem lit_72_68_82_49 : ("HDR1" : Str) = S [72, 68, 82, 49] := by decide +kernel
theorem lit_83 : ("S" : Str) = S [83] := by decide +kernel
theorem lit_86 : ("V" : Str) = S [86] := by decide +kernel
theorem txt_mk {K : PySem.W.Frag} {h : Heap} {mg : Str → Option Value} (X : K.In h) (G : h.Ns mainGlobals mg) {C_BadName C_BadForm C_BadNumber C_BadLabel f_is_whole f_is_name f_look_name f_look_form f_figures f_padded f_reel_label f_file_label D_file_label f_form_label f_bare f_number_in f_read_reel_label f_read_file_label f_read_form_label f__law_town f__law_draw f__law_pick f__law_shape f__law_figures f_law a_c_FORMS a_c_KINDS a_c_LONG a_c_MOSTS a_c_ZEROS : Addr} {od_is_whole an_is_whole od_is_name an_is_name od_look_name an_look_name od_look_form an_look_form od_figures an_figures od_padded an_padded od_reel_label an_reel_label od_file_label an_file_label od_form_label an_form_label od_bare an_bare od_number_in an_number_in od_read_reel_label an_read_reel_label od_read_file_label an_read_file_label od_read_form_label an_read_form_label od__law_town an__law_town od__law_draw an__law_draw od__law_pick an__law_pick od__law_shape an__law_shape od__law_figures an__law_figures od_law an_law dd_FORMS dd_KINDS dd_LONG dd_MOSTS dd_ZEROS : Option Addr} {oc_is_whole kV_is_whole dc_is_whole pm_is_whole cd_is_whole ct_is_whole oc_is_name kV_is_name dc_is_name pm_is_name cd_is_name ct_is_name oc_look_name kV_look_name dc_look_name pm_look_name cd_look_name ct_look_name oc_look_form kV_look_form dc_look_form pm_look_form cd_look_form ct_look_form oc_figures kV_figures dc_figures pm_figures cd_figures ct_figures oc_padded kV_padded dc_padded pm_padded cd_padded ct_padded oc_reel_label kV_reel_label dc_reel_label pm_reel_label cd_reel_label ct_reel_label oc_file_label dc_file_label pm_file_label cd_file_label ct_file_label oc_form_label kV_form_label dc_form_label pm_form_label cd_form_label ct_form_label oc_bare kV_bare dc_bare pm_bare cd_bare ct_bare oc_number_in kV_number_in dc_number_in pm_number_in cd_number_in ct_number_in oc_read_reel_label kV_read_reel_label dc_read_reel_label pm_read_reel_label cd_read_reel_label ct_read_reel_label oc_read_file_label kV_read_file_label dc_read_file_label pm_read_file_label cd_read_file_label ct_read_file_label oc_read_form_label kV_read_form_label dc_read_form_label pm_read_form_label cd_read_form_label ct_read_form_label oc__law_town kV__law_town dc__law_town pm__law_town cd__law_town ct__law_town oc__law_draw kV__law_draw dc__law_draw pm__law_draw cd__law_draw ct__law_draw oc__law_pick kV__law_pick dc__law_pick pm__law_pick cd__law_pick ct__law_pick oc__law_shape kV__law_shape dc__law_shape pm__law_shape cd__law_shape ct__law_shape oc__law_figures kV__law_figures dc__law_figures pm__law_figures cd__law_figures ct__law_figures oc_law kV_law dc_law pm_law cd_law ct_law : Value} {sl_is_whole sl_is_name sl_look_name sl_look_form sl_figures sl_padded sl_reel_label sl_file_label sl_form_label sl_bare sl_number_in sl_read_reel_label sl_read_file_label sl_read_form_label sl__law_town sl__law_draw sl__law_pick sl__law_shape sl__law_figures sl_law sl_c_FORMS sl_c_KINDS sl_c_LONG sl_c_MOSTS sl_c_ZEROS : Array (Option Value)} {tk_FIXED tk_FORMS_0 tk_FORMS_1 tk_FORMS_2 tk_KINDS_0 tk_KINDS_1 tk_KINDS_2 tk_LONG_0 tk_LONG_1 tk_LONG_2 tk_LONG_3 tk_LONG_4 tk_LONG_5 tk_LONG_6 tk_MOSTS_0 tk_MOSTS_1 tk_MOSTS_2 tk_MOSTS_3 tk_MOSTS_4 tk_MOSTS_5 tk_MOSTS_6 tk_MOST_BLOCK tk_MOST_SIZE tk_SIGNS tk_SPANNED tk_VARIED tk_ZEROS_0 tk_ZEROS_1 tk_ZEROS_2 tk_ZEROS_3 tk_ZEROS_4 tk_ZEROS_5 tk_ZEROS_6 : Tok} {n_FORMS n_KINDS n_LONG n_MOSTS n_ZEROS : Nat}
    (g_BadName : PySem.W.nsIn K mainGlobals "BadName" = some (some (.ref C_BadName)))
    (x_BadName : PySem.W.excIn K C_BadName [.type "ValueError", .type "Exception", .type "BaseException", .type "object"] "ValueError.__new__" = true)
    (k_BadName : PySem.W.keepIn K (.ref C_BadName) = true)
    (b_BadName : PySem.W.subIn K (.ref C_BadName) (.type "BaseException") = some true)
    (t_BadName : PySem.W.typeIn K (.ref C_BadName) = some (.type "type"))
    (g_BadForm : PySem.W.nsIn K mainGlobals "BadForm" = some (some (.ref C_BadForm)))
    (x_BadForm : PySem.W.excIn K C_BadForm [.type "ValueError", .type "Exception", .type "BaseException", .type "object"] "ValueError.__new__" = true)
    (k_BadForm : PySem.W.keepIn K (.ref C_BadForm) = true)
    (b_BadForm : PySem.W.subIn K (.ref C_BadForm) (.type "BaseException") = some true)
    (t_BadForm : PySem.W.typeIn K (.ref C_BadForm) = some (.type "type"))
    (g_BadNumber : PySem.W.nsIn K mainGlobals "BadNumber" = some (some (.ref C_BadNumber)))
    (x_BadNumber : PySem.W.excIn K C_BadNumber [.type "ValueError", .type "Exception", .type "BaseException", .type "object"] "ValueError.__new__" = true)
    (k_BadNumber : PySem.W.keepIn K (.ref C_BadNumber) = true)
    (b_BadNumber : PySem.W.subIn K (.ref C_BadNumber) (.type "BaseException") = some true)
    (t_BadNumber : PySem.W.typeIn K (.ref C_BadNumber) = some (.type "type"))
    (g_BadLabel : PySem.W.nsIn K mainGlobals "BadLabel" = some (some (.ref C_BadLabel)))
    (x_BadLabel : PySem.W.excIn K C_BadLabel [.type "ValueError", .type "Exception", .type "BaseException", .type "object"] "ValueError.__new__" = true)
    (k_BadLabel : PySem.W.keepIn K (.ref C_BadLabel) = true)
    (b_BadLabel : PySem.W.subIn K (.ref C_BadLabel) (.type "BaseException") = some true)
    (t_BadLabel : PySem.W.typeIn K (.ref C_BadLabel) = some (.type "type"))
    (a_is_whole : PySem.W.nsIn K mainGlobals "is_whole" = some (some (.ref f_is_whole)))
    (l_is_whole : K.lookup f_is_whole = some ⟨oc_is_whole, od_is_whole, .func (PySem.W.fnOf "is_whole" "is_whole" (defArgs s_is_whole) (defBody s_is_whole) (defScope s_is_whole) .none kV_is_whole dc_is_whole pm_is_whole an_is_whole cd_is_whole ct_is_whole), sl_is_whole⟩)
    (c_is_whole : PySem.W.codeIn K cd_is_whole "is_whole" = true)
    (k_is_whole : PySem.W.keepIn K (.ref f_is_whole) = true)
    (a_is_name : PySem.W.nsIn K mainGlobals "is_name" = some (some (.ref f_is_name)))
    (l_is_name : K.lookup f_is_name = some ⟨oc_is_name, od_is_name, .func (PySem.W.fnOf "is_name" "is_name" (defArgs s_is_name) (defBody s_is_name) (defScope s_is_name) .none kV_is_name dc_is_name pm_is_name an_is_name cd_is_name ct_is_name), sl_is_name⟩)
    (c_is_name : PySem.W.codeIn K cd_is_name "is_name" = true)
    (k_is_name : PySem.W.keepIn K (.ref f_is_name) = true)
    (a_look_name : PySem.W.nsIn K mainGlobals "look_name" = some (some (.ref f_look_name)))
    (l_look_name : K.lookup f_look_name = some ⟨oc_look_name, od_look_name, .func (PySem.W.fnOf "look_name" "look_name" (defArgs s_look_name) (defBody s_look_name) (defScope s_look_name) .none kV_look_name dc_look_name pm_look_name an_look_name cd_look_name ct_look_name), sl_look_name⟩)
    (c_look_name : PySem.W.codeIn K cd_look_name "look_name" = true)
    (k_look_name : PySem.W.keepIn K (.ref f_look_name) = true)
    (a_look_form : PySem.W.nsIn K mainGlobals "look_form" = some (some (.ref f_look_form)))
    (l_look_form : K.lookup f_look_form = some ⟨oc_look_form, od_look_form, .func (PySem.W.fnOf "look_form" "look_form" (defArgs s_look_form) (defBody s_look_form) (defScope s_look_form) .none kV_look_form dc_look_form pm_look_form an_look_form cd_look_form ct_look_form), sl_look_form⟩)
    (c_look_form : PySem.W.codeIn K cd_look_form "look_form" = true)
    (k_look_form : PySem.W.keepIn K (.ref f_look_form) = true)
    (a_figures : PySem.W.nsIn K mainGlobals "figures" = some (some (.ref f_figures)))
    (l_figures : K.lookup f_figures = some ⟨oc_figures, od_figures, .func (PySem.W.fnOf "figures" "figures" (defArgs s_figures) (defBody s_figures) (defScope s_figures) .none kV_figures dc_figures pm_figures an_figures cd_figures ct_figures), sl_figures⟩)
    (c_figures : PySem.W.codeIn K cd_figures "figures" = true)
    (k_figures : PySem.W.keepIn K (.ref f_figures) = true)
    (a_padded : PySem.W.nsIn K mainGlobals "padded" = some (some (.ref f_padded)))
    (l_padded : K.lookup f_padded = some ⟨oc_padded, od_padded, .func (PySem.W.fnOf "padded" "padded" (defArgs s_padded) (defBody s_padded) (defScope s_padded) .none kV_padded dc_padded pm_padded an_padded cd_padded ct_padded), sl_padded⟩)
    (c_padded : PySem.W.codeIn K cd_padded "padded" = true)
    (k_padded : PySem.W.keepIn K (.ref f_padded) = true)
    (a_reel_label : PySem.W.nsIn K mainGlobals "reel_label" = some (some (.ref f_reel_label)))
    (l_reel_label : K.lookup f_reel_label = some ⟨oc_reel_label, od_reel_label, .func (PySem.W.fnOf "reel_label" "reel_label" (defArgs s_reel_label) (defBody s_reel_label) (defScope s_reel_label) .none kV_reel_label dc_reel_label pm_reel_label an_reel_label cd_reel_label ct_reel_label), sl_reel_label⟩)
    (c_reel_label : PySem.W.codeIn K cd_reel_label "reel_label" = true)
    (k_reel_label : PySem.W.keepIn K (.ref f_reel_label) = true)
    (a_file_label : PySem.W.nsIn K mainGlobals "file_label" = some (some (.ref f_file_label)))
    (l_file_label : K.lookup f_file_label = some ⟨oc_file_label, od_file_label, .func (PySem.W.fnOf "file_label" "file_label" (defArgs s_file_label) (defBody s_file_label) (defScope s_file_label) .none (.ref D_file_label) dc_file_label pm_file_label an_file_label cd_file_label ct_file_label), sl_file_label⟩)
    (c_file_label : PySem.W.codeIn K cd_file_label "file_label" = true)
    (k_file_label : PySem.W.keepIn K (.ref f_file_label) = true)
    (a_form_label : PySem.W.nsIn K mainGlobals "form_label" = some (some (.ref f_form_label)))
    (l_form_label : K.lookup f_form_label = some ⟨oc_form_label, od_form_label, .func (PySem.W.fnOf "form_label" "form_label" (defArgs s_form_label) (defBody s_form_label) (defScope s_form_label) .none kV_form_label dc_form_label pm_form_label an_form_label cd_form_label ct_form_label), sl_form_label⟩)
    (c_form_label : PySem.W.codeIn K cd_form_label "form_label" = true)
    (k_form_label : PySem.W.keepIn K (.ref f_form_label) = true)
    (a_bare : PySem.W.nsIn K mainGlobals "bare" = some (some (.ref f_bare)))
    (l_bare : K.lookup f_bare = some ⟨oc_bare, od_bare, .func (PySem.W.fnOf "bare" "bare" (defArgs s_bare) (defBody s_bare) (defScope s_bare) .none kV_bare dc_bare pm_bare an_bare cd_bare ct_bare), sl_bare⟩)
    (c_bare : PySem.W.codeIn K cd_bare "bare" = true)
    (k_bare : PySem.W.keepIn K (.ref f_bare) = true)
    (a_number_in : PySem.W.nsIn K mainGlobals "number_in" = some (some (.ref f_number_in)))
    (l_number_in : K.lookup f_number_in = some ⟨oc_number_in, od_number_in, .func (PySem.W.fnOf "number_in" "number_in" (defArgs s_number_in) (defBody s_number_in) (defScope s_number_in) .none kV_number_in dc_number_in pm_number_in an_number_in cd_number_in ct_number_in), sl_number_in⟩)
    (c_number_in : PySem.W.codeIn K cd_number_in "number_in" = true)
    (k_number_in : PySem.W.keepIn K (.ref f_number_in) = true)
    (a_read_reel_label : PySem.W.nsIn K mainGlobals "read_reel_label" = some (some (.ref f_read_reel_label)))
    (l_read_reel_label : K.lookup f_read_reel_label = some ⟨oc_read_reel_label, od_read_reel_label, .func (PySem.W.fnOf "read_reel_label" "read_reel_label" (defArgs s_read_reel_label) (defBody s_read_reel_label) (defScope s_read_reel_label) .none kV_read_reel_label dc_read_reel_label pm_read_reel_label an_read_reel_label cd_read_reel_label ct_read_reel_label), sl_read_reel_label⟩)
    (c_read_reel_label : PySem.W.codeIn K cd_read_reel_label "read_reel_label" = true)
    (k_read_reel_label : PySem.W.keepIn K (.ref f_read_reel_label) = true)
    (a_read_file_label : PySem.W.nsIn K mainGlobals "read_file_label" = some (some (.ref f_read_file_label)))
    (l_read_file_label : K.lookup f_read_file_label = some ⟨oc_read_file_label, od_read_file_label, .func (PySem.W.fnOf "read_file_label" "read_file_label" (defArgs s_read_file_label) (defBody s_read_file_label) (defScope s_read_file_label) .none kV_read_file_label dc_read_file_label pm_read_file_label an_read_file_label cd_read_file_label ct_read_file_label), sl_read_file_label⟩)
    (c_read_file_label : PySem.W.codeIn K cd_read_file_label "read_file_label" = true)
    (k_read_file_label : PySem.W.keepIn K (.ref f_read_file_label) = true)
    (a_read_form_label : PySem.W.nsIn K mainGlobals "read_form_label" = some (some (.ref f_read_form_label)))
    (l_read_form_label : K.lookup f_read_form_label = some ⟨oc_read_form_label, od_read_form_label, .func (PySem.W.fnOf "read_form_label" "read_form_label" (defArgs s_read_form_label) (defBody s_read_form_label) (defScope s_read_form_label) .none kV_read_form_label dc_read_form_label pm_read_form_label an_read_form_label cd_read_form_label ct_read_form_label), sl_read_form_label⟩)
    (c_read_form_label : PySem.W.codeIn K cd_read_form_label "read_form_label" = true)
    (k_read_form_label : PySem.W.keepIn K (.ref f_read_form_label) = true)
    (a__law_town : PySem.W.nsIn K mainGlobals "_law_town" = some (some (.ref f__law_town)))
    (l__law_town : K.lookup f__law_town = some ⟨oc__law_town, od__law_town, .func (PySem.W.fnOf "_law_town" "_law_town" (defArgs s__law_town) (defBody s__law_town) (defScope s__law_town) .none kV__law_town dc__law_town pm__law_town an__law_town cd__law_town ct__law_town), sl__law_town⟩)
    (c__law_town : PySem.W.codeIn K cd__law_town "_law_town" = true)
    (k__law_town : PySem.W.keepIn K (.ref f__law_town) = true)
    (a__law_draw : PySem.W.nsIn K mainGlobals "_law_draw" = some (some (.ref f__law_draw)))
    (l__law_draw : K.lookup f__law_draw = some ⟨oc__law_draw, od__law_draw, .func (PySem.W.fnOf "_law_draw" "_law_draw" (defArgs s__law_draw) (defBody s__law_draw) (defScope s__law_draw) .none kV__law_draw dc__law_draw pm__law_draw an__law_draw cd__law_draw ct__law_draw), sl__law_draw⟩)
    (c__law_draw : PySem.W.codeIn K cd__law_draw "_law_draw" = true)
    (k__law_draw : PySem.W.keepIn K (.ref f__law_draw) = true)
    (a__law_pick : PySem.W.nsIn K mainGlobals "_law_pick" = some (some (.ref f__law_pick)))
    (l__law_pick : K.lookup f__law_pick = some ⟨oc__law_pick, od__law_pick, .func (PySem.W.fnOf "_law_pick" "_law_pick" (defArgs s__law_pick) (defBody s__law_pick) (defScope s__law_pick) .none kV__law_pick dc__law_pick pm__law_pick an__law_pick cd__law_pick ct__law_pick), sl__law_pick⟩)
    (c__law_pick : PySem.W.codeIn K cd__law_pick "_law_pick" = true)
    (k__law_pick : PySem.W.keepIn K (.ref f__law_pick) = true)
    (a__law_shape : PySem.W.nsIn K mainGlobals "_law_shape" = some (some (.ref f__law_shape)))
    (l__law_shape : K.lookup f__law_shape = some ⟨oc__law_shape, od__law_shape, .func (PySem.W.fnOf "_law_shape" "_law_shape" (defArgs s__law_shape) (defBody s__law_shape) (defScope s__law_shape) .none kV__law_shape dc__law_shape pm__law_shape an__law_shape cd__law_shape ct__law_shape), sl__law_shape⟩)
    (c__law_shape : PySem.W.codeIn K cd__law_shape "_law_shape" = true)
    (k__law_shape : PySem.W.keepIn K (.ref f__law_shape) = true)
    (a__law_figures : PySem.W.nsIn K mainGlobals "_law_figures" = some (some (.ref f__law_figures)))
    (l__law_figures : K.lookup f__law_figures = some ⟨oc__law_figures, od__law_figures, .func (PySem.W.fnOf "_law_figures" "_law_figures" (defArgs s__law_figures) (defBody s__law_figures) (defScope s__law_figures) .none kV__law_figures dc__law_figures pm__law_figures an__law_figures cd__law_figures ct__law_figures), sl__law_figures⟩)
    (c__law_figures : PySem.W.codeIn K cd__law_figures "_law_figures" = true)
    (k__law_figures : PySem.W.keepIn K (.ref f__law_figures) = true)
    (a_law : PySem.W.nsIn K mainGlobals "law" = some (some (.ref f_law)))
    (l_law : K.lookup f_law = some ⟨oc_law, od_law, .func (PySem.W.fnOf "law" "law" (defArgs s_law) (defBody s_law) (defScope s_law) .none kV_law dc_law pm_law an_law cd_law ct_law), sl_law⟩)
    (c_law : PySem.W.codeIn K cd_law "law" = true)
    (k_law : PySem.W.keepIn K (.ref f_law) = true)
    (g_c_SIGNS : PySem.W.nsIn K mainGlobals "SIGNS" = some (some (.str "ABCDEFGHIJKLMNOPQRSTUVWXYZ0123456789" tk_SIGNS)))
    (g_c_FIXED : PySem.W.nsIn K mainGlobals "FIXED" = some (some (.str "F" tk_FIXED)))
    (g_c_VARIED : PySem.W.nsIn K mainGlobals "VARIED" = some (some (.str "V" tk_VARIED)))
    (g_c_SPANNED : PySem.W.nsIn K mainGlobals "SPANNED" = some (some (.str "S" tk_SPANNED)))
    (g_c_FORMS : PySem.W.nsIn K mainGlobals "FORMS" = some (some (.ref a_c_FORMS)))
    (l_c_FORMS : K.lookup a_c_FORMS = some ⟨.type "tuple", dd_FORMS, .seq #[.str "F" tk_FORMS_0, .str "V" tk_FORMS_1, .str "S" tk_FORMS_2] n_FORMS, sl_c_FORMS⟩)
    (g_c_MOST_BLOCK : PySem.W.nsIn K mainGlobals "MOST_BLOCK" = some (some (.int 60 tk_MOST_BLOCK)))
    (g_c_MOST_SIZE : PySem.W.nsIn K mainGlobals "MOST_SIZE" = some (some (.int 200 tk_MOST_SIZE)))
    (g_c_KINDS : PySem.W.nsIn K mainGlobals "KINDS" = some (some (.ref a_c_KINDS)))
    (l_c_KINDS : K.lookup a_c_KINDS = some ⟨.type "tuple", dd_KINDS, .seq #[.str "HDR1" tk_KINDS_0, .str "EOF1" tk_KINDS_1, .str "EOV1" tk_KINDS_2] n_KINDS, sl_c_KINDS⟩)
    (g_c_LONG : PySem.W.nsIn K mainGlobals "LONG" = some (some (.ref a_c_LONG)))
    (l_c_LONG : K.lookup a_c_LONG = some ⟨.type "tuple", dd_LONG, .seq #[.int 4 tk_LONG_0, .int 4 tk_LONG_1, .int 4 tk_LONG_2, .int 2 tk_LONG_3, .int 5 tk_LONG_4, .int 5 tk_LONG_5, .int 6 tk_LONG_6] n_LONG, sl_c_LONG⟩)
    (g_c_MOSTS : PySem.W.nsIn K mainGlobals "MOSTS" = some (some (.ref a_c_MOSTS)))
    (l_c_MOSTS : K.lookup a_c_MOSTS = some ⟨.type "tuple", dd_MOSTS, .seq #[.int 9999 tk_MOSTS_0, .int 9999 tk_MOSTS_1, .int 9999 tk_MOSTS_2, .int 99 tk_MOSTS_3, .int 99999 tk_MOSTS_4, .int 99999 tk_MOSTS_5, .int 999999 tk_MOSTS_6] n_MOSTS, sl_c_MOSTS⟩)
    (g_c_ZEROS : PySem.W.nsIn K mainGlobals "ZEROS" = some (some (.ref a_c_ZEROS)))
    (l_c_ZEROS : K.lookup a_c_ZEROS = some ⟨.type "tuple", dd_ZEROS, .seq #[.int 0 tk_ZEROS_0, .int 0 tk_ZEROS_1, .int 0 tk_ZEROS_2, .int 0 tk_ZEROS_3, .int 0 tk_ZEROS_4, .int 0 tk_ZEROS_5, .int 0 tk_ZEROS_6] n_ZEROS, sl_c_ZEROS⟩)
    (z_isinstance : PySem.W.nsIn K mainGlobals "isinstance" = some none)
    (z_int : PySem.W.nsIn K mainGlobals "int" = some none)
    (z_bool : PySem.W.nsIn K mainGlobals "bool" = some none)
    (z_str : PySem.W.nsIn K mainGlobals "str" = some none)
    (z_len : PySem.W.nsIn K mainGlobals "len" = some none)
    (z_all : PySem.W.nsIn K mainGlobals "all" = some none)
    (z_tuple : PySem.W.nsIn K mainGlobals "tuple" = some none)
    (z_zip : PySem.W.nsIn K mainGlobals "zip" = some none)
    (z_sum : PySem.W.nsIn K mainGlobals "sum" = some none)
    (z_list : PySem.W.nsIn K mainGlobals "list" = some none)
    (z_range : PySem.W.nsIn K mainGlobals "range" = some none)
    (kd_file_label_numbers : PySem.W.nsIn K D_file_label "numbers" = some (some (.ref a_c_ZEROS)))
    : ∃ T : Txt K mg, T.law.a = f_law ∧ T.law.d = PySem.W.fnOf "law" "law" (defArgs s_law) (defBody s_law) (defScope s_law) .none kV_law dc_law pm_law an_law cd_law ct_law := by
  have F_is_whole := fun_mk (st := s_is_whole) l_is_whole c_is_whole k_is_whole
  have F_is_name := fun_mk (st := s_is_name) l_is_name c_is_name k_is_name
  have F_look_name := fun_mk (st := s_look_name) l_look_name c_look_name k_look_name
  have F_look_form := fun_mk (st := s_look_form) l_look_form c_look_form k_look_form
  have F_figures := fun_mk (st := s_figures) l_figures c_figures k_figures
  have F_padded := fun_mk (st := s_padded) l_padded c_padded k_padded
  have F_reel_label := fun_mk (st := s_reel_label) l_reel_label c_reel_label k_reel_label
  have F_file_label := fun_mk (st := s_file_label) l_file_label c_file_label k_file_label
  have F_form_label := fun_mk (st := s_form_label) l_form_label c_form_label k_form_label
  have F_bare := fun_mk (st := s_bare) l_bare c_bare k_bare
  have F_number_in := fun_mk (st := s_number_in) l_number_in c_number_in k_number_in
  have F_read_reel_label := fun_mk (st := s_read_reel_label) l_read_reel_label c_read_reel_label k_read_reel_label
  have F_read_file_label := fun_mk (st := s_read_file_label) l_read_file_label c_read_file_label k_read_file_label
  have F_read_form_label := fun_mk (st := s_read_form_label) l_read_form_label c_read_form_label k_read_form_label
  have F__law_town := fun_mk (st := s__law_town) l__law_town c__law_town k__law_town
  have F__law_draw := fun_mk (st := s__law_draw) l__law_draw c__law_draw k__law_draw
  have F__law_pick := fun_mk (st := s__law_pick) l__law_pick c__law_pick k__law_pick
  have F__law_shape := fun_mk (st := s__law_shape) l__law_shape c__law_shape k__law_shape
  have F__law_figures := fun_mk (st := s__law_figures) l__law_figures c__law_figures k__law_figures
  have F_law := fun_mk (st := s_law) l_law c_law k_law
  have FD_file_label : FunD K "file_label" "file_label" (defArgs s_file_label) (defBody s_file_label) (defScope s_file_label) [] [("numbers", .ref a_c_ZEROS)] f_file_label _ := ⟨⟨_, _, _, _, _, _, _, _, _, _, rfl, l_file_label, c_file_label, .inl ⟨rfl, rfl⟩, .inr ⟨D_file_label, rfl, fun q hq => by
      simp only [List.mem_cons, List.not_mem_nil, or_false] at hq
      rcases hq with rfl
      · exact ⟨_, kd_file_label_numbers, rfl⟩⟩⟩, k_file_label⟩
  obtain ⟨ds_file_label, dv_file_label, db_file_label⟩ := FD_file_label.binds0 (ps := ["kind", "name", "first", "numbers"]) 3 (by simp) rfl (fun D doc pm an cdv ct us ks hu hk => match us, ks, hu, hk with | [_, _, _], [_], _, _ => ⟨_, _, _, _, _, _, rfl, rfl, rfl⟩)
  exact ⟨{ BadName := ⟨C_BadName, PySem.W.mg_of X G g_BadName, x_BadName, k_BadName, b_BadName, t_BadName⟩, BadForm := ⟨C_BadForm, PySem.W.mg_of X G g_BadForm, x_BadForm, k_BadForm, b_BadForm, t_BadForm⟩, BadNumber := ⟨C_BadNumber, PySem.W.mg_of X G g_BadNumber, x_BadNumber, k_BadNumber, b_BadNumber, t_BadNumber⟩, BadLabel := ⟨C_BadLabel, PySem.W.mg_of X G g_BadLabel, x_BadLabel, k_BadLabel, b_BadLabel, t_BadLabel⟩, is_whole := ⟨f_is_whole, _, F_is_whole, PySem.W.mg_of X G a_is_whole, F_is_whole.binds (ps := ["thing", "low", "high"]) fun _ _ _ _ _ _ us hl => match us, hl with | [_, _, _], _ => rfl⟩, is_name := ⟨f_is_name, _, F_is_name, PySem.W.mg_of X G a_is_name, F_is_name.binds (ps := ["thing", "most"]) fun _ _ _ _ _ _ us hl => match us, hl with | [_, _], _ => rfl⟩, look_name := ⟨f_look_name, _, F_look_name, PySem.W.mg_of X G a_look_name, F_look_name.binds (ps := ["thing", "most"]) fun _ _ _ _ _ _ us hl => match us, hl with | [_, _], _ => rfl⟩, look_form := ⟨f_look_form, _, F_look_form, PySem.W.mg_of X G a_look_form, F_look_form.binds (ps := ["form", "block", "size"]) fun _ _ _ _ _ _ us hl => match us, hl with | [_, _, _], _ => rfl⟩, figures := ⟨f_figures, _, F_figures, PySem.W.mg_of X G a_figures, F_figures.binds (ps := ["number", "many"]) fun _ _ _ _ _ _ us hl => match us, hl with | [_, _], _ => rfl⟩, padded := ⟨f_padded, _, F_padded, PySem.W.mg_of X G a_padded, F_padded.binds (ps := ["name", "many"]) fun _ _ _ _ _ _ us hl => match us, hl with | [_, _], _ => rfl⟩, reel_label := ⟨f_reel_label, _, F_reel_label, PySem.W.mg_of X G a_reel_label, F_reel_label.binds (ps := ["serial", "owner"]) fun _ _ _ _ _ _ us hl => match us, hl with | [_, _], _ => rfl⟩, file_label := ⟨f_file_label, _, F_file_label, PySem.W.mg_of X G a_file_label⟩, form_label := ⟨f_form_label, _, F_form_label, PySem.W.mg_of X G a_form_label, F_form_label.binds (ps := ["form", "block", "size"]) fun _ _ _ _ _ _ us hl => match us, hl with | [_, _, _], _ => rfl⟩, bare := ⟨f_bare, _, F_bare, PySem.W.mg_of X G a_bare, F_bare.binds (ps := ["text"]) fun _ _ _ _ _ _ us hl => match us, hl with | [_], _ => rfl⟩, number_in := ⟨f_number_in, _, F_number_in, PySem.W.mg_of X G a_number_in, F_number_in.binds (ps := ["text"]) fun _ _ _ _ _ _ us hl => match us, hl with | [_], _ => rfl⟩, read_reel_label := ⟨f_read_reel_label, _, F_read_reel_label, PySem.W.mg_of X G a_read_reel_label, F_read_reel_label.binds (ps := ["text"]) fun _ _ _ _ _ _ us hl => match us, hl with | [_], _ => rfl⟩, read_file_label := ⟨f_read_file_label, _, F_read_file_label, PySem.W.mg_of X G a_read_file_label, F_read_file_label.binds (ps := ["text"]) fun _ _ _ _ _ _ us hl => match us, hl with | [_], _ => rfl⟩, read_form_label := ⟨f_read_form_label, _, F_read_form_label, PySem.W.mg_of X G a_read_form_label, F_read_form_label.binds (ps := ["text"]) fun _ _ _ _ _ _ us hl => match us, hl with | [_], _ => rfl⟩, _law_town := ⟨f__law_town, _, F__law_town, PySem.W.mg_of X G a__law_town, F__law_town.binds (ps := ["_law_script"]) fun _ _ _ _ _ _ us hl => match us, hl with | [_], _ => rfl⟩, _law_draw := ⟨f__law_draw, _, F__law_draw, PySem.W.mg_of X G a__law_draw, F__law_draw.binds (ps := ["_law_town_here", "_law_many"]) fun _ _ _ _ _ _ us hl => match us, hl with | [_, _], _ => rfl⟩, _law_pick := ⟨f__law_pick, _, F__law_pick, PySem.W.mg_of X G a__law_pick, F__law_pick.binds (ps := ["_law_town_here", "_law_some"]) fun _ _ _ _ _ _ us hl => match us, hl with | [_, _], _ => rfl⟩, _law_shape := ⟨f__law_shape, _, F__law_shape, PySem.W.mg_of X G a__law_shape, F__law_shape.binds (ps := ["_law_town_here"]) fun _ _ _ _ _ _ us hl => match us, hl with | [_], _ => rfl⟩, _law_figures := ⟨f__law_figures, _, F__law_figures, PySem.W.mg_of X G a__law_figures, F__law_figures.binds (ps := ["_law_number", "_law_long"]) fun _ _ _ _ _ _ us hl => match us, hl with | [_, _], _ => rfl⟩, law := ⟨f_law, _, F_law, PySem.W.mg_of X G a_law, F_law.binds (ps := ["_law_script"]) fun _ _ _ _ _ _ us hl => match us, hl with | [_], _ => rfl⟩, SIGNS := ⟨tk_SIGNS, by rw [← lit_65_66_67_68_69_70_71_72_73_74_75_76_77_78_79_80_81_82_83_84_85_86_87_88_89_90_48_49_50_51_52_53_54_55_56_57]; exact PySem.W.mg_of X G g_c_SIGNS⟩, FIXED := ⟨tk_FIXED, by rw [← lit_70]; exact PySem.W.mg_of X G g_c_FIXED⟩, VARIED := ⟨tk_VARIED, by rw [← lit_86]; exact PySem.W.mg_of X G g_c_VARIED⟩, SPANNED := ⟨tk_SPANNED, by rw [← lit_83]; exact PySem.W.mg_of X G g_c_SPANNED⟩, FORMS := ⟨a_c_FORMS, PySem.W.mg_of X G g_c_FORMS, fun H => .inr ⟨_, _, _, l_c_FORMS, rfl, rfl, sz (by show 3 ≤ 16777216; decide), .cons ⟨_, by rw [lit_70]⟩ (.cons ⟨_, by rw [lit_86]⟩ (.cons ⟨_, by rw [lit_83]⟩ (.nil)))⟩⟩, MOST_BLOCK := ⟨tk_MOST_BLOCK, PySem.W.mg_of X G g_c_MOST_BLOCK⟩, MOST_SIZE := ⟨tk_MOST_SIZE, PySem.W.mg_of X G g_c_MOST_SIZE⟩, KINDS := ⟨a_c_KINDS, PySem.W.mg_of X G g_c_KINDS, fun H => .inr ⟨_, _, _, l_c_KINDS, rfl, rfl, sz (by show 3 ≤ 16777216; decide), .cons ⟨_, by rw [lit_72_68_82_49]⟩ (.cons ⟨_, by rw [lit_69_79_70_49]⟩ (.cons ⟨_, by rw [lit_69_79_86_49]⟩ (.nil)))⟩⟩, LONG := ⟨a_c_LONG, PySem.W.mg_of X G g_c_LONG, fun H => .inr ⟨_, _, _, l_c_LONG, rfl, rfl, sz (by show 7 ≤ 16777216; decide), .cons ⟨_, rfl⟩ (.cons ⟨_, rfl⟩ (.cons ⟨_, rfl⟩ (.cons ⟨_, rfl⟩ (.cons ⟨_, rfl⟩ (.cons ⟨_, rfl⟩ (.cons ⟨_, rfl⟩ (.nil)))))))⟩⟩, MOSTS := ⟨a_c_MOSTS, PySem.W.mg_of X G g_c_MOSTS, fun H => .inr ⟨_, _, _, l_c_MOSTS, rfl, rfl, sz (by show 7 ≤ 16777216; decide), .cons ⟨_, rfl⟩ (.cons ⟨_, rfl⟩ (.cons ⟨_, rfl⟩ (.cons ⟨_, rfl⟩ (.cons ⟨_, rfl⟩ (.cons ⟨_, rfl⟩ (.cons ⟨_, rfl⟩ (.nil)))))))⟩⟩, ZEROS := ⟨a_c_ZEROS, PySem.W.mg_of X G g_c_ZEROS, fun H => .inr ⟨_, _, _, l_c_ZEROS, rfl, rfl, sz (by show 7 ≤ 16777216; decide), .cons ⟨_, rfl⟩ (.cons ⟨_, rfl⟩ (.cons ⟨_, rfl⟩ (.cons ⟨_, rfl⟩ (.cons ⟨_, rfl⟩ (.cons ⟨_, rfl⟩ (.cons ⟨_, rfl⟩ (.nil)))))))⟩⟩, z_isinstance := PySem.W.mg_none_of X G z_isinstance, z_int := PySem.W.mg_none_of X G z_int, z_bool := PySem.W.mg_none_of X G z_bool, z_str := PySem.W.mg_none_of X G z_str, z_len := PySem.W.mg_none_of X G z_len, z_all := PySem.W.mg_none_of X G z_all, z_tuple := PySem.W.mg_none_of X G z_tuple, z_zip := PySem.W.mg_none_of X G z_zip, z_sum := PySem.W.mg_none_of X G z_sum, z_list := PySem.W.mg_none_of X G z_list, z_range := PySem.W.mg_none_of X G z_range, kb_file_label_numbers := ⟨fun s us ws _ h1 h2 => match us, ws, h1, h2 with | [_, _, _], [_], _, _ => .of_eq rfl, fun r1 r2 => r1.append r2⟩, bd_file_label := ⟨ds_file_label, dv_file_label, db_file_label⟩ }, rfl, rfl⟩
theorem all_mk {l : PySem.W.OpenLaw} {w : World} {K : PySem.W.Frag} {h : Heap} {mg : Str → Option Value} {fa : Addr} (X : K.In h) (G : h.Ns mainGlobals mg) (hfa : mg "law" = some (.ref fa)) {C_BadName C_BadForm C_BadNumber C_BadLabel f_is_whole f_is_name f_look_name f_look_form f_figures f_padded f_reel_label f_file_label D_file_label f_form_label f_bare f_number_in f_read_reel_label f_read_file_label f_read_form_label f__law_town f__law_draw f__law_pick f__law_shape f__law_figures f_law a_c_FORMS a_c_KINDS a_c_LONG a_c_MOSTS a_c_ZEROS : Addr} {od_is_whole an_is_whole od_is_name an_is_name od_look_name an_look_name od_look_form an_look_form od_figures an_figures od_padded an_padded od_reel_label an_reel_label od_file_label an_file_label od_form_label an_form_label od_bare an_bare od_number_in an_number_in od_read_reel_label an_read_reel_label od_read_file_label an_read_file_label od_read_form_label an_read_form_label od__law_town an__law_town od__law_draw an__law_draw od__law_pick an__law_pick od__law_shape an__law_shape od__law_figures an__law_figures od_law an_law dd_FORMS dd_KINDS dd_LONG dd_MOSTS dd_ZEROS : Option Addr} {oc_is_whole kV_is_whole dc_is_whole pm_is_whole cd_is_whole ct_is_whole oc_is_name kV_is_name dc_is_name pm_is_name cd_is_name ct_is_name oc_look_name kV_look_name dc_look_name pm_look_name cd_look_name ct_look_name oc_look_form kV_look_form dc_look_form pm_look_form cd_look_form ct_look_form oc_figures kV_figures dc_figures pm_figures cd_figures ct_figures oc_padded kV_padded dc_padded pm_padded cd_padded ct_padded oc_reel_label kV_reel_label dc_reel_label pm_reel_label cd_reel_label ct_reel_label oc_file_label dc_file_label pm_file_label cd_file_label ct_file_label oc_form_label kV_form_label dc_form_label pm_form_label cd_form_label ct_form_label oc_bare kV_bare dc_bare pm_bare cd_bare ct_bare oc_number_in kV_number_in dc_number_in pm_number_in cd_number_in ct_number_in oc_read_reel_label kV_read_reel_label dc_read_reel_label pm_read_reel_label cd_read_reel_label ct_read_reel_label oc_read_file_label kV_read_file_label dc_read_file_label pm_read_file_label cd_read_file_label ct_read_file_label oc_read_form_label kV_read_form_label dc_read_form_label pm_read_form_label cd_read_form_label ct_read_form_label oc__law_town kV__law_town dc__law_town pm__law_town cd__law_town ct__law_town oc__law_draw kV__law_draw dc__law_draw pm__law_draw cd__law_draw ct__law_draw oc__law_pick kV__law_pick dc__law_pick pm__law_pick cd__law_pick ct__law_pick oc__law_shape kV__law_shape dc__law_shape pm__law_shape cd__law_shape ct__law_shape oc__law_figures kV__law_figures dc__law_figures pm__law_figures cd__law_figures ct__law_figures oc_law kV_law dc_law pm_law cd_law ct_law : Value} {sl_is_whole sl_is_name sl_look_name sl_look_form sl_figures sl_padded sl_reel_label sl_file_label sl_form_label sl_bare sl_number_in sl_read_reel_label sl_read_file_label sl_read_form_label sl__law_town sl__law_draw sl__law_pick sl__law_shape sl__law_figures sl_law sl_c_FORMS sl_c_KINDS sl_c_LONG sl_c_MOSTS sl_c_ZEROS : Array (Option Value)} {tk_FIXED tk_FORMS_0 tk_FORMS_1 tk_FORMS_2 tk_KINDS_0 tk_KINDS_1 tk_KINDS_2 tk_LONG_0 tk_LONG_1 tk_LONG_2 tk_LONG_3 tk_LONG_4 tk_LONG_5 tk_LONG_6 tk_MOSTS_0 tk_MOSTS_1 tk_MOSTS_2 tk_MOSTS_3 tk_MOSTS_4 tk_MOSTS_5 tk_MOSTS_6 tk_MOST_BLOCK tk_MOST_SIZE tk_SIGNS tk_SPANNED tk_VARIED tk_ZEROS_0 tk_ZEROS_1 tk_ZEROS_2 tk_ZEROS_3 tk_ZEROS_4 tk_ZEROS_5 tk_ZEROS_6 : Tok} {n_FORMS n_KINDS n_LONG n_MOSTS n_ZEROS : Nat}
    (g_BadName : PySem.W.nsIn K mainGlobals "BadName" = some (some (.ref C_BadName)))
    (x_BadName : PySem.W.excIn K C_BadName [.type "ValueError", .type "Exception", .type "BaseException", .type "object"] "ValueError.__new__" = true)
    (k_BadName : PySem.W.keepIn K (.ref C_BadName) = true)
    (b_BadName : PySem.W.subIn K (.ref C_BadName) (.type "BaseException") = some true)
    (t_BadName : PySem.W.typeIn K (.ref C_BadName) = some (.type "type"))
    (g_BadForm : PySem.W.nsIn K mainGlobals "BadForm" = some (some (.ref C_BadForm)))
    (x_BadForm : PySem.W.excIn K C_BadForm [.type "ValueError", .type "Exception", .type "BaseException", .type "object"] "ValueError.__new__" = true)
    (k_BadForm : PySem.W.keepIn K (.ref C_BadForm) = true)
    (b_BadForm : PySem.W.subIn K (.ref C_BadForm) (.type "BaseException") = some true)
    (t_BadForm : PySem.W.typeIn K (.ref C_BadForm) = some (.type "type"))
    (g_BadNumber : PySem.W.nsIn K mainGlobals "BadNumber" = some (some (.ref C_BadNumber)))
    (x_BadNumber : PySem.W.excIn K C_BadNumber [.type "ValueError", .type "Exception", .type "BaseException", .type "object"] "ValueError.__new__" = true)
    (k_BadNumber : PySem.W.keepIn K (.ref C_BadNumber) = true)
    (b_BadNumber : PySem.W.subIn K (.ref C_BadNumber) (.type "BaseException") = some true)
    (t_BadNumber : PySem.W.typeIn K (.ref C_BadNumber) = some (.type "type"))
    (g_BadLabel : PySem.W.nsIn K mainGlobals "BadLabel" = some (some (.ref C_BadLabel)))
    (x_BadLabel : PySem.W.excIn K C_BadLabel [.type "ValueError", .type "Exception", .type "BaseException", .type "object"] "ValueError.__new__" = true)
    (k_BadLabel : PySem.W.keepIn K (.ref C_BadLabel) = true)
    (b_BadLabel : PySem.W.subIn K (.ref C_BadLabel) (.type "BaseException") = some true)
    (t_BadLabel : PySem.W.typeIn K (.ref C_BadLabel) = some (.type "type"))
    (a_is_whole : PySem.W.nsIn K mainGlobals "is_whole" = some (some (.ref f_is_whole)))
    (l_is_whole : K.lookup f_is_whole = some ⟨oc_is_whole, od_is_whole, .func (PySem.W.fnOf "is_whole" "is_whole" (defArgs s_is_whole) (defBody s_is_whole) (defScope s_is_whole) .none kV_is_whole dc_is_whole pm_is_whole an_is_whole cd_is_whole ct_is_whole), sl_is_whole⟩)
    (c_is_whole : PySem.W.codeIn K cd_is_whole "is_whole" = true)
    (k_is_whole : PySem.W.keepIn K (.ref f_is_whole) = true)
    (a_is_name : PySem.W.nsIn K mainGlobals "is_name" = some (some (.ref f_is_name)))
    (l_is_name : K.lookup f_is_name = some ⟨oc_is_name, od_is_name, .func (PySem.W.fnOf "is_name" "is_name" (defArgs s_is_name) (defBody s_is_name) (defScope s_is_name) .none kV_is_name dc_is_name pm_is_name an_is_name cd_is_name ct_is_name), sl_is_name⟩)
    (c_is_name : PySem.W.codeIn K cd_is_name "is_name" = true)
    (k_is_name : PySem.W.keepIn K (.ref f_is_name) = true)
    (a_look_name : PySem.W.nsIn K mainGlobals "look_name" = some (some (.ref f_look_name)))
    (l_look_name : K.lookup f_look_name = some ⟨oc_look_name, od_look_name, .func (PySem.W.fnOf "look_name" "look_name" (defArgs s_look_name) (defBody s_look_name) (defScope s_look_name) .none kV_look_name dc_look_name pm_look_name an_look_name cd_look_name ct_look_name), sl_look_name⟩)
    (c_look_name : PySem.W.codeIn K cd_look_name "look_name" = true)
    (k_look_name : PySem.W.keepIn K (.ref f_look_name) = true)
    (a_look_form : PySem.W.nsIn K mainGlobals "look_form" = some (some (.ref f_look_form)))
    (l_look_form : K.lookup f_look_form = some ⟨oc_look_form, od_look_form, .func (PySem.W.fnOf "look_form" "look_form" (defArgs s_look_form) (defBody s_look_form) (defScope s_look_form) .none kV_look_form dc_look_form pm_look_form an_look_form cd_look_form ct_look_form), sl_look_form⟩)
    (c_look_form : PySem.W.codeIn K cd_look_form "look_form" = true)
    (k_look_form : PySem.W.keepIn K (.ref f_look_form) = true)
    (a_figures : PySem.W.nsIn K mainGlobals "figures" = some (some (.ref f_figures)))
    (l_figures : K.lookup f_figures = some ⟨oc_figures, od_figures, .func (PySem.W.fnOf "figures" "figures" (defArgs s_figures) (defBody s_figures) (defScope s_figures) .none kV_figures dc_figures pm_figures an_figures cd_figures ct_figures), sl_figures⟩)
    (c_figures : PySem.W.codeIn K cd_figures "figures" = true)
    (k_figures : PySem.W.keepIn K (.ref f_figures) = true)
    (a_padded : PySem.W.nsIn K mainGlobals "padded" = some (some (.ref f_padded)))
    (l_padded : K.lookup f_padded = some ⟨oc_padded, od_padded, .func (PySem.W.fnOf "padded" "padded" (defArgs s_padded) (defBody s_padded) (defScope s_padded) .none kV_padded dc_padded pm_padded an_padded cd_padded ct_padded), sl_padded⟩)
    (c_padded : PySem.W.codeIn K cd_padded "padded" = true)
    (k_padded : PySem.W.keepIn K (.ref f_padded) = true)
    (a_reel_label : PySem.W.nsIn K mainGlobals "reel_label" = some (some (.ref f_reel_label)))
    (l_reel_label : K.lookup f_reel_label = some ⟨oc_reel_label, od_reel_label, .func (PySem.W.fnOf "reel_label" "reel_label" (defArgs s_reel_label) (defBody s_reel_label) (defScope s_reel_label) .none kV_reel_label dc_reel_label pm_reel_label an_reel_label cd_reel_label ct_reel_label), sl_reel_label⟩)
    (c_reel_label : PySem.W.codeIn K cd_reel_label "reel_label" = true)
    (k_reel_label : PySem.W.keepIn K (.ref f_reel_label) = true)
    (a_file_label : PySem.W.nsIn K mainGlobals "file_label" = some (some (.ref f_file_label)))
    (l_file_label : K.lookup f_file_label = some ⟨oc_file_label, od_file_label, .func (PySem.W.fnOf "file_label" "file_label" (defArgs s_file_label) (defBody s_file_label) (defScope s_file_label) .none (.ref D_file_label) dc_file_label pm_file_label an_file_label cd_file_label ct_file_label), sl_file_label⟩)
    (c_file_label : PySem.W.codeIn K cd_file_label "file_label" = true)
    (k_file_label : PySem.W.keepIn K (.ref f_file_label) = true)
    (a_form_label : PySem.W.nsIn K mainGlobals "form_label" = some (some (.ref f_form_label)))
    (l_form_label : K.lookup f_form_label = some ⟨oc_form_label, od_form_label, .func (PySem.W.fnOf "form_label" "form_label" (defArgs s_form_label) (defBody s_form_label) (defScope s_form_label) .none kV_form_label dc_form_label pm_form_label an_form_label cd_form_label ct_form_label), sl_form_label⟩)
    (c_form_label : PySem.W.codeIn K cd_form_label "form_label" = true)
    (k_form_label : PySem.W.keepIn K (.ref f_form_label) = true)
    (a_bare : PySem.W.nsIn K mainGlobals "bare" = some (some (.ref f_bare)))
    (l_bare : K.lookup f_bare = some ⟨oc_bare, od_bare, .func (PySem.W.fnOf "bare" "bare" (defArgs s_bare) (defBody s_bare) (defScope s_bare) .none kV_bare dc_bare pm_bare an_bare cd_bare ct_bare), sl_bare⟩)
    (c_bare : PySem.W.codeIn K cd_bare "bare" = true)
    (k_bare : PySem.W.keepIn K (.ref f_bare) = true)
    (a_number_in : PySem.W.nsIn K mainGlobals "number_in" = some (some (.ref f_number_in)))
    (l_number_in : K.lookup f_number_in = some ⟨oc_number_in, od_number_in, .func (PySem.W.fnOf "number_in" "number_in" (defArgs s_number_in) (defBody s_number_in) (defScope s_number_in) .none kV_number_in dc_number_in pm_number_in an_number_in cd_number_in ct_number_in), sl_number_in⟩)
    (c_number_in : PySem.W.codeIn K cd_number_in "number_in" = true)
    (k_number_in : PySem.W.keepIn K (.ref f_number_in) = true)
    (a_read_reel_label : PySem.W.nsIn K mainGlobals "read_reel_label" = some (some (.ref f_read_reel_label)))
    (l_read_reel_label : K.lookup f_read_reel_label = some ⟨oc_read_reel_label, od_read_reel_label, .func (PySem.W.fnOf "read_reel_label" "read_reel_label" (defArgs s_read_reel_label) (defBody s_read_reel_label) (defScope s_read_reel_label) .none kV_read_reel_label dc_read_reel_label pm_read_reel_label an_read_reel_label cd_read_reel_label ct_read_reel_label), sl_read_reel_label⟩)
    (c_read_reel_label : PySem.W.codeIn K cd_read_reel_label "read_reel_label" = true)
    (k_read_reel_label : PySem.W.keepIn K (.ref f_read_reel_label) = true)
    (a_read_file_label : PySem.W.nsIn K mainGlobals "read_file_label" = some (some (.ref f_read_file_label)))
    (l_read_file_label : K.lookup f_read_file_label = some ⟨oc_read_file_label, od_read_file_label, .func (PySem.W.fnOf "read_file_label" "read_file_label" (defArgs s_read_file_label) (defBody s_read_file_label) (defScope s_read_file_label) .none kV_read_file_label dc_read_file_label pm_read_file_label an_read_file_label cd_read_file_label ct_read_file_label), sl_read_file_label⟩)
    (c_read_file_label : PySem.W.codeIn K cd_read_file_label "read_file_label" = true)
    (k_read_file_label : PySem.W.keepIn K (.ref f_read_file_label) = true)
    (a_read_form_label : PySem.W.nsIn K mainGlobals "read_form_label" = some (some (.ref f_read_form_label)))
    (l_read_form_label : K.lookup f_read_form_label = some ⟨oc_read_form_label, od_read_form_label, .func (PySem.W.fnOf "read_form_label" "read_form_label" (defArgs s_read_form_label) (defBody s_read_form_label) (defScope s_read_form_label) .none kV_read_form_label dc_read_form_label pm_read_form_label an_read_form_label cd_read_form_label ct_read_form_label), sl_read_form_label⟩)
    (c_read_form_label : PySem.W.codeIn K cd_read_form_label "read_form_label" = true)
    (k_read_form_label : PySem.W.keepIn K (.ref f_read_form_label) = true)
    (a__law_town : PySem.W.nsIn K mainGlobals "_law_town" = some (some (.ref f__law_town)))
    (l__law_town : K.lookup f__law_town = some ⟨oc__law_town, od__law_town, .func (PySem.W.fnOf "_law_town" "_law_town" (defArgs s__law_town) (defBody s__law_town) (defScope s__law_town) .none kV__law_town dc__law_town pm__law_town an__law_town cd__law_town ct__law_town), sl__law_town⟩)
    (c__law_town : PySem.W.codeIn K cd__law_town "_law_town" = true)
    (k__law_town : PySem.W.keepIn K (.ref f__law_town) = true)
    (a__law_draw : PySem.W.nsIn K mainGlobals "_law_draw" = some (some (.ref f__law_draw)))
    (l__law_draw : K.lookup f__law_draw = some ⟨oc__law_draw, od__law_draw, .func (PySem.W.fnOf "_law_draw" "_law_draw" (defArgs s__law_draw) (defBody s__law_draw) (defScope s__law_draw) .none kV__law_draw dc__law_draw pm__law_draw an__law_draw cd__law_draw ct__law_draw), sl__law_draw⟩)
    (c__law_draw : PySem.W.codeIn K cd__law_draw "_law_draw" = true)
    (k__law_draw : PySem.W.keepIn K (.ref f__law_draw) = true)
    (a__law_pick : PySem.W.nsIn K mainGlobals "_law_pick" = some (some (.ref f__law_pick)))
    (l__law_pick : K.lookup f__law_pick = some ⟨oc__law_pick, od__law_pick, .func (PySem.W.fnOf "_law_pick" "_law_pick" (defArgs s__law_pick) (defBody s__law_pick) (defScope s__law_pick) .none kV__law_pick dc__law_pick pm__law_pick an__law_pick cd__law_pick ct__law_pick), sl__law_pick⟩)
    (c__law_pick : PySem.W.codeIn K cd__law_pick "_law_pick" = true)
    (k__law_pick : PySem.W.keepIn K (.ref f__law_pick) = true)
    (a__law_shape : PySem.W.nsIn K mainGlobals "_law_shape" = some (some (.ref f__law_shape)))
    (l__law_shape : K.lookup f__law_shape = some ⟨oc__law_shape, od__law_shape, .func (PySem.W.fnOf "_law_shape" "_law_shape" (defArgs s__law_shape) (defBody s__law_shape) (defScope s__law_shape) .none kV__law_shape dc__law_shape pm__law_shape an__law_shape cd__law_shape ct__law_shape), sl__law_shape⟩)
    (c__law_shape : PySem.W.codeIn K cd__law_shape "_law_shape" = true)
    (k__law_shape : PySem.W.keepIn K (.ref f__law_shape) = true)
    (a__law_figures : PySem.W.nsIn K mainGlobals "_law_figures" = some (some (.ref f__law_figures)))
    (l__law_figures : K.lookup f__law_figures = some ⟨oc__law_figures, od__law_figures, .func (PySem.W.fnOf "_law_figures" "_law_figures" (defArgs s__law_figures) (defBody s__law_figures) (defScope s__law_figures) .none kV__law_figures dc__law_figures pm__law_figures an__law_figures cd__law_figures ct__law_figures), sl__law_figures⟩)
    (c__law_figures : PySem.W.codeIn K cd__law_figures "_law_figures" = true)
    (k__law_figures : PySem.W.keepIn K (.ref f__law_figures) = true)
    (a_law : PySem.W.nsIn K mainGlobals "law" = some (some (.ref f_law)))
    (l_law : K.lookup f_law = some ⟨oc_law, od_law, .func (PySem.W.fnOf "law" "law" (defArgs s_law) (defBody s_law) (defScope s_law) .none kV_law dc_law pm_law an_law cd_law ct_law), sl_law⟩)
    (c_law : PySem.W.codeIn K cd_law "law" = true)
    (k_law : PySem.W.keepIn K (.ref f_law) = true)
    (g_c_SIGNS : PySem.W.nsIn K mainGlobals "SIGNS" = some (some (.str "ABCDEFGHIJKLMNOPQRSTUVWXYZ0123456789" tk_SIGNS)))
    (g_c_FIXED : PySem.W.nsIn K mainGlobals "FIXED" = some (some (.str "F" tk_FIXED)))
    (g_c_VARIED : PySem.W.nsIn K mainGlobals "VARIED" = some (some (.str "V" tk_VARIED)))
    (g_c_SPANNED : PySem.W.nsIn K mainGlobals "SPANNED" = some (some (.str "S" tk_SPANNED)))
    (g_c_FORMS : PySem.W.nsIn K mainGlobals "FORMS" = some (some (.ref a_c_FORMS)))
    (l_c_FORMS : K.lookup a_c_FORMS = some ⟨.type "tuple", dd_FORMS, .seq #[.str "F" tk_FORMS_0, .str "V" tk_FORMS_1, .str "S" tk_FORMS_2] n_FORMS, sl_c_FORMS⟩)
    (g_c_MOST_BLOCK : PySem.W.nsIn K mainGlobals "MOST_BLOCK" = some (some (.int 60 tk_MOST_BLOCK)))
    (g_c_MOST_SIZE : PySem.W.nsIn K mainGlobals "MOST_SIZE" = some (some (.int 200 tk_MOST_SIZE)))
    (g_c_KINDS : PySem.W.nsIn K mainGlobals "KINDS" = some (some (.ref a_c_KINDS)))
    (l_c_KINDS : K.lookup a_c_KINDS = some ⟨.type "tuple", dd_KINDS, .seq #[.str "HDR1" tk_KINDS_0, .str "EOF1" tk_KINDS_1, .str "EOV1" tk_KINDS_2] n_KINDS, sl_c_KINDS⟩)
    (g_c_LONG : PySem.W.nsIn K mainGlobals "LONG" = some (some (.ref a_c_LONG)))
    (l_c_LONG : K.lookup a_c_LONG = some ⟨.type "tuple", dd_LONG, .seq #[.int 4 tk_LONG_0, .int 4 tk_LONG_1, .int 4 tk_LONG_2, .int 2 tk_LONG_3, .int 5 tk_LONG_4, .int 5 tk_LONG_5, .int 6 tk_LONG_6] n_LONG, sl_c_LONG⟩)
    (g_c_MOSTS : PySem.W.nsIn K mainGlobals "MOSTS" = some (some (.ref a_c_MOSTS)))
    (l_c_MOSTS : K.lookup a_c_MOSTS = some ⟨.type "tuple", dd_MOSTS, .seq #[.int 9999 tk_MOSTS_0, .int 9999 tk_MOSTS_1, .int 9999 tk_MOSTS_2, .int 99 tk_MOSTS_3, .int 99999 tk_MOSTS_4, .int 99999 tk_MOSTS_5, .int 999999 tk_MOSTS_6] n_MOSTS, sl_c_MOSTS⟩)
    (g_c_ZEROS : PySem.W.nsIn K mainGlobals "ZEROS" = some (some (.ref a_c_ZEROS)))
    (l_c_ZEROS : K.lookup a_c_ZEROS = some ⟨.type "tuple", dd_ZEROS, .seq #[.int 0 tk_ZEROS_0, .int 0 tk_ZEROS_1, .int 0 tk_ZEROS_2, .int 0 tk_ZEROS_3, .int 0 tk_ZEROS_4, .int 0 tk_ZEROS_5, .int 0 tk_ZEROS_6] n_ZEROS, sl_c_ZEROS⟩)
    (z_isinstance : PySem.W.nsIn K mainGlobals "isinstance" = some none)
    (z_int : PySem.W.nsIn K mainGlobals "int" = some none)
    (z_bool : PySem.W.nsIn K mainGlobals "bool" = some none)
    (z_str : PySem.W.nsIn K mainGlobals "str" = some none)
    (z_len : PySem.W.nsIn K mainGlobals "len" = some none)
    (z_all : PySem.W.nsIn K mainGlobals "all" = some none)
    (z_tuple : PySem.W.nsIn K mainGlobals "tuple" = some none)
    (z_zip : PySem.W.nsIn K mainGlobals "zip" = some none)
    (z_sum : PySem.W.nsIn K mainGlobals "sum" = some none)
    (z_list : PySem.W.nsIn K mainGlobals "list" = some none)
    (z_range : PySem.W.nsIn K mainGlobals "range" = some none)
    (kd_file_label_numbers : PySem.W.nsIn K D_file_label "numbers" = some (some (.ref a_c_ZEROS)))
    : ∃ fd : FuncData, (∀ (s : Shared) (v : Value), BindsTo s fd ⟨[v], []⟩ [("_law_script", v)]) ∧ ∀ base : Heap, K.In base → base.Ns mainGlobals mg → FnOk l.prog w K mg base (L2.CX l.prog w) 4 fa fd ["_law_script"] (spLaw K) := by
  have e := hfa.symm.trans (PySem.W.mg_of X G a_law)
  cases e
  obtain ⟨T, ea, ed⟩ := txt_mk X G g_BadName x_BadName k_BadName b_BadName t_BadName g_BadForm x_BadForm k_BadForm b_BadForm t_BadForm g_BadNumber x_BadNumber k_BadNumber b_BadNumber t_BadNumber g_BadLabel x_BadLabel k_BadLabel b_BadLabel t_BadLabel a_is_whole l_is_whole c_is_whole k_is_whole a_is_name l_is_name c_is_name k_is_name a_look_name l_look_name c_look_name k_look_name a_look_form l_look_form c_look_form k_look_form a_figures l_figures c_figures k_figures a_padded l_padded c_padded k_padded a_reel_label l_reel_label c_reel_label k_reel_label a_file_label l_file_label c_file_label k_file_label a_form_label l_form_label c_form_label k_form_label a_bare l_bare c_bare k_bare a_number_in l_number_in c_number_in k_number_in a_read_reel_label l_read_reel_label c_read_reel_label k_read_reel_label a_read_file_label l_read_file_label c_read_file_label k_read_file_label a_read_form_label l_read_form_label c_read_form_label k_read_form_label a__law_town l__law_town c__law_town k__law_town a__law_draw l__law_draw c__law_draw k__law_draw a__law_pick l__law_pick c__law_pick k__law_pick a__law_shape l__law_shape c__law_shape k__law_shape a__law_figures l__law_figures c__law_figures k__law_figures a_law l_law c_law k_law g_c_SIGNS g_c_FIXED g_c_VARIED g_c_SPANNED g_c_FORMS l_c_FORMS g_c_MOST_BLOCK g_c_MOST_SIZE g_c_KINDS l_c_KINDS g_c_LONG l_c_LONG g_c_MOSTS l_c_MOSTS g_c_ZEROS l_c_ZEROS z_isinstance z_int z_bool z_str z_len z_all z_tuple z_zip z_sum z_list z_range kd_file_label_numbers
  refine ⟨T.law.d, fun s v => ?_, fun base _ _ => ?_⟩
  · rw [ed]; exact .of_eq rfl
  · rw [← ea]; exact ok_law T
end R
set_option maxRecDepth 100000
open PySem PySem.W PyProof.Rows
set_option maxRecDepth 100000 in
set_option maxHeartbeats 0 in
theorem PySem.Challenge.cw_reelrows_k06_whole_labels_holds : PySem.Challenge.rw_reelrows_k06_whole_labels.Holds := by
  w_on; o_law; k_head; (case hw => w_witness2)
  k_fill
  refine L2.walk_of (l := PySem.Challenge.rw_reelrows_k06_whole_labels) (n := 63) (k := 4) (x := "_law_script") (CX := fun w => L2.CX PySem.Challenge.rw_reelrows_k06_whole_labels.prog w) (sp := fun w => R.spLaw _) rfl (by decide) rfl ⟨rfl, by decide, by decide⟩ (fun w h Y => PySem.W.kIn_of Y) ?F (fun _ _ a ns hl _ hS => ⟨a, ns, rfl, hS, hl, fun _ => rfl⟩) (fun w H s e s' h => by obtain ⟨_, _, _, _, _, _, _, _, _, _, _, _, z⟩ := h; exact z)
  case F =>
    intro w mg fa h KX G hmg
    refine' R.all_mk KX G hmg ?g_BadName ?x_BadName ?k_BadName ?b_BadName ?t_BadName ?g_BadForm ?x_BadForm ?k_BadForm ?b_BadForm ?t_BadForm ?g_BadNumber ?x_BadNumber ?k_BadNumber ?b_BadNumber ?t_BadNumber ?g_BadLabel ?x_BadLabel ?k_BadLabel ?b_BadLabel ?t_BadLabel ?a_is_whole ?l_is_whole ?c_is_whole ?k_is_whole ?a_is_name ?l_is_name ?c_is_name ?k_is_name ?a_look_name ?l_look_name ?c_look_name ?k_look_name ?a_look_form ?l_look_form ?c_look_form ?k_look_form ?a_figures ?l_figures ?c_figures ?k_figures ?a_padded ?l_padded ?c_padded ?k_padded ?a_reel_label ?l_reel_label ?c_reel_label ?k_reel_label ?a_file_label ?l_file_label ?c_file_label ?k_file_label ?a_form_label ?l_form_label ?c_form_label ?k_form_label ?a_bare ?l_bare ?c_bare ?k_bare ?a_number_in ?l_number_in ?c_number_in ?k_number_in ?a_read_reel_label ?l_read_reel_label ?c_read_reel_label ?k_read_reel_label ?a_read_file_label ?l_read_file_label ?c_read_file_label ?k_read_file_label ?a_read_form_label ?l_read_form_label ?c_read_form_label ?k_read_form_label ?a__law_town ?l__law_town ?c__law_town ?k__law_town ?a__law_draw ?l__law_draw ?c__law_draw ?k__law_draw ?a__law_pick ?l__law_pick ?c__law_pick ?k__law_pick ?a__law_shape ?l__law_shape ?c__law_shape ?k__law_shape ?a__law_figures ?l__law_figures ?c__law_figures ?k__law_figures ?a_law ?l_law ?c_law ?k_law ?g_c_SIGNS ?g_c_FIXED ?g_c_VARIED ?g_c_SPANNED ?g_c_FORMS ?l_c_FORMS ?g_c_MOST_BLOCK ?g_c_MOST_SIZE ?g_c_KINDS ?l_c_KINDS ?g_c_LONG ?l_c_LONG ?g_c_MOSTS ?l_c_MOSTS ?g_c_ZEROS ?l_c_ZEROS ?z_isinstance ?z_int ?z_bool ?z_str ?z_len ?z_all ?z_tuple ?z_zip ?z_sum ?z_list ?z_range ?kd_file_label_numbers
    (case g_BadName => k_is)
    (case x_BadName => k_exc)
    (case k_BadName => k_is)
    (case b_BadName => k_is)
    (case t_BadName => k_is)
    (case g_BadForm => k_is)
    (case x_BadForm => k_exc)
    (case k_BadForm => k_is)
    (case b_BadForm => k_is)
    (case t_BadForm => k_is)
    (case g_BadNumber => k_is)
    (case x_BadNumber => k_exc)
    (case k_BadNumber => k_is)
    (case b_BadNumber => k_is)
    (case t_BadNumber => k_is)
    (case g_BadLabel => k_is)
    (case x_BadLabel => k_exc)
    (case k_BadLabel => k_is)
    (case b_BadLabel => k_is)
    (case t_BadLabel => k_is)
    (case a_is_whole => k_is)
    (case l_is_whole => k_is)
    (case c_is_whole => k_is)
    (case k_is_whole => k_is)
    (case a_is_name => k_is)
    (case l_is_name => k_is)
    (case c_is_name => k_is)
    (case k_is_name => k_is)
    (case a_look_name => k_is)
    (case l_look_name => k_is)
    (case c_look_name => k_is)
    (case k_look_name => k_is)
    (case a_look_form => k_is)
    (case l_look_form => k_is)
    (case c_look_form => k_is)
    (case k_look_form => k_is)
    (case a_figures => k_is)
    (case l_figures => k_is)
    (case c_figures => k_is)
    (case k_figures => k_is)
    (case a_padded => k_is)
    (case l_padded => k_is)
    (case c_padded => k_is)
    (case k_padded => k_is)
    (case a_reel_label => k_is)
    (case l_reel_label => k_is)
    (case c_reel_label => k_is)
    (case k_reel_label => k_is)
    (case a_file_label => k_is)
    (case l_file_label => k_is)
    (case c_file_label => k_is)
    (case k_file_label => k_is)
    (case a_form_label => k_is)
    (case l_form_label => k_is)
    (case c_form_label => k_is)
    (case k_form_label => k_is)
    (case a_bare => k_is)
    (case l_bare => k_is)
    (case c_bare => k_is)
    (case k_bare => k_is)
    (case a_number_in => k_is)
    (case l_number_in => k_is)
    (case c_number_in => k_is)
    (case k_number_in => k_is)
    (case a_read_reel_label => k_is)
    (case l_read_reel_label => k_is)
    (case c_read_reel_label => k_is)
    (case k_read_reel_label => k_is)
    (case a_read_file_label => k_is)
    (case l_read_file_label => k_is)
    (case c_read_file_label => k_is)
    (case k_read_file_label => k_is)
    (case a_read_form_label => k_is)
    (case l_read_form_label => k_is)
    (case c_read_form_label => k_is)
    (case k_read_form_label => k_is)
    (case a__law_town => k_is)
    (case l__law_town => k_is)
    (case c__law_town => k_is)
    (case k__law_town => k_is)
    (case a__law_draw => k_is)
    (case l__law_draw => k_is)
    (case c__law_draw => k_is)
    (case k__law_draw => k_is)
    (case a__law_pick => k_is)
    (case l__law_pick => k_is)
    (case c__law_pick => k_is)
    (case k__law_pick => k_is)
    (case a__law_shape => k_is)
    (case l__law_shape => k_is)
    (case c__law_shape => k_is)
    (case k__law_shape => k_is)
    (case a__law_figures => k_is)
    (case l__law_figures => k_is)
    (case c__law_figures => k_is)
    (case k__law_figures => k_is)
    (case a_law => k_is)
    (case l_law => k_is)
    (case c_law => k_is)
    (case k_law => k_is)
    (case g_c_SIGNS => k_is)
    (case g_c_FIXED => k_is)
    (case g_c_VARIED => k_is)
    (case g_c_SPANNED => k_is)
    (case g_c_FORMS => k_is)
    (case l_c_FORMS => k_is)
    (case g_c_MOST_BLOCK => k_is)
    (case g_c_MOST_SIZE => k_is)
    (case g_c_KINDS => k_is)
    (case l_c_KINDS => k_is)
    (case g_c_LONG => k_is)
    (case l_c_LONG => k_is)
    (case g_c_MOSTS => k_is)
    (case l_c_MOSTS => k_is)
    (case g_c_ZEROS => k_is)
    (case l_c_ZEROS => k_is)
    (case z_isinstance => k_is)
    (case z_int => k_is)
    (case z_bool => k_is)
    (case z_str => k_is)
    (case z_len => k_is)
    (case z_all => k_is)
    (case z_tuple => k_is)
    (case z_zip => k_is)
    (case z_sum => k_is)
    (case z_list => k_is)
    (case z_range => k_is)
    (case kd_file_label_numbers => k_is)
