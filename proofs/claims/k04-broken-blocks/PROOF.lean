import PyProof.Rows.All
import Wide.All
import OpenK.AllK
import Wide.FinOn
import HandS.ForMost
import HandS.ForExc
import HandS.IsInst
import HandS.Zip
import HandS.Defaults
import HandS.MakeKw
import HandS.MakeKwOnly
import HandS.Style
import HandS.TupAny
import HandS.ExcOwn
import HandS.ExcIs
import HandS.ExcValue
import HandS.TryMany
import KE.IntTextLaws
import KE.KIntText
import KE.Datum
import KE.KTupSum
import HandS.Walk
import KE.DataEq
import KE.DataMinMax
import KE.DatumOrd
import KE.GoesRaise
import PyProof.StrOps2
import PySem.Challenge.RW_reelrows_k04_whole_broken_blocks
set_option Elab.async false
set_option linter.all false
set_option maxRecDepth 100000
set_option maxHeartbeats 4000000
namespace R
open PySem PySem.Spec PyProof.Rows L2 RZ
open PySem.W (Datum)
/-! ### what the top has left, def by def -/
structure DefAt (K : PySem.W.Frag) (mg : Str → Option Value) (x : Str) (st : Stmt) (ps : List Str) where
  a : Addr
  d : FuncData
  F : Fun K x x st a d
  g : mg x = some (.ref a)
  b : Binds K d ps []
/-- a def with parameters that are handed in by name alone -/
structure DefKAt (K : PySem.W.Frag) (mg : Str → Option Value) (x : Str) (st : Stmt) where
  a : Addr
  d : FuncData
  F : Fun K x x st a d
  g : mg x = some (.ref a)
/-- an own exception class with __init__ -/
structure ExcNAt (K : PySem.W.Frag) (mg : Str → Option Value) (x : Str) where
  C : Addr
  g : mg x = some (.ref C)
/-- an own class -/
structure ClsAt (K : PySem.W.Frag) (mg : Str → Option Value) (x : Str) where
  C : Addr
  g : mg x = some (.ref C)
  cl : Cls K C
  m1 : PySem.W.makesIn K C = true
  kc : PySem.W.keepIn K (.ref C) = true
theorem ClsAt.mks {K : PySem.W.Frag} {mg : Str → Option Value} {x : Str} (c : ClsAt K mg x) {f : Addr} (m : Meth K c.C "__init__" f) : Mk K c.C f := ⟨c.m1, m.at_, m.fn, c.kc⟩
/-- a method -/
structure MethAt (K : PySem.W.Frag) (C : Addr) (x q : Str) (st : Stmt) (ps : List Str) where
  a : Addr
  d : FuncData
  F : Fun K x q st a d
  m : Meth K C x a
  b : Binds K d ps []
/-- a method with parameters that are handed in by name alone -/
structure MethKAt (K : PySem.W.Frag) (C : Addr) (x q : Str) (st : Stmt) where
  a : Addr
  d : FuncData
  F : Fun K x q st a d
  m : Meth K C x a
/-- a call by keywords where some defaults are left out: their values -/
structure KBnD (K : PySem.W.Frag) (d : FuncData) (ps : List Str) (n : Nat) (ks : List Str) (g : {α : Type} → List α → List α → List α → List α) (dvs : List V) where
  mv : List Value
  h : KBn K d ps n ks (fun us ws => g us mv ws) (fun vs zs => g vs dvs zs)
/-- a def's defaults where some arguments are left out -/
structure DefB (K : PySem.W.Frag) (d : FuncData) (ps : List Str) (dvs : List V) where
  ds : List Value
  v : Vals dvs ds
  b : Binds K d ps ds
structure IntAt (mg : Str → Option Value) (x : Str) (i : Int) where
  t : Tok
  g : mg x = some (.int i t)
structure StrAt (mg : Str → Option Value) (x : Str) (z : Str) where
  t : Tok
  g : mg x = some (.str z t)
structure TupAt (K : PySem.W.Frag) (mg : Str → Option Value) (x : Str) (vs : List V) where
  a : Addr
  g : mg x = some (.ref a)
  t : ∀ H, SqT K H a vs
/-- an own exception class without own __init__ -/
structure ExcAt (K : PySem.W.Frag) (mg : Str → Option Value) (x : Str) where
  C : Addr
  g : mg x = some (.ref C)
  x : PySem.W.excIn K C [.type "ValueError", .type "Exception", .type "BaseException", .type "object"] "ValueError.__new__" = true
  k : PySem.W.keepIn K (.ref C) = true
  b : PySem.W.subIn K (.ref C) (.type "BaseException") = some true
  t : PySem.W.typeIn K (.ref C) = some (.type "type")
/-! ### a step's summary of one's own -/
theorem PSs.mid {X : Cx} {ss : List Stmt} {t t' : TS} (h : PSs X ss t) (k : ∀ D σ H, t' D σ H → t D σ H) : PSs X ss t' := ⟨fun pins s σ H D I q => h.run pins s σ H D I (k D σ H q)⟩
theorem PS.mid {X : Cx} {ss : Stmt} {t t' : TS} (h : PS X ss t) (k : ∀ D σ H, t' D σ H → t D σ H) : PS X ss t' := ⟨fun pins s σ H D I q => h.run pins s σ H D I (k D σ H q)⟩
theorem PE.mid {X : Cx} {e : Expr} {t t' : TE} (h : PE X e t) (k : ∀ σ H Q, t' σ H Q → t σ H Q) : PE X e t' := ⟨fun pins s σ H Q I q => h.run pins s σ H Q I (k σ H Q q)⟩
theorem PT.mid {X : Cx} {e : Expr} {t t' : TT} (h : PT X e t) (k : ∀ σ H Q, t' σ H Q → t σ H Q) : PT X e t' := ⟨fun pins s σ H Q I q => h.run pins s σ H Q I (k σ H Q q)⟩
/-! ### texts: a list of signs -/
def S (l : List Nat) : Str := ⟨l.toArray⟩
theorem S_len (l : List Nat) : (S l).length = l.length := by simp [S, Str.length]
theorem S_cps (l : List Nat) : (S l).cps.toList = l := by simp [S]
theorem S_inj {a b : List Nat} : S a = S b ↔ a = b := by
  constructor
  · intro h
    have := congrArg (fun z => Str.cps z |>.toList) h
    simpa [S] using this
  · intro h; rw [h]
theorem S_app (a b : List Nat) : S a ++ S b = S (a ++ b) := by
  show Str.append (S a) (S b) = S (a ++ b)
  simp [Str.append, S]
theorem S_of (z : Str) : z = S z.cps.toList := by
  cases z; simp [S]
theorem S_sl (l : List Nat) (lo hi : Option Int) : cutS (S l) lo hi = S ((l.drop (HT.sIx l.length 0 lo)).take (HT.sIx l.length l.length hi - HT.sIx l.length 0 lo)) := by
  unfold cutS
  rw [S_len, S_cps]
  all_goals rfl
/-- one text times a number -/
def rMulS : R2 := fun x y H Q => ∃ z i, x = .str z ∧ y = .int i ∧ z.length = 1 ∧ -1000000 < i ∧ i < 1000000 ∧ Q (.str (S (List.replicate i.toNat (z.cps.toList.headD 0)))) H
theorem rep_one (c n : Nat) : (List.replicate n (#[c] : Array Nat)).foldl (· ++ ·) #[] = (List.replicate n c).toArray := by
  have : ∀ (a : Array Nat), (List.replicate n (#[c] : Array Nat)).foldl (· ++ ·) a = a ++ (List.replicate n c).toArray := by
    induction n with
    | zero => intro a; simp
    | succ n ih =>
      intro a
      rw [List.replicate_succ, List.foldl_cons, ih, List.replicate_succ]
      apply Array.ext'
      simp
  rw [this]; simp
theorem op_mul_str {X : Cx} : OpR X (binaryOp .Mult) rMulS := by
  intro pins s σ H x y v u Q I rx ry h
  obtain ⟨z, i, rfl, rfl, h1, lo, hi, q⟩ := h
  obtain ⟨t, rfl⟩ := rx
  obtain ⟨t', rfl⟩ := ry
  obtain ⟨c, hc⟩ : ∃ c, z = S [c] := by
    obtain ⟨⟨l⟩⟩ := z
    match l, h1 with
    | [c], _ => exact ⟨c, rfl⟩
  subst hc
  have e1 : (S [c]).length = 1 := rfl
  have hd : (S [c]).cps.toList.headD 0 = c := rfl
  rw [hd] at q
  refine PySem.P.mul_str ?_ ?_ ?_ ?_
  · rw [decide_eq_false (by omega), decide_eq_false (by omega)]; rfl
  · intro a b
    rw [e1]
    have : (1 : Int) ≤ (2 ^ 63 - 1) / i := by
      apply Int.le_ediv_of_mul_le (by omega)
      omega
    omega
  · intro a b
    rw [e1, Nat.one_mul]
    unfold PySem.Builtin.Str.tooLong
    first
      | (simp only [sizeLine_eq, decide_eq_false_iff_not]; omega)
      | (rw [decide_eq_false]; have := sizeLine_eq; omega)
  · by_cases h0 : i < 1
    · rw [if_pos h0]
      have e : i.toNat = 0 := by omega
      rw [e] at q
      exact ⟨by decide, ⟨.str (S []), H, I.tok _, ⟨_, rfl⟩, q⟩⟩
    · rw [if_neg h0]
      by_cases h2 : i = 1
      · subst h2
        rw [if_pos (by rfl)]
        exact ⟨.str (S [c]), H, I.tok _, ⟨_, rfl⟩, q⟩
      · have e2 : (i == 1 || (S [c]).length == 0) = false := by
          rw [e1]
          simp [h2]
        rw [if_neg (by rw [e2]; decide)]
        have e3 : (⟨(List.replicate i.toNat (S [c]).cps).foldl (· ++ ·) #[]⟩ : Str) = S (List.replicate i.toNat c) := by
          show (⟨(List.replicate i.toNat (#[c] : Array Nat)).foldl (· ++ ·) #[]⟩ : Str) = S (List.replicate i.toNat c)
          rw [rep_one]
          all_goals rfl
        rw [e3]
        refine ⟨?_, ⟨.str (S (List.replicate i.toNat c)), H, I.tok _, ⟨_, rfl⟩, q⟩⟩
        rw [S_len, List.length_replicate, sizeLine_eq]
        omega

/-! ### one step of a reading -/
theorem iteD {c A B : Prop} [Decidable c] (h1 : c → A) (h2 : ¬ c → B) : if decide c = true then A else B := by
  by_cases h : c
  · rw [decide_eq_true h, if_pos rfl]; exact h1 h
  · rw [decide_eq_false h, if_neg Bool.false_ne_true]; exact h2 h
theorem iteN {c A B : Prop} [Decidable c] (h1 : ¬ c → A) (h2 : c → B) : if (!decide c) = true then A else B := by
  by_cases h : c
  · rw [decide_eq_true h]; exact iteF (h2 h)
  · rw [decide_eq_false h]; exact iteT (h1 h)
theorem iteB {c : Bool} {A B : Prop} (h1 : c = true → A) (h2 : c = false → B) : if c = true then A else B := by
  cases c with
  | true => exact iteT (h1 rfl)
  | false => exact iteF (h2 rfl)
theorem iteNB {c : Bool} {A B : Prop} (h1 : c = false → A) (h2 : c = true → B) : if (!c) = true then A else B := by
  cases c with
  | true => exact iteF (h2 rfl)
  | false => exact iteT (h1 rfl)
/-! ### heaps -/
theorem same_new {H : Hp} {p : Addr} {o : HO} (h : H p = none) : Same H (upd H p o) := fun b x e => by
  rw [upd_ne (ne_of_none e h)]; exact e
theorem sql_same {K : PySem.W.Frag} {H H' : Hp} {a : Addr} {xs : List V} (h : SqL K H a xs) (e : Same H H') : SqL K H' a xs := e.seq h
theorem sqt_same {K : PySem.W.Frag} {H H' : Hp} {a : Addr} {xs : List V} (h : SqT K H a xs) (e : Same H H') : SqT K H' a xs := by
  rcases h with (h | ⟨o, h⟩) | h
  · exact .inl (.inl (e _ _ h))
  · exact .inl (.inr ⟨o, e _ _ h⟩)
  · exact .inr h
mutual
theorem dp_same {K : PySem.W.Frag} {H H' : Hp} (e : Same H H') : ∀ {x : V} {d : PyData}, Dp K H x d → Dp K H' x d
  | _, _, .non => .non
  | _, _, .bl b => .bl b
  | _, _, .int i => .int i
  | _, _, .str x => .str x
  | _, _, .lst h k => .lst (sql_same h e) (dpAll_same e k)
  | _, _, .tup h k => .tup (sqt_same h e) (dpAll_same e k)
theorem dpAll_same {K : PySem.W.Frag} {H H' : Hp} (e : Same H H') : ∀ {xs : List V} {ds : List PyData}, DpAll K H xs ds → DpAll K H' xs ds
  | _, _, .nil => .nil
  | _, _, .cons h k => .cons (dp_same e h) (dpAll_same e k)
end
theorem dp_ints {K : PySem.W.Frag} {H : Hp} : ∀ ns : List Int, DpAll K H (ns.map V.int) (ns.map Datum.toD)
  | [] => .nil
  | n :: r => .cons (.int n) (dp_ints r)
theorem dp_strs {K : PySem.W.Frag} {H : Hp} : ∀ ns : List Str, DpAll K H (ns.map V.str) (ns.map Datum.toD)
  | [] => .nil
  | n :: r => .cons (.str n) (dp_strs r)
theorem dp_intsL {K : PySem.W.Frag} {H : Hp} {a : Addr} {ns : List Int} (h : SqL K H a (ns.map V.int)) : Dp K H (.ref a) (Datum.toD ns) := .lst h (dp_ints ns)
theorem dp_strsL {K : PySem.W.Frag} {H : Hp} {a : Addr} {ns : List Str} (h : SqL K H a (ns.map V.str)) : Dp K H (.ref a) (Datum.toD ns) := .lst h (dp_strs ns)
def rEqP (K : PySem.W.Frag) : R2 := fun x y H Q => ∃ d e, Dp K H x d ∧ Dp K H y e ∧ d.plain = true ∧ e.plain = true ∧ d.depth ≤ 60 ∧ Q (.bl (PyData.eqv d e)) H
def rNeP (K : PySem.W.Frag) : R2 := fun x y H Q => ∃ d e, Dp K H x d ∧ Dp K H y e ∧ d.plain = true ∧ e.plain = true ∧ d.depth ≤ 60 ∧ Q (.bl (!PyData.eqv d e)) H
theorem op_eqP {X : Cx} (hu : X.A.units + 64 < cLine) : OpR X (compareOp .Eq) (rEqP X.K) := by
  intro pins s σ H x y v u Q I rx ry h
  obtain ⟨d, e, hd, he, sd, se, hp, q⟩ := h
  obtain ⟨as, r1⟩ := Dp.reads I d x v hd rx
  obtain ⟨bs, r2⟩ := Dp.reads I e y u he ry
  exact SeqAt.eq_plain r1 r2 sd se (by omega) ⟨.bl _, H, I, rfl, q⟩
theorem op_neP {X : Cx} (hu : X.A.units + 64 < cLine) : OpR X (compareOp .NotEq) (rNeP X.K) := by
  intro pins s σ H x y v u Q I rx ry h
  obtain ⟨d, e, hd, he, sd, se, hp, q⟩ := h
  obtain ⟨as, r1⟩ := Dp.reads I d x v hd rx
  obtain ⟨bs, r2⟩ := Dp.reads I e y u he ry
  exact SeqAt.ne_plain r1 r2 sd se (by omega) ⟨.bl _, H, I, rfl, q⟩
theorem rEqP_of {α : Type} [DecidableEq α] [Datum α] {K : PySem.W.Frag} {H : Hp} {x y : V} {a b : α} {Q : VK} (hx : Dp K H x (Datum.toD a)) (hy : Dp K H y (Datum.toD b)) (q : Q (.bl (decide (a = b))) H) (hd : Datum.depth α ≤ 60 := by decide) : rEqP K x y H Q :=
  ⟨_, _, hx, hy, Datum.plain a, Datum.plain b, Nat.le_trans (Datum.depth_le a) hd, by rw [Datum.eqv]; exact q⟩
theorem rNeP_of {α : Type} [DecidableEq α] [Datum α] {K : PySem.W.Frag} {H : Hp} {x y : V} {a b : α} {Q : VK} (hx : Dp K H x (Datum.toD a)) (hy : Dp K H y (Datum.toD b)) (q : Q (.bl (!decide (a = b))) H) (hd : Datum.depth α ≤ 60 := by decide) : rNeP K x y H Q :=
  ⟨_, _, hx, hy, Datum.plain a, Datum.plain b, Nat.le_trans (Datum.depth_le a) hd, by rw [Datum.eqv]; exact q⟩

theorem sz {n : Nat} (h : n ≤ 16777216) : n ≤ sizeLine := by rw [sizeLine_eq]; exact h
theorem szl {n : Nat} (h : n < 16777216) : n < sizeLine := by rw [sizeLine_eq]; exact h
/-! ### what kind a value is -/
inductive Pl (K : PySem.W.Frag) (H : Hp) : V → String → Prop
  | non : Pl K H .non "NoneType"
  | bl (b : Bool) : Pl K H (.bl b) "bool"
  | int (i : Int) : Pl K H (.int i) "int"
  | str (z : Str) : Pl K H (.str z) "str"
  | lst {a : Addr} {xs : List V} (h : SqL K H a xs) : Pl K H (.ref a) "list"
  | tup {a : Addr} {xs : List V} (h : SqT K H a xs) : Pl K H (.ref a) "tuple"
  | dct {a : Addr} {kvs : List (Key × V)} (h : H a = some (.dK kvs)) : Pl K H (.ref a) "dict"
theorem Pl.ty {K : PySem.W.Frag} {H : Hp} {x : V} {n : String} (h : Pl K H x n) : TyX K H x (.type n) := by
  cases h with
  | non => exact .base .non
  | bl b => exact .base (.bl b)
  | int i => exact .base (.int i)
  | str z => exact .base (.str z)
  | lst h =>
    rcases h with (h | ⟨o, h⟩) | ⟨o, its, m, hk, hc, _⟩
    · exact .base (.lst h)
    · exact .base (.frz h)
    · exact .kList hk hc
  | tup h =>
    rcases h with (h | ⟨o, h⟩) | ⟨o, its, m, hk, hc, _⟩
    · exact .base (.tup h)
    · exact .fTuple h
    · exact .kTuple hk hc
  | dct h => exact .base (.dK h)
theorem Pl.same {K : PySem.W.Frag} {H H' : Hp} {x : V} {n : String} (h : Pl K H x n) (e : Same H H') : Pl K H' x n := by
  cases h with
  | non => exact .non
  | bl b => exact .bl b
  | int i => exact .int i
  | str z => exact .str z
  | lst h => exact .lst (sql_same h e)
  | tup h => exact .tup (sqt_same h e)
  | dct h => exact .dct (e _ _ h)
theorem kit_int {K : PySem.W.Frag} {H : Hp} {x : V} {n : String} (h : Pl K H x n) : PySem.W.kitOne K (.type n) (.type "int") = some (n == "int" || n == "bool") := by
  cases h <;> exact kit_ty (by decide +kernel)
theorem kit_bool {K : PySem.W.Frag} {H : Hp} {x : V} {n : String} (h : Pl K H x n) : PySem.W.kitOne K (.type n) (.type "bool") = some (n == "bool") := by
  cases h <;> exact kit_ty (by decide +kernel)
theorem kit_str {K : PySem.W.Frag} {H : Hp} {x : V} {n : String} (h : Pl K H x n) : PySem.W.kitOne K (.type n) (.type "str") = some (n == "str") := by
  cases h <;> exact kit_ty (by decide +kernel)
theorem kit_list {K : PySem.W.Frag} {H : Hp} {x : V} {n : String} (h : Pl K H x n) : PySem.W.kitOne K (.type n) (.type "list") = some (n == "list") := by
  cases h <;> exact kit_ty (by decide +kernel)
theorem kit_tuple {K : PySem.W.Frag} {H : Hp} {x : V} {n : String} (h : Pl K H x n) : PySem.W.kitOne K (.type n) (.type "tuple") = some (n == "tuple") := by
  cases h <;> exact kit_ty (by decide +kernel)
/-! ### comprehensions whose items are told -/
theorem lc_map {J : It} {n : Nat} {G : Hp → Prop} {Y : Nat → Hp → V → Hp → Prop} (w : Walk J n G Y) {g : TG} {te : TE} {vs : List Nat} {σ : L2.St} {H1 : Hp} {D : Addr} {Qd : Hp → Prop} (ys : List V) (len : ys.length = n) (hn : n < 16777216) (nD : H1 D = none)
    (hY : ∀ i H x H', Y i H x H' → Same H H') (hG : ∀ H, Same H1 H → G H)
    (hs : ∀ i x H H' y, i < n → ys[i]? = some y → Same H1 H → Same H1 H' → Y i H x H' → ∀ Q : VK, (∀ H2, Same H' H2 → Q y H2) → g x (wipe σ vs) H' fun σ2 H2 => wipe σ2 vs = wipe σ vs ∧ te σ2 H2 Q)
    (hd : ∀ H, Same H1 H → H D = some (.lst ys) → Qd H)
    (hg : ∀ x σ H (R R' : L2.St → Hp → Prop), (∀ σ2 H2, R σ2 H2 → R' σ2 H2) → g x σ H R → g x σ H R') :
    ∃ W : Nat → Nat → Hp → Prop, (∃ m, W 0 m (upd H1 D (.lst []))) ∧ ∀ i m H, W i m H →
      (J.stop i H ∧ Qd H) ∨ (J.go i H ∧ ∃ Nx : Hp → Prop, (∀ H', Nx H' → ∃ m', m' < m ∧ W (i + 1) m' H') ∧ ∀ x H', J.yld i H x H' → g x (wipe σ vs) H' fun σ2 H2 => wipe σ2 vs = wipe σ vs ∧ tYes σ2 H2 fun b H3 =>
        if b = true then te σ2 H3 fun y H4 => ∃ acc, H4 D = some (.lst acc) ∧ acc.length < sizeLine ∧ Nx (upd H4 D (.lst (acc ++ [y]))) else Nx H3) := by
  refine lc_it w (fun i H => Same H1 H ∧ H D = some (.lst (ys.take i))) ⟨same_new nD, upd_same⟩ (fun i H _ p => hG H p.1) (fun i x H H' hi p y => ?_) (fun H p => hd H p.1 (by rw [← len, List.take_length] at p; exact p.2))
  have hi2 : i < ys.length := by omega
  have sH' := hY _ _ _ _ y
  refine hg _ _ _ _ _ (fun σ2 H2 z => z) (hs i x H H' ys[i] hi (List.getElem?_eq_getElem hi2) p.1 (p.1.trans sH') y _ fun H2 s2 => ?_)
  have hD2 : H2 D = some (.lst (ys.take i)) := s2 _ _ (sH' _ _ p.2)
  refine ⟨ys.take i, hD2, szl (by rw [List.length_take]; omega), ?_, ?_⟩
  · intro b o hb
    rw [upd_ne (ne_of_none hb nD)]
    exact s2 _ _ (sH' _ _ (p.1 _ _ hb))
  · rw [upd_same, List.take_add_one, List.getElem?_eq_getElem hi2]
    all_goals rfl
theorem gName_mono {i : Nat} : ∀ x σ H (R R' : L2.St → Hp → Prop), (∀ σ2 H2, R σ2 H2 → R' σ2 H2) → gName i x σ H R → gName i x σ H R' := fun _ _ _ _ _ h k => h _ _ k
theorem gTup2_mono {K : PySem.W.Frag} {i j : Nat} : ∀ x σ H (R R' : L2.St → Hp → Prop), (∀ σ2 H2, R σ2 H2 → R' σ2 H2) → gTup K 2 (gCons (gName i) (gCons (gName j) gNil)) x σ H R → gTup K 2 (gCons (gName i) (gCons (gName j) gNil)) x σ H R' := by
  intro x σ H R R' h ⟨a, xs, e1, e2, e3, v, r, e4, v2, r2, e5, e6, k⟩
  exact ⟨a, xs, e1, e2, e3, v, r, e4, v2, r2, e5, e6, h _ _ k⟩
theorem yat_same {xs : List V} : ∀ i H x H', YAt xs i H x H' → Same H H' := fun _ _ _ _ h => by rw [h.1]; exact Same.refl _
theorem ystr_same {z : Str} : ∀ (i : Nat) (H : Hp) (v : V) (H' : Hp), (H' = H ∧ ∃ c, z.cps[i]? = some c ∧ v = V.str ⟨#[c]⟩) → Same H H' := fun _ _ _ _ h => by rw [h.1]; exact Same.refl _
theorem yfn_same {f : Nat → V} : ∀ i H x H', YFn f i H x H' → Same H H' := fun _ _ _ _ h => by rw [h.1]; exact Same.refl _
theorem ypair_same {xs ys : Nat → Option V} : ∀ i H x H', YPair xs ys i H x H' → Same H H' := fun i H x H' h => by
  obtain ⟨T, a, b, _, h1, h2, _⟩ := h
  rw [h2]; exact same_new h1
theorem walk_zipT {K : PySem.W.Frag} {a b : Addr} {xs ys : List V} {n : Nat} (hn : n = min xs.length ys.length) : Walk (ItzT K a b) n (fun H => SqT K H a xs ∧ SqT K H b ys) (YPair (fun i => xs[i]?) (fun i => ys[i]?)) := by
  subst hn
  refine ⟨fun i _ hi q => ?_, fun _ q => ⟨xs, ys, q.1, q.2, by omega⟩, fun i H v H' _ q y => ?_⟩
  · have h1 : i < xs.length := by omega
    have h2 : i < ys.length := by omega
    exact ⟨xs, ys, xs[i], ys[i], q.1, q.2, by simp [h1], by simp [h2]⟩
  · obtain ⟨T, x, z, h1, h2, h3, h4, h5⟩ := y
    exact ⟨T, x, z, h1, h2, h3, h4 xs q.1, h5 ys q.2⟩
/-- [test of the sign for sign in a text] -/
theorem lc_signs {z : Str} {te : TE} {vs : List Nat} {σ : L2.St} {H1 : Hp} {D : Addr} {Qd : Hp → Prop} {i : Nat} (f : Nat → Bool) (hz : z.length < 16777216) (nD : H1 D = none)
    (hw : ∀ c, wipe ((wipe σ vs).set i (some (.str (S [c])))) vs = wipe σ vs)
    (hs : ∀ c H, c ∈ z.cps.toList → Same H1 H → ∀ Q : VK, (∀ H2, Same H H2 → Q (.bl (f c)) H2) → te ((wipe σ vs).set i (some (.str (S [c])))) H Q)
    (hd : ∀ H, Same H1 H → H D = some (.lst ((z.cps.toList.map f).map V.bl)) → Qd H) :
    ∃ W : Nat → Nat → Hp → Prop, (∃ m, W 0 m (upd H1 D (.lst []))) ∧ ∀ i' m H, W i' m H →
      ((Its z).stop i' H ∧ Qd H) ∨ ((Its z).go i' H ∧ ∃ Nx : Hp → Prop, (∀ H', Nx H' → ∃ m', m' < m ∧ W (i' + 1) m' H') ∧ ∀ x H', (Its z).yld i' H x H' → (gName i) x (wipe σ vs) H' fun σ2 H2 => wipe σ2 vs = wipe σ vs ∧ tYes σ2 H2 fun b H3 =>
        if b = true then te σ2 H3 fun y H4 => ∃ acc, H4 D = some (.lst acc) ∧ acc.length < sizeLine ∧ Nx (upd H4 D (.lst (acc ++ [y]))) else Nx H3) := by
  refine lc_map walk_str ((z.cps.toList.map f).map V.bl) (by simp) hz nD ystr_same (fun _ _ => trivial) (fun j x H H' y hj hy s1 s1' hY Q q => ?_) hd gName_mono
  obtain ⟨rfl, c, hc, rfl⟩ := hY
  have hc2 : z.cps.toList[j]? = some c := by rw [← hc]; simp
  have ey : y = .bl (f c) := by
    rw [List.getElem?_map, List.getElem?_map, hc2] at hy
    exact (Option.some.inj hy).symm
  subst ey
  exact ⟨hw c, hs c H' (List.mem_of_getElem? hc2) s1' Q q⟩
/-- sum of a tuple of whole numbers -/
def rSumT (K : PySem.W.Frag) : List V → Hp → VK → Prop := fun vs H Q => ∃ (a : Addr) (ns : List Int), vs = [V.ref a] ∧ SqT K H a (ns.map V.int) ∧ Q (.int ns.sum) H
theorem cr_sumT {X : Cx} (hc : X.calm = true) : CallR X (.builtin "sum") (rSumT X.K) := by
  intro pins s σ H vs us Q I r h
  obtain ⟨a, ns, rfl, hs, q⟩ := h
  obtain ⟨its, rv, hl, _⟩ := I.tuple hs
  rw [Vals.ref1 r]
  have hi : IntsAre its ns := rv.ints
  obtain ⟨xs, hx⟩ := hi.allInts.items
  have hn : numsOf its.toArray.toList = ns := by rw [show its.toArray.toList = its from rfl, hi.numsOf]
  rw [hx] at hl hn
  rw [nums_intItems] at hn
  refine PySem.W.ktm_sumG (I.ok.hd hc) hl fun h' tk t' hk => ?_
  rw [preSum_eq, List.take_of_length_le (by simp), hn]
  exact ⟨.int _, H, I.kept hk, ⟨_, rfl⟩, q⟩
end R
set_option maxRecDepth 100000
set_option maxHeartbeats 4000000
namespace R
open PySem PySem.Spec PyProof.Rows L2 RZ
open PySem.W (Datum)
open PySem.NumText
/-! ### numbers in figures -/
def dig (n : Nat) : List Nat := (Nat.toDigits 10 n).map Char.toNat
theorem dig_str (n : Nat) : Str.ofString (toString ((n : Nat) : Int)) = S (dig n) := by
  rw [S_of (Str.ofString _), PySem.W.KIN.signs_num]
  all_goals rfl
theorem dig_lt {n : Nat} (h : n < 10) : dig n = [48 + n] := by
  unfold dig
  rw [Nat.toDigits_of_lt_base h]
  have : ∀ n, n < 10 → (Nat.digitChar n).toNat = 48 + n := by decide
  rw [List.map_cons, this n h, List.map_nil]
theorem dig_step {n : Nat} (h : 10 ≤ n) : dig n = dig (n / 10) ++ [48 + n % 10] := by
  have hm : n % 10 < 10 := Nat.mod_lt n (by decide)
  have t : Nat.toDigits 10 (n / 10) ++ Nat.toDigits 10 (n % 10) = Nat.toDigits 10 (10 * (n / 10) + n % 10) := Nat.toDigits_append_toDigits (by decide) (by omega) hm
  rw [Nat.div_add_mod] at t
  have e := dig_lt hm
  unfold dig at e ⊢
  rw [← t, List.map_append, e]
theorem dig_len : ∀ (k n : Nat), n < 10 ^ (k + 1) → (dig n).length ≤ k + 1
  | 0, n, h => by rw [dig_lt (by simpa using h)]; exact Nat.le_refl _
  | k + 1, n, h => by
    by_cases h10 : n < 10
    · rw [dig_lt h10]; simp
    · rw [dig_step (by omega), List.length_append]
      have : n / 10 < 10 ^ (k + 1) := by
        rw [Nat.pow_succ] at h
        omega
      have := dig_len k (n / 10) this
      simp only [List.length_cons, List.length_nil]
      omega
theorem dig_pos : ∀ n : Nat, 1 ≤ (dig n).length := fun n => by
  by_cases h : n < 10
  · rw [dig_lt h]; exact Nat.le_refl _
  · rw [dig_step (by omega), List.length_append]; simp
theorem dig_all (n : Nat) : ∀ c ∈ dig n, 48 ≤ c ∧ c ≤ 57 := by
  induction n using Nat.strongRecOn with
  | _ n ih =>
    intro c hc
    by_cases h : n < 10
    · rw [dig_lt h, List.mem_singleton] at hc; omega
    · rw [dig_step (by omega), List.mem_append, List.mem_singleton] at hc
      rcases hc with hc | hc
      · exact ih (n / 10) (by omega) c hc
      · omega
theorem dv_snoc (l : List Nat) (c : Nat) : digitsVal (l ++ [c]) = digitsVal l * 10 + (c - 48) := by
  unfold digitsVal
  rw [List.foldl_append]
  all_goals rfl
theorem dig_val (n : Nat) : digitsVal (dig n) = n := PySem.W.KIN.val_back n
theorem dv_zeros : ∀ (k : Nat) (l : List Nat), digitsVal (List.replicate k 48 ++ l) = digitsVal l
  | 0, l => by simp
  | k + 1, l => by
    have := dv_zeros k l
    rw [List.replicate_succ, List.cons_append]
    unfold digitsVal at this ⊢
    rw [List.foldl_cons]
    exact this
/-- a number with so many figures -/
def fig (n m : Nat) : List Nat := List.replicate (m - (dig n).length) 48 ++ dig n
theorem fig_len {n m : Nat} (hm : 1 ≤ m) (h : n < 10 ^ m) : (fig n m).length = m := by
  obtain ⟨k, rfl⟩ : ∃ k, m = k + 1 := ⟨m - 1, by omega⟩
  have := dig_len k n h
  unfold fig
  rw [List.length_append, List.length_replicate]
  omega
theorem fig_all (n m : Nat) : ∀ c ∈ fig n m, 48 ≤ c ∧ c ≤ 57 := by
  intro c hc
  unfold fig at hc
  rw [List.mem_append, List.mem_replicate] at hc
  rcases hc with ⟨_, rfl⟩ | hc
  · decide
  · exact dig_all n c hc
theorem fig_val (n m : Nat) : digitsVal (fig n m) = n := by
  unfold fig
  rw [dv_zeros, dig_val]
theorem int_fig {l : List Nat} (h : ∀ c ∈ l, 48 ≤ c ∧ c ≤ 57) (h0 : l ≠ []) (h2 : l.length ≤ 600) : PySem.intText? (S l) = some ((digitsVal l : Nat) : Int) := by
  have e := @intText_digits (S l) (by rw [S_cps]; exact h) (by rw [S_cps]; exact h0) (by rw [S_len]; omega)
  rw [S_cps] at e
  exact e
/-- a name with blanks behind -/
def pad (l : List Nat) (m : Nat) : List Nat := l ++ List.replicate (m - l.length) 32
theorem pad_len {l : List Nat} {m : Nat} (h : l.length ≤ m) : (pad l m).length = m := by
  unfold pad
  rw [List.length_append, List.length_replicate]
  omega
/-- the blanks behind are taken off -/
def bareL (l : List Nat) : List Nat := (l.reverse.dropWhile (· == 32)).reverse
theorem bare_pad {l : List Nat} (m : Nat) (h : ∀ c ∈ l, c ≠ 32) : bareL (pad l m) = l := by
  unfold bareL pad
  rw [List.reverse_append, List.reverse_replicate]
  have h1 : ∀ (k : Nat) (r : List Nat), (∀ c ∈ r, c ≠ 32) → (List.replicate k 32 ++ r).dropWhile (· == 32) = r := by
    intro k
    induction k with
    | zero =>
      intro r hr
      cases r with
      | nil => rfl
      | cons x q =>
        have : x ≠ 32 := hr x List.mem_cons_self
        rw [List.replicate_zero, List.nil_append, List.dropWhile_cons_of_neg]
        simpa using this
    | succ k ih =>
      intro r hr
      rw [List.replicate_succ, List.cons_append, List.dropWhile_cons_of_pos (by decide)]
      exact ih r hr
  rw [h1 _ _ fun c hc => h c (List.mem_reverse.mp hc), List.reverse_reverse]
theorem bare_step {l : List Nat} (h : l.drop (l.length - 1) = [32]) : bareL l.dropLast = bareL l ∧ l.dropLast.length < l.length := by
  rcases List.eq_nil_or_concat l with rfl | ⟨i, c, rfl⟩
  · simp at h
  · rw [List.concat_eq_append] at h ⊢
    rw [show (i ++ [c]).length - 1 = i.length by simp, List.drop_left] at h
    cases h
    constructor
    · unfold bareL
      rw [List.dropLast_concat, List.reverse_append]
      show _ = (((32 : Nat) :: i.reverse).dropWhile (· == 32)).reverse
      rw [List.dropWhile_cons_of_pos (by decide)]
    · simp
theorem bare_stop {l : List Nat} (h : ¬ l.drop (l.length - 1) = [32]) : bareL l = l := by
  rcases List.eq_nil_or_concat l with rfl | ⟨i, c, rfl⟩
  · rfl
  · rw [List.concat_eq_append] at h ⊢
    rw [show (i ++ [c]).length - 1 = i.length by simp, List.drop_left] at h
    unfold bareL
    rw [List.reverse_append]
    show (((c : Nat) :: i.reverse).dropWhile (· == 32)).reverse = _
    rw [List.dropWhile_cons_of_neg (by simpa using h)]
    simp
theorem bare_len (l : List Nat) : (bareL l).length ≤ l.length := by
  unfold bareL
  rw [List.length_reverse]
  exact Nat.le_trans (List.Sublist.length_le (List.dropWhile_sublist _)) (by simp)
/-! ### labels -/
def longs : List Nat := [4, 4, 4, 2, 5, 5, 6]
def mosts : List Nat := [9999, 9999, 9999, 99, 99999, 99999, 999999]
def volLab (a b : List Nat) : List Nat := [86, 79, 76, 49] ++ pad a 6 ++ pad b 8
def numsLab (ns : List Nat) : List Nat := ((ns.zip longs).map fun p => fig p.1 p.2).flatten
def fileLab (k n f : List Nat) (ns : List Nat) : List Nat := k ++ pad n 8 ++ pad f 6 ++ numsLab ns
def formLab (l : List Nat) (b s : Nat) : List Nat := [72, 68, 82, 50] ++ l ++ fig b 3 ++ fig s 3
end R
set_option maxRecDepth 100000
set_option maxHeartbeats 4000000
namespace R
set_option exponentiation.threshold 2000
open PySem PySem.Spec PyProof.Rows L2 RZ
open PySem.W (Datum)
/-! ### the rules of texts, said of lists of signs -/
/-- a slice of a list of signs -/
def sl {α : Type} (l : List α) (lo hi : Option Int) : List α := (l.drop (HT.sIx l.length 0 lo)).take (HT.sIx l.length l.length hi - HT.sIx l.length 0 lo)
theorem sl_to {α : Type} (l : List α) (k : Nat) : sl l none (some (k : Int)) = l.take k := by
  unfold sl
  rw [HT.sIx_none, HT.sIx_nat, List.drop_zero, Nat.sub_zero]
  by_cases h : k ≤ l.length
  · rw [Nat.min_eq_left h]
  · rw [Nat.min_eq_right (by omega), List.take_length, List.take_of_length_le (by omega)]
theorem sl_from {α : Type} (l : List α) (k : Nat) : sl l (some (k : Int)) none = l.drop k := by
  unfold sl
  rw [HT.sIx_none, HT.sIx_nat]
  by_cases h : k ≤ l.length
  · rw [Nat.min_eq_left h, List.take_of_length_le (by rw [List.length_drop]; exact Nat.le_refl _)]
  · rw [Nat.min_eq_right (by omega), List.drop_length, List.drop_eq_nil_of_le (by omega), List.take_nil]
theorem sl_mid {α : Type} (l : List α) (j k : Nat) : sl l (some (j : Int)) (some (k : Int)) = (l.take k).drop j := by
  unfold sl
  rw [HT.sIx_nat, HT.sIx_nat, List.drop_take]
  by_cases hj : j ≤ l.length
  · rw [Nat.min_eq_left hj]
    by_cases hk : k ≤ l.length
    · rw [Nat.min_eq_left hk]
    · rw [show min k l.length = l.length by omega, List.take_of_length_le (by rw [List.length_drop]; omega), List.take_of_length_le (by rw [List.length_drop]; omega)]
  · rw [show min j l.length = l.length by omega, List.drop_length, List.drop_eq_nil_of_le (by omega), List.take_nil, List.take_nil]
theorem sl_all {α : Type} (l : List α) : sl l none none = l := by
  unfold sl
  rw [HT.sIx_none, HT.sIx_none, List.drop_zero, Nat.sub_zero, List.take_length]
theorem sl_last {α : Type} (l : List α) : sl l (some (-1)) none = l.drop (l.length - 1) := by
  unfold sl
  rw [HT.sIx_none]
  have e : HT.sIx l.length 0 (some (-1)) = l.length - 1 := by
    show (if (-1 : Int) < 0 then ((-1 : Int) + (l.length : Int)).toNat else min (-1 : Int).toNat l.length) = _
    rw [if_pos (by decide)]
    omega
  rw [e, List.take_of_length_le (by rw [List.length_drop]; omega)]
theorem sl_but {α : Type} (l : List α) : sl l none (some (-1)) = l.dropLast := by
  unfold sl
  rw [HT.sIx_none, List.drop_zero, Nat.sub_zero]
  have e : HT.sIx l.length l.length (some (-1)) = l.length - 1 := by
    show (if (-1 : Int) < 0 then ((-1 : Int) + (l.length : Int)).toNat else min (-1 : Int).toNat l.length) = _
    rw [if_pos (by decide)]
    omega
  rw [e, List.dropLast_eq_take]
theorem cutS_S (l : List Nat) (lo hi : Option Int) : cutS (S l) lo hi = S (sl l lo hi) := S_sl l lo hi
theorem sl_le {α : Type} (l : List α) (lo hi : Option Int) : (sl l lo hi).length ≤ l.length := by
  unfold sl
  rw [List.length_take, List.length_drop]
  omega
section
variable {X : Cx}
theorem pe_strS {x : Str} {l : List Nat} {j : Nat} {pos : Pos} (h : x = S l) : PE X (.Constant (.str x) j pos) (tC (.str (S l))) := by
  subst h; exact pe_str
def rAddS2 : R2 := fun x y H Q => ∃ a b : List Nat, x = .str (S a) ∧ y = .str (S b) ∧ a.length + b.length ≤ 16777216 ∧ Q (.str (S (a ++ b))) H
theorem op_addS : OpR X (binaryOp .Add) rAddS2 := fun pins s σ H x y v u Q I rx ry h => by
  obtain ⟨a, b, rfl, rfl, hz, q⟩ := h
  refine op_add_str pins s σ H _ _ v u Q I rx ry ⟨_, _, rfl, rfl, ?_, ?_⟩
  · rw [S_len, S_len]; exact sz hz
  · rw [S_app]; exact q
theorem ip_addS : PIp X .Add rAddS2 := fun pins s σ H x y v u Q I rx ry h => by
  obtain ⟨a, b, rfl, rfl, hz, q⟩ := h
  refine iop_add_str pins s σ H _ _ v u Q I rx ry ⟨_, _, rfl, rfl, ?_, ?_⟩
  · rw [S_len, S_len]; exact sz hz
  · rw [S_app]; exact q
def rMulS2 : R2 := fun x y H Q => ∃ (c : Nat) (i : Int), x = .str (S [c]) ∧ y = .int i ∧ -1000000 < i ∧ i < 1000000 ∧ Q (.str (S (List.replicate i.toNat c))) H
theorem op_mulS : OpR X (binaryOp .Mult) rMulS2 := fun pins s σ H x y v u Q I rx ry h => by
  obtain ⟨c, i, rfl, rfl, lo, hi, q⟩ := h
  exact op_mul_str pins s σ H _ _ v u Q I rx ry ⟨_, _, rfl, rfl, rfl, lo, hi, q⟩
def rLenS2 : List V → Hp → VK → Prop := fun xs H Q => ∃ l : List Nat, xs = [.str (S l)] ∧ l.length ≤ 16777216 ∧ Q (.int (l.length : Nat)) H
theorem call_lenS : CallR X (.builtin "len") rLenS2 := fun pins s σ H xs us Q I r h => by
  obtain ⟨l, rfl, hz, q⟩ := h
  refine call_len_str pins s σ H _ us Q I r ⟨_, rfl, ?_, ?_⟩
  · rw [S_len]; exact sz hz
  · rw [S_len]; exact q
def rStrN : List V → Hp → VK → Prop := fun xs H Q => ∃ n : Nat, xs = [.int (n : Int)] ∧ n < 10 ^ 10 ∧ Q (.str (S (dig n))) H
theorem call_strN : CallR X (.type "str") rStrN := fun pins s σ H xs us Q I r h => by
  obtain ⟨n, rfl, hn, q⟩ := h
  refine call_str_int pins s σ H _ us Q I r ⟨_, rfl, ?_, ?_⟩
  · have e : ((n : Int)).natAbs = n := rfl
    rw [e]
    by_cases h0 : n = 0
    · subst h0; decide
    · rw [Nat.log2_lt h0]
      exact Nat.lt_of_lt_of_le hn (Nat.le_trans (show 10 ^ 10 ≤ 2 ^ 64 by decide) (Nat.pow_le_pow_right (by decide : 0 < 2) (by decide : 64 ≤ 1920)))
  · have := dig_str n
    rw [← this] at q
    exact q
def rIntS : List V → Hp → VK → Prop := fun xs H Q => ∃ l : List Nat, xs = [.str (S l)] ∧ (∀ c ∈ l, 48 ≤ c ∧ c ≤ 57) ∧ l ≠ [] ∧ l.length ≤ 600 ∧ Q (.int (PySem.NumText.digitsVal l : Nat)) H
theorem call_intS : CallR X (.type "int") rIntS := fun pins s σ H xs us Q I r h => by
  obtain ⟨l, rfl, h1, h2, h3, q⟩ := h
  exact call_int_str pins s σ H _ us Q I r ⟨_, _, rfl, int_fig h1 h2 h3, by rw [S_len]; omega, q⟩
def rSlS2 : V → Option Int → Option Int → Hp → VK → Prop := fun x lo hi H Q => ∃ l : List Nat, x = .str (S l) ∧ l.length ≤ 16777216 ∧ Q (.str (S (sl l lo hi))) H
theorem sl_strS : SlR X rSlS2 := fun pins s σ H x v vl vu lo hi q0 Q I rx hs pl pu h => by
  obtain ⟨l, rfl, hz, q⟩ := h
  refine sl_str pins s σ H _ v vl vu lo hi q0 Q I rx hs pl pu ⟨_, rfl, ?_, ?_⟩
  · rw [S_len]; exact sz hz
  · rw [cutS_S]; exact q
def rInS2 (neg : Bool) : R2 := fun x y H Q => ∃ (c : Nat) (l : List Nat), x = .str (S [c]) ∧ y = .str (S l) ∧ Q (.bl (if neg then !decide (c ∈ l) else decide (c ∈ l))) H
theorem op_inS2 : OpR X (compareOp .In) (rInS2 false) := fun pins s σ H x y v u Q I rx ry h => by
  obtain ⟨c, l, rfl, rfl, q⟩ := h
  refine op_in_sign pins s σ H _ _ v u Q I rx ry ⟨c, S l, rfl, rfl, ?_⟩
  rw [S_cps]; exact q
theorem op_notInS2 : OpR X (compareOp .NotIn) (rInS2 true) := fun pins s σ H x y v u Q I rx ry h => by
  obtain ⟨c, l, rfl, rfl, q⟩ := h
  refine op_notIn_sign pins s σ H _ _ v u Q I rx ry ⟨c, S l, rfl, rfl, ?_⟩
  rw [S_cps]; exact q
def rEqS (neg : Bool) : R2 := fun x y H Q => ∃ a b : List Nat, x = .str (S a) ∧ y = .str (S b) ∧ Q (.bl (if neg then !decide (a = b) else decide (a = b))) H
theorem eqS_dec (a b : List Nat) : decide (V.str (S a) = V.str (S b)) = decide (a = b) := decide_eq_decide.mpr ⟨fun e => S_inj.mp (V.str.inj e), fun e => by rw [e]⟩
theorem op_eqS : OpR X (compareOp .Eq) (rEqS false) := fun pins s σ H x y v u Q I rx ry h => by
  obtain ⟨a, b, rfl, rfl, q⟩ := h
  refine op_eq pins s σ H _ _ v u Q I rx ry ⟨rfl, ?_⟩
  rw [eqS_dec]; exact q
theorem op_neS : OpR X (compareOp .NotEq) (rEqS true) := fun pins s σ H x y v u Q I rx ry h => by
  obtain ⟨a, b, rfl, rfl, q⟩ := h
  refine op_ne pins s σ H _ _ v u Q I rx ry ⟨rfl, ?_⟩
  rw [eqS_dec]; exact q
def rIxS2 : R2 := fun x y H Q => ∃ (l : List Nat) (i : Int) (c : Nat), x = .str (S l) ∧ y = .int i ∧ l.length ≤ 16777216 ∧ atI l i = some c ∧ Q (.str (S [c])) H
theorem ix_strS : IxR X rIxS2 := fun value slice pins s σ H x y v u Q I rx ry h hs => by
  obtain ⟨l, i, c, rfl, rfl, hz, he, q⟩ := h
  exact ix_str value slice pins s σ H _ _ v u Q I rx ry ⟨S l, i, c, rfl, rfl, by rw [S_len]; exact sz hz, by rw [S_cps]; exact he, q⟩ hs
def rLeS : R2 := fun x y H Q => ∃ a b : List Nat, x = .str (S a) ∧ y = .str (S b) ∧ Q (.bl (!decide (b < a))) H
theorem op_leS : OpR X (compareOp .LtE) rLeS := fun pins s σ H x y v u Q I rx ry h => by
  obtain ⟨a, b, rfl, rfl, q⟩ := h
  refine op_le_str pins s σ H _ _ v u Q I rx ry ⟨_, _, rfl, rfl, ?_⟩
  rw [S_cps, S_cps]; exact q
theorem op_geS : OpR X (compareOp .GtE) (fun x y H Q => ∃ a b : List Nat, x = .str (S a) ∧ y = .str (S b) ∧ Q (.bl (!decide (a < b))) H) := fun pins s σ H x y v u Q I rx ry h => by
  obtain ⟨a, b, rfl, rfl, q⟩ := h
  refine op_ge_str pins s σ H _ _ v u Q I rx ry ⟨_, _, rfl, rfl, ?_⟩
  rw [S_cps, S_cps]; exact q
end
theorem str_app_cps (a b : Str) : (a ++ b).cps.toList = a.cps.toList ++ b.cps.toList := by
  rw [S_of a, S_of b, S_app, S_cps, S_cps, S_cps]
theorem join_nil : ∀ ls : List (List Nat), Str.join (S []) (ls.map S) = S ls.flatten
  | [] => rfl
  | [l] => by
    show S l = S (l ++ [])
    rw [List.append_nil]
  | l :: m :: r => by
    have ih := join_nil (m :: r)
    show S l ++ S [] ++ Str.join (S []) ((m :: r).map S) = _
    rw [ih, S_app, S_app, List.append_nil]
    all_goals rfl
theorem sum_lens (ls : List (List Nat)) : ((ls.map S).map (·.length)).sum = ls.flatten.length := by
  rw [List.length_flatten, List.map_map]
  rfl
section
variable {X : Cx}
/-- "".join of a list of texts -/
def rJoinS (K : PySem.W.Frag) : V → List V → Hp → VK → Prop := fun x xs H Q => ∃ (p : Addr) (ls : List (List Nat)), x = .str (S []) ∧ xs = [.ref p] ∧ SqL K H p (ls.map fun l => V.str (S l)) ∧ ls.flatten.length ≤ 16777216 ∧ Q (.str (S ls.flatten)) H
theorem mt_joinS : MtR X "str.join" (rJoinS X.K) := fun pins s σ H x xs v us Q I rx rs h => by
  obtain ⟨p, ls, rfl, rfl, hp, hz, q⟩ := h
  refine mt_join pins s σ H _ _ v us Q I rx rs ⟨S [], p, ls.map S, rfl, rfl, .inl ?_, ?_, ?_⟩
  · rw [List.map_map]; exact hp
  · rw [sum_lens, S_len]
    simpa using hz
  · rw [TL.join_eq, join_nil]; exact q
theorem pe_joinS {o e : Expr} {to te : TE} {apos pos : Pos} (ho : PE X o to) (he : PE X e te) (hs : starEach [e] X.env = [(false, eval e X.env)] := by rfl) (hbase : attributeBase o "join" X.env (eval o X.env) = eval o X.env := by rfl) (hline : (apos.endLine == pos.line) = true := by rfl) :
    PE X (.Call (.Attribute o "join" apos) [e] [] pos) (tM1 (rJoinS X.K) to te) :=
  pe_m1 F.slot_str_join F.type_str_join mt_joinS ho he hs hbase hline
end
end R
set_option maxRecDepth 100000
set_option maxHeartbeats 4000000
namespace R
open PySem PySem.Spec PyProof.Rows L2 RZ
open PySem.W (Datum)
/-! ### lists of texts that grow -/
def txs (ls : List (List Nat)) : List V := ls.map fun l => V.str (S l)
theorem strs_len (ls : List (List Nat)) : (txs ls).length = ls.length := List.length_map _
theorem strs_app (ls ms : List (List Nat)) : txs (ls ++ ms) = txs ls ++ txs ms := List.map_append
theorem strs_get {ls : List (List Nat)} {i : Nat} {x : V} (h : (txs ls)[i]? = some x) : ∃ l, ls[i]? = some l ∧ x = .str (S l) := by
  unfold txs at h
  rw [List.getElem?_map] at h
  cases e : ls[i]? with
  | none => rw [e] at h; cases h
  | some l => rw [e] at h; exact ⟨l, rfl, (Option.some.inj h).symm⟩
theorem strs_S (ls : List (List Nat)) : txs ls = (ls.map S).map V.str := by
  unfold txs
  rw [List.map_map]
  all_goals rfl
theorem map_S_inj : ∀ {ls ms : List (List Nat)}, ls.map S = ms.map S → ls = ms
  | [], [], _ => rfl
  | [], _ :: _, h => by cases h
  | _ :: _, [], h => by cases h
  | a :: r, b :: t, h => by
    rw [List.map_cons, List.map_cons, List.cons.injEq] at h
    rw [S_inj.mp h.1, map_S_inj h.2]
theorem dp_strs2 {K : PySem.W.Frag} {H : Hp} {a : Addr} {ls : List (List Nat)} (h : SqL K H a (txs ls)) : Dp K H (.ref a) (Datum.toD (ls.map S)) := dp_strsL (by rw [← strs_S]; exact h)
theorem eq_strs {K : PySem.W.Frag} {H : Hp} {a b : Addr} {ls ms : List (List Nat)} {Q : VK} (h1 : SqL K H a (txs ls)) (h2 : SqL K H b (txs ms)) (q : Q (.bl (decide (ls = ms))) H) : rEqP K (.ref a) (.ref b) H Q := by
  refine rEqP_of (dp_strs2 h1) (dp_strs2 h2) ?_
  rw [show decide (ls.map S = ms.map S) = decide (ls = ms) from decide_eq_decide.mpr ⟨map_S_inj, fun e => by rw [e]⟩]
  exact q
theorem ne_strs {K : PySem.W.Frag} {H : Hp} {a b : Addr} {ls ms : List (List Nat)} {Q : VK} (h1 : SqL K H a (txs ls)) (h2 : SqL K H b (txs ms)) (q : Q (.bl (!decide (ls = ms))) H) : rNeP K (.ref a) (.ref b) H Q := by
  refine rNeP_of (dp_strs2 h1) (dp_strs2 h2) ?_
  rw [show decide (ls.map S = ms.map S) = decide (ls = ms) from decide_eq_decide.mpr ⟨map_S_inj, fun e => by rw [e]⟩]
  exact q
/-- a list that was new at H0 has grown to xs; all older is as it was -/
def Grow (H0 : Hp) (p : Addr) (H : Hp) (xs : List V) : Prop := H0 p = none ∧ Same H0 H ∧ H p = some (.lst xs)
section
variable {H0 H H' : Hp} {p q : Addr} {xs ys : List V} {o : HO}
theorem Grow.start (n : H0 p = none) : Grow H0 p (upd H0 p (.lst xs)) xs := ⟨n, same_new n, upd_same⟩
theorem Grow.set (g : Grow H0 p H xs) : Grow H0 p (upd H p (.lst ys)) ys := ⟨g.1, fun b o e => by rw [upd_ne (ne_of_none e g.1)]; exact g.2.1 b o e, upd_same⟩
theorem Grow.new (g : Grow H0 p H xs) (n : H q = none) : Grow H0 p (upd H q o) xs := ⟨g.1, g.2.1.trans (same_new n), by rw [upd_ne (ne_of_none g.2.2 n)]; exact g.2.2⟩
theorem Grow.same (g : Grow H0 p H xs) (s : Same H H') : Grow H0 p H' xs := ⟨g.1, g.2.1.trans s, s _ _ g.2.2⟩
end
theorem ixN_last {α : Type} (xs : List α) (v : α) : ixN (xs ++ [v]).length (-1) = some xs.length := by
  unfold ixN
  rw [if_neg (by decide), List.length_append, if_pos (by rw [List.length_singleton]; omega), List.length_singleton]
  congr 1
  omega
theorem set_last {α : Type} (xs : List α) (v w : α) : (xs ++ [v]).set xs.length w = xs ++ [w] := by
  rw [List.set_append_right _ _ (Nat.le_refl _), Nat.sub_self]
  rfl
section
variable {X : Cx}
/-- list[i], by values -/
theorem pget_list : PGet X (rIxL X.K) := by
  intro pins s σ H x y v u Q I rx ry h
  obtain ⟨p, xs, i, z, rfl, rfl, hq, he, q⟩ := h
  cases rx
  obtain ⟨t, rfl⟩ := ry
  obtain ⟨its, r, pl, hz⟩ := I.list hq
  obtain ⟨j, h1, h2, h3, h4, h5⟩ := atI_get he
  obtain ⟨w, ew, rw'⟩ := r.get h2
  have hl := r.length
  have hn := line63
  have fin : EP X pins σ Q w s := ⟨z, H, I, rw', q⟩
  by_cases h0 : 0 ≤ i
  · have hj : i.toNat = j := by
      rw [seqIndex_of h0 h5] at h1
      exact Option.some.inj h1
    exact wpAny_getItem_list pl.isList h0 (by omega) (by rw [hj]; simpa using ew) fin
  · have hj : (i + (its.toArray.size : Int)).toNat = j := by
      rw [seqIndex_neg (by omega) h4] at h1
      rw [List.size_toArray, ← hl]
      exact Option.some.inj h1
    exact wpAny_getItem_list_neg pl.isList (by omega) (by rw [List.size_toArray] <;> omega) (by omega) (by rw [hj]; simpa using ew) fin
/-- a list's item op= e -/
theorem ps_augL {o i e : Expr} {to ti te : TE} {tip : TIp} {op : Operator} {tpos pos : Pos} (ho : PE X o to) (hi : PE X i ti) (he : PE X e te) (hp : PIp X op tip) (ha : ∀ ov iv new, augStore i ov iv new = (do holding [new, ov, iv] (setItem ov iv new); release [new, ov, iv] []; pure .next) := by intros; rfl) : PS X (.AugAssign (.Subscript o i tpos) op e pos) (tAugS to ti te (rIxL X.K) tip rSetL) := ps_augS ho hi pget_list he hp set_list ha
end
/-! ### within comprehensions: K told from outside -/
theorem call_isiC {X : Cx} {K : PySem.W.Frag} (h : X.K = K) : CallR X (.builtin "isinstance") (rIsi K) := by subst h; exact call_isi
theorem pi_listC {X : Cx} {K : PySem.W.Frag} {tg l : Expr} {tl : TE} (h : X.K = K) (hl : PE X l tl) : PI X tg l (iList K tl) := by subst h; exact pi_list hl
theorem pi_tupC {X : Cx} {K : PySem.W.Frag} {tg l : Expr} {tl : TE} (h : X.K = K) (hl : PE X l tl) : PI X tg l (iTup K tl) := by subst h; exact pi_tup hl
theorem ix_listC {X : Cx} {K : PySem.W.Frag} (h : X.K = K) : IxR X (rIxL K) := by subst h; exact ix_list
theorem ix_tupC {X : Cx} {K : PySem.W.Frag} (h : X.K = K) : IxR X (rIxT K) := by subst h; exact ix_tup
theorem op_eqPC {X : Cx} {K : PySem.W.Frag} (h : X.K = K) (hu : X.A.units + 64 < cLine) : OpR X (compareOp .Eq) (rEqP K) := by subst h; exact op_eqP hu
theorem op_nePC {X : Cx} {K : PySem.W.Frag} (h : X.K = K) (hu : X.A.units + 64 < cLine) : OpR X (compareOp .NotEq) (rNeP K) := by subst h; exact op_neP hu
/-! ### values that may be texts -/
inductive Item (K : PySem.W.Frag) (H : Hp) : V → Option (List Nat) → Prop
  | str (l : List Nat) (h : l.length < 16777216) : Item K H (.str (S l)) (some l)
  | no {x : V} {n : String} (h : Pl K H x n) (hn : (n == "str") = false) : Item K H x none
theorem Item.pl {K : PySem.W.Frag} {H : Hp} {x : V} {r : Option (List Nat)} (h : Item K H x r) : ∃ n, Pl K H x n ∧ (n == "str") = r.isSome := by
  cases h with
  | str l h => exact ⟨"str", .str _, rfl⟩
  | no h hn => exact ⟨_, h, hn⟩
theorem Item.same {K : PySem.W.Frag} {H H' : Hp} {x : V} {r : Option (List Nat)} (h : Item K H x r) (s : Same H H') : Item K H' x r := by
  cases h with
  | str l h => exact .str l h
  | no h hn => exact .no (h.same s) hn
inductive Items (K : PySem.W.Frag) (H : Hp) : List V → List (Option (List Nat)) → Prop
  | nil : Items K H [] []
  | cons {x : V} {xs : List V} {r : Option (List Nat)} {rs : List (Option (List Nat))} (h : Item K H x r) (t : Items K H xs rs) : Items K H (x :: xs) (r :: rs)
theorem Items.len {K : PySem.W.Frag} {H : Hp} : ∀ {xs : List V} {rs : List (Option (List Nat))}, Items K H xs rs → xs.length = rs.length
  | _, _, .nil => rfl
  | _, _, .cons _ t => by rw [List.length_cons, List.length_cons, t.len]
theorem Items.get {K : PySem.W.Frag} {H : Hp} : ∀ {xs : List V} {rs : List (Option (List Nat))} {i : Nat} {x : V}, Items K H xs rs → xs[i]? = some x → ∃ r, rs[i]? = some r ∧ Item K H x r
  | _, _, 0, _, .cons h _, e => by cases e; exact ⟨_, rfl, h⟩
  | _, _, i + 1, _, .cons _ t, e => t.get (i := i) (by simpa using e)
  | _, _, _, _, .nil, e => by simp at e
theorem Items.same {K : PySem.W.Frag} {H H' : Hp} : ∀ {xs : List V} {rs : List (Option (List Nat))}, Items K H xs rs → Same H H' → Items K H' xs rs
  | _, _, .nil, _ => .nil
  | _, _, .cons h t, s => .cons (h.same s) (t.same s)
theorem Items.ofs {K : PySem.W.Frag} {H : Hp} : ∀ {ls : List (List Nat)}, (∀ l ∈ ls, l.length < 16777216) → Items K H (txs ls) (ls.map some)
  | [], _ => .nil
  | l :: r, h => .cons (.str l (h l List.mem_cons_self)) (Items.ofs fun m hm => h m (List.mem_cons_of_mem _ hm))
/-- a value that may be a list of texts -/
inductive Recs (K : PySem.W.Frag) (H : Hp) : V → Option (List (Option (List Nat))) → Prop
  | no {x : V} {n : String} (h : Pl K H x n) (hn : (n == "list") = false) : Recs K H x none
  | lst {a : Addr} {xs : List V} {rs : List (Option (List Nat))} (h : SqL K H a xs) (hi : Items K H xs rs) (hz : xs.length < 16777216) : Recs K H (.ref a) (some rs)
theorem Recs.pl {K : PySem.W.Frag} {H : Hp} {x : V} {r : Option (List (Option (List Nat)))} (h : Recs K H x r) : ∃ n, Pl K H x n ∧ (n == "list") = r.isSome := by
  cases h with
  | no h hn => exact ⟨_, h, hn⟩
  | lst h hi hz => exact ⟨"list", .lst h, rfl⟩
theorem Recs.ofs {K : PySem.W.Frag} {H : Hp} {a : Addr} {ls : List (List Nat)} (h : SqL K H a (txs ls)) (h1 : ls.length < 16777216) (h2 : ∀ l ∈ ls, l.length < 16777216) : Recs K H (.ref a) (some (ls.map some)) := .lst h (.ofs h2) (by rw [strs_len]; exact h1)
/-- [test of the item for item in a list] -/
theorem lc_items {K : PySem.W.Frag} {a : Addr} {xs : List V} {rs : List (Option (List Nat))} {te : TE} {vs : List Nat} {σ : L2.St} {H1 : Hp} {D : Addr} {Qd : Hp → Prop} {i : Nat} (f : Option (List Nat) → Bool) (hS : SqL K H1 a xs) (hi : Items K H1 xs rs) (hz : xs.length < 16777216) (nD : H1 D = none)
    (hw : ∀ x, wipe ((wipe σ vs).set i (some x)) vs = wipe σ vs)
    (hs : ∀ x r H, r ∈ rs → Item K H x r → Same H1 H → ∀ Q : VK, (∀ H2, Same H H2 → Q (.bl (f r)) H2) → te ((wipe σ vs).set i (some x)) H Q)
    (hd : ∀ H, Same H1 H → H D = some (.lst ((rs.map f).map V.bl)) → Qd H) :
    ∃ W : Nat → Nat → Hp → Prop, (∃ m, W 0 m (upd H1 D (.lst []))) ∧ ∀ i' m H, W i' m H →
      ((Itl K a).stop i' H ∧ Qd H) ∨ ((Itl K a).go i' H ∧ ∃ Nx : Hp → Prop, (∀ H', Nx H' → ∃ m', m' < m ∧ W (i' + 1) m' H') ∧ ∀ x H', (Itl K a).yld i' H x H' → (gName i) x (wipe σ vs) H' fun σ2 H2 => wipe σ2 vs = wipe σ vs ∧ tYes σ2 H2 fun b H3 =>
        if b = true then te σ2 H3 fun y H4 => ∃ acc, H4 D = some (.lst acc) ∧ acc.length < sizeLine ∧ Nx (upd H4 D (.lst (acc ++ [y]))) else Nx H3) := by
  refine lc_map (walk_list (xs := xs)) ((rs.map f).map V.bl) (by rw [List.length_map, List.length_map, hi.len]) hz nD yat_same (fun _ s => sql_same hS s) (fun j x H H' y hj hy s1 s1' hY Q q => ?_) hd gName_mono
  obtain ⟨rfl, hx⟩ := hY
  obtain ⟨r, hr, hI⟩ := hi.get hx
  have ey : y = .bl (f r) := by
    rw [List.getElem?_map, List.getElem?_map, hr] at hy
    exact (Option.some.inj hy).symm
  subst ey
  exact ⟨hw x, hs x r H' (List.mem_of_getElem? hr) (hI.same s1') s1' Q q⟩
/-- [text of the text for text in a list of texts] -/
theorem lc_strs {K : PySem.W.Frag} {a : Addr} {ls : List (List Nat)} {te : TE} {vs : List Nat} {σ : L2.St} {H1 : Hp} {D : Addr} {Qd : Hp → Prop} {i : Nat} (f : List Nat → List Nat) (hS : SqL K H1 a (txs ls)) (hz : ls.length < 16777216) (nD : H1 D = none)
    (hw : ∀ x, wipe ((wipe σ vs).set i (some x)) vs = wipe σ vs)
    (hs : ∀ l H, l ∈ ls → Same H1 H → ∀ Q : VK, (∀ H2, Same H H2 → Q (.str (S (f l))) H2) → te ((wipe σ vs).set i (some (.str (S l)))) H Q)
    (hd : ∀ H, Same H1 H → H D = some (.lst (txs (ls.map f))) → Qd H) :
    ∃ W : Nat → Nat → Hp → Prop, (∃ m, W 0 m (upd H1 D (.lst []))) ∧ ∀ i' m H, W i' m H →
      ((Itl K a).stop i' H ∧ Qd H) ∨ ((Itl K a).go i' H ∧ ∃ Nx : Hp → Prop, (∀ H', Nx H' → ∃ m', m' < m ∧ W (i' + 1) m' H') ∧ ∀ x H', (Itl K a).yld i' H x H' → (gName i) x (wipe σ vs) H' fun σ2 H2 => wipe σ2 vs = wipe σ vs ∧ tYes σ2 H2 fun b H3 =>
        if b = true then te σ2 H3 fun y H4 => ∃ acc, H4 D = some (.lst acc) ∧ acc.length < sizeLine ∧ Nx (upd H4 D (.lst (acc ++ [y]))) else Nx H3) := by
  refine lc_map (walk_list (xs := txs ls)) (txs (ls.map f)) (by rw [strs_len, strs_len, List.length_map]) (by rw [strs_len]; exact hz) nD yat_same (fun _ s => sql_same hS s) (fun j x H H' y hj hy s1 s1' hY Q q => ?_) hd gName_mono
  obtain ⟨rfl, hx⟩ := hY
  obtain ⟨l, hl, rfl⟩ := strs_get hx
  have ey : y = .str (S (f l)) := by
    obtain ⟨m, hm, rfl⟩ := strs_get hy
    rw [List.getElem?_map, hl] at hm
    rw [← Option.some.inj hm]
  subst ey
  exact ⟨hw _, hs l H' (List.mem_of_getElem? hl) s1' Q q⟩
/-- [text for text in texts if a test of it] -/
theorem lc_filter {K : PySem.W.Frag} {a : Addr} {ls : List (List Nat)} {tt : TT} {vs : List Nat} {σ : L2.St} {H1 : Hp} {D : Addr} {Qd : Hp → Prop} {i : Nat} (f : List Nat → Bool) (hS : SqL K H1 a (txs ls)) (hz : ls.length < 16777216) (nD : H1 D = none)
    (hw : ∀ x, wipe ((wipe σ vs).set i (some x)) vs = wipe σ vs) (hg : ∀ x, ((wipe σ vs).set i (some x))[i]? = some (some x))
    (hs : ∀ l H, l ∈ ls → Same H1 H → ∀ Q : Bool → Hp → Prop, (∀ H2, Same H H2 → Q (f l) H2) → tt ((wipe σ vs).set i (some (.str (S l)))) H Q)
    (hd : ∀ H, Same H1 H → H D = some (.lst (txs (ls.filter f))) → Qd H) :
    ∃ W : Nat → Nat → Hp → Prop, (∃ m, W 0 m (upd H1 D (.lst []))) ∧ ∀ i' m H, W i' m H →
      ((Itl K a).stop i' H ∧ Qd H) ∨ ((Itl K a).go i' H ∧ ∃ Nx : Hp → Prop, (∀ H', Nx H' → ∃ m', m' < m ∧ W (i' + 1) m' H') ∧ ∀ x H', (Itl K a).yld i' H x H' → (gName i) x (wipe σ vs) H' fun σ2 H2 => wipe σ2 vs = wipe σ vs ∧ tt σ2 H2 fun b H3 =>
        if b = true then tVar i σ2 H3 fun y H4 => ∃ acc, H4 D = some (.lst acc) ∧ acc.length < sizeLine ∧ Nx (upd H4 D (.lst (acc ++ [y]))) else Nx H3) := by
  refine lc_it (walk_list (xs := txs ls)) (fun i H => Same H1 H ∧ H D = some (.lst (txs ((ls.take i).filter f)))) ⟨same_new nD, upd_same⟩ (fun i H _ p => sql_same hS p.1) (fun j x H H' hj p y => ?_) (fun H p => hd H p.1 (by rw [strs_len, List.take_length] at p; exact p.2))
  obtain ⟨rfl, hx⟩ := y
  obtain ⟨l, hl, rfl⟩ := strs_get hx
  rw [strs_len] at hj
  have ht : (ls.take (j + 1)).filter f = (ls.take j).filter f ++ (if f l = true then [l] else []) := by
    rw [List.take_add_one, hl, Option.toList_some, List.filter_append]
    cases hb : f l with
    | true => rw [List.filter_cons_of_pos hb]; rfl
    | false => rw [List.filter_cons_of_neg (by rw [hb]; exact Bool.false_ne_true)]; rfl
  refine ⟨hw _, hs l H' (List.mem_of_getElem? hl) p.1 _ fun H2 s2 => ?_⟩
  have hD2 : H2 D = some (.lst (txs ((ls.take j).filter f))) := s2 _ _ p.2
  cases hb : f l with
  | true =>
    rw [hb, if_pos rfl] at ht
    refine iteT ⟨_, hg _, _, hD2, szl ?_, ?_, ?_⟩
    · rw [strs_len]
      have := List.length_filter_le f (ls.take j)
      rw [List.length_take] at this
      omega
    · intro b o hbo
      rw [upd_ne (ne_of_none hbo nD)]
      exact s2 _ _ (p.1 _ _ hbo)
    · rw [upd_same, ht, strs_app]
      rfl
  | false =>
    rw [hb, if_neg Bool.false_ne_true, List.append_nil] at ht
    refine iteF ⟨p.1.trans s2, ?_⟩
    rw [ht]
    exact hD2
end R
set_option maxRecDepth 100000
set_option maxHeartbeats 4000000
namespace R
open PySem PySem.Spec PyProof.Rows L2 RZ
/-! ### an exception that is kept beyond its suite -/
/-- at a stands an exception of the class at D -/
def KeptE (D a : Addr) : HO := .ext fun h => ∃ oe : Obj, PySem.W.InstAt h a oe D none
theorem keptE_ok {P : Program} {w : World} {H : Hp} {h : Heap} {a D : Addr} {oe : Obj} (i : PySem.W.InstAt h a oe D none) : ObjOk P w H h a (KeptE D a) := by
  refine ⟨⟨oe, i⟩, ⟨oe, i.at_⟩, ?_⟩
  rintro h1 h2 ⟨o, j⟩ k
  refine ⟨o, k o j.at_, j.cls, j.no, ?_⟩
  have q := j.dict
  revert q
  cases o.dict <;> exact id
section
variable {X : Cx} {pins : List (Addr × Obj)} {σ : L2.St} {H : Hp} {s : Shared}
theorem inv_track {a D : Addr} {oe : Obj} {vs : Array Value} (I : Inv X pins σ H s) (i : PySem.W.InstAt s.heap a oe D none) (hd : oe.data = .fields vs) (old : X.s_0.heap.get? a = none) (na : H a = none) (nl : a ≠ X.env.locals)
    (np : ∀ p ∈ X.pn ++ pins, p.1 ≠ a) : Inv X pins σ (upd H a (KeptE D a)) s := by
  have cells : ∀ y c, X.env.cells.lookup y = some c → c ≠ a := by
    rintro y c e rfl
    obtain ⟨v, o, ho, hv⟩ := I.cell y c e
    rw [i.at_] at ho
    cases ho
    rw [hd] at hv
    cases hv
  have un : Un X.fs X.ex X.H_0 (upd H a (KeptE D a)) X.s_0.heap s.heap :=
    { keep := I.base.keep
      slot := I.base.slot
      there := I.base.there
      free := fun b o e n hx => by
        have nb : b ≠ a := by
          rintro rfl
          rw [old] at e
          cases e
        exact (upd_ne nb).trans (I.base.free b o e n hx)
      tups := fun b xs e => (upd_ne (ne_of_none (I.base.tups b xs e) na)).trans (I.base.tups b xs e)
      frzs := fun b o u e => (upd_ne (ne_of_none (I.base.frzs b o u e) na)).trans (I.base.frzs b o u e)
      tbls := fun b ps e => by
        obtain ⟨m, q⟩ := I.base.tbls b ps e
        exact ⟨m, (upd_ne (ne_of_none q na)).trans q⟩ }
  exact
    { ok := I.ok, os := I.os, bare := I.bare, base := un, loc := I.loc, cell := I.cell
      free := (upd_ne nl.symm).trans I.free
      freeC := fun y c e => (upd_ne (cells y c e)).trans (I.freeC y c e)
      pin := fun p hp => ⟨(I.pin p hp).1, (upd_ne (np p hp)).trans (I.pin p hp).2.1, (I.pin p hp).2.2⟩
      hok := HOk.laidN I.hok (fun _ _ e => e) na (keptE_ok i)
      len := I.len }
end
/-- what 'except x as n' wishes, if the exception that it holds is kept: the suite comes to its end -/
def wKeep (K : PySem.W.Frag) (c : Value) (i : Nat) (ts : Addr → TS) (D : Ends) : WX := fun cls d σ H => ∃ C, cls = .ref C ∧ d = none ∧ PySem.W.exmOne K (.ref C) c = some true ∧
  ∀ a, H a = none → ts a { nx := fun σ' H' => H' a = none → D.nx (σ'.set i none) (upd H' a (KeptE C a)), rt := fun _ _ => False } (σ.set i (some (.ref a))) H
section
variable {X : Cx} {x n : Str} {c : Value} {i : Nat} {body rest : List Stmt} {st : Stmt} {np p1 p2 : Pos} {tb : WX → TS} {ts : Addr → TS}
theorem ps_try_keep (hst : X.stack = X.env :: X.outer) (hfm : X.env.frame = some X.env.locals) (hN : X.N.Nodup) (hi : X.N[i]? = some n) (hl : X.env.kindOf n = some .local) (hc : Names X x c) (hex : X.ex = [])
    (hb : ∀ (W : WX) (pn : List (Addr × Obj)) (xe : Value → Shared → Prop), Takes (X.tr pn xe) W → PassesOwn (model X.prog X.w) X.A X.env xe → PSs (X.tr pn xe) body (tb W))
    (hsu : ∀ (a : Addr) (pn : List (Addr × Obj)), PSs (X.suite a pn) (st :: rest) (ts a)) :
    PS X (.Try body [.ExceptHandler (some (.Name x np)) (some n) (st :: rest) p1] [] [] p2) (fun D σ H => tb (wKeep X.K c i ts D) D σ H) := by
  constructor
  intro pins s σ H D I q
  have ok := I.ok
  have fr : X.A.frames = some (X.env :: X.outer) := ok.frames.trans (congrArg some hst)
  apply wpAny_Try_except
  have run := fun xe tk pw => (hb (wKeep X.K c i ts D) (X.pn ++ pins) xe tk pw).run [] s σ H D (I.toTry xe) q
  refine wpAny_mono (run (fun e t₁ => wpAny (model X.prog X.w) X.A (noteFrame e X.env) (fun _ t₂ => wpAny (model X.prog X.w) X.A (setFlight e none) (fun _ t₃ =>
    wpAny (model X.prog X.w) X.A (handleBy e X.env [.ExceptHandler (some (.Name x np)) (some n) (st :: rest) p1]) (SP X pins D) X.xe t₃) X.xe t₂) X.xe t₁) ?caught PassesOwn.looking) ?went (fun _ _ z => z)
  case went =>
    intro f t z
    cases f with
    | next => exact wpAny_execs_nil (let ⟨σ', H', J, r⟩ := z; ⟨σ', H', J.ofTry ok, r⟩)
    | brk => exact (let ⟨σ', H', J, r⟩ := z; ⟨σ', H', J.ofTry ok, r⟩)
    | cont => exact (let ⟨σ', H', J, r⟩ := z; ⟨σ', H', J.ofTry ok, r⟩)
    | ret u => exact (let ⟨v, σ', H', J, e, r⟩ := z; ⟨v, σ', H', J.ofTry ok, e, r⟩)
  case caught =>
    rintro u t ⟨a, B, t0, pins', σ1, H1, cls, d, rfl, J0, ground, up, sky, na, eos, gens, C, rfl, rfl, hexm, hsuite⟩
    have J : Inv X pins σ1 H1 t0 := J0.ofTry ok
    have sky2 : Sky B (X.env :: X.outer) a (Zc (.ref C) none) X.env.locals t.heap := hst ▸ sky
    show wpAny _ X.A (noteFrame (.ref a) X.env) _ _ _
    refine Sky.land Zc.steady fr hfm sky2 fun g fly upg => ?_
    -- where the exception's own object stands
    have seen : ∀ {g' : Heap}, HandSPX.FlyingZ B (X.env :: X.outer) a (Zc (.ref C) none) g' → ∃ (oe : Obj) (vs : Array Value), g'.get? a = some oe ∧ Zc (.ref C) none oe ∧ oe.data = .fields vs ∧ a ∉ frs (X.env :: X.outer) := fun {g'} fl => by
      obtain ⟨oe, vs, e1, e2, e3⟩ := fl.there
      refine ⟨oe, vs, e1, e2, e3, fun hm => ?_⟩
      obtain ⟨_, o', e', no⟩ := fl.2.2.1.mem hm
      rw [e1] at e'
      cases e'
      exact no _ e3
    obtain ⟨oe, vs, at1, z1, dat1, off⟩ := seen fly
    have offL : a ≠ X.env.locals := fun z => off (List.mem_filterMap.mpr ⟨X.env, List.mem_cons_self, hfm.trans (congrArg some z.symm)⟩)
    have offF : a ∉ X.fs := fun hm => by
      obtain ⟨e, he, r⟩ := List.mem_filterMap.mp hm
      exact off (List.mem_filterMap.mpr ⟨e, List.mem_cons_of_mem _ he, r⟩)
    have notB : ∀ o, B.get? a ≠ some o := fun o z => by
      rw [fly.2.1] at z
      cases z
    have old : X.s_0.heap.get? a = none := by
      cases e : X.s_0.heap.get? a with
      | none => rfl
      | some o =>
        obtain ⟨o', e'⟩ := J.base.there a o e (by rw [hex]; exact List.not_mem_nil)
        exact absurd (ground a o' e' (by rw [show X.stack = X.env :: X.outer from hst]; exact off)) (notB o')
    have pinned : ∀ p ∈ X.pn ++ pins, p.1 ≠ a := fun p hp z => by
      obtain ⟨e1, _⟩ := J.pin p hp
      rw [z] at e1
      exact notB _ (ground a _ e1 (by rw [show X.stack = X.env :: X.outer from hst]; exact off))
    have S1 := (J.landed (s' := { t with heap := g }) ground fly.1 (up.trans upg) eos gens).suite at1 dat1 na offL offF
    refine wpAny_handleBy_cons (codeAny_handlers_test ?_) (by intro z; cases z)
    have kind : PySem.W.Looks (model X.prog X.w) g (typeOf (.ref a)) (.ref C) := fun A' Q' E' s' k r => wpAny_typeOf_ref (k _ _ at1) (z1.1.symm ▸ r)
    have asks := (PySem.W.exm_one (M := model X.prog X.w) (S1.kIn) kind hexm)
    have named : ∀ {Q' : Value → Shared → Prop} {E' : Value → Shared → Prop}, Q' c { t with heap := g } → wpAny (model X.prog X.w) (X.A.mark (some (.ref a))) (eval (.Name x np) X.env) Q' E' { t with heap := g } := by
      intro Q' E' r
      rcases hc with ⟨hg, hdb, hm | ⟨hm, hv, hnn⟩⟩
      · exact ld_glob (X := X.suite a ((a, oe) :: (X.pn ++ pins))) S1 hg hm r hdb
      · exact ld_blt (X := X.suite a ((a, oe) :: (X.pn ++ pins))) S1 hg hm hv r hnn hdb
    refine named (asks.here (codeAny_handlers_suite_as (HandSPX.lands_againZ fly fun g2 fly2 up2 => ?_)))
    obtain ⟨oe2, vs2, at2, z2, dat2, _⟩ := seen fly2
    have S2 := (J.landed (s' := { t with heap := g2 }) ground fly2.1 ((up.trans upg).trans up2) eos gens).suite at2 dat2 na offL offF
    refine store_ok (X := X.suite a ((a, oe2) :: (X.pn ++ pins))) (v := .ref a) S2 hN hi (.inl hl) rfl (fun t5 S5 => ?_) (.inr hl)
    refine wpAny_mono ((hsu a _).run [] t5 _ H1 _ S5 (hsuite a na)) (fun f t6 z => ?_) (fun _ _ z => z.elim)
    cases f with
    | ret u => exact (let ⟨_, _, _, _, _, r⟩ := z; r.elim)
    | brk => exact (let ⟨_, _, _, r⟩ := z; r.elim)
    | cont => exact (let ⟨_, _, _, r⟩ := z; r.elim)
    | next =>
      obtain ⟨σ6, H6, S6, r⟩ := z
      obtain ⟨at6, na6, _⟩ := S6.pin (a, oe2) (List.mem_append_left _ List.mem_cons_self)
      have ins : PySem.W.InstAt t6.heap a oe2 C none := by
        refine ⟨at6, z2.1, ?_, ?_⟩
        · unfold PySem.W.notCls
          rw [dat2]
        · rw [z2.2]
          trivial
      exact gone_ok (inv_track (S6.unsuite ok) ins dat2 old na6 offL pinned) hN hi hl fun t7 J7 => ⟨_, _, J7, r na6⟩
end
/-- isinstance(e, c), e kept -/
def rIsK (K : PySem.W.Frag) : List V → Hp → VK → Prop := fun xs H Q => ∃ (a D : Addr) (c : V) (cv : Value) (b : Bool), xs = [.ref a, c] ∧ H a = some (KeptE D a) ∧ ExcC K D ∧ (∀ u, RelV c u → u = cv) ∧ PySem.W.kitOne K (.ref D) cv = some b ∧ Q (.bl b) H
theorem call_isK {X : Cx} : CallR X (.builtin "isinstance") (rIsK X.K) := by
  intro pins s σ H xs us Q I r h
  obtain ⟨a, D, c, cv, b, rfl, ha, hC, hcv, e, q⟩ := h
  obtain ⟨u0, u1, rfl, r0, r1⟩ := vals2 r
  obtain rfl : u0 = Value.ref a := r0
  obtain rfl := hcv _ r1
  obtain ⟨⟨oe, i⟩, _, _⟩ := I.hok a _ ha
  exact PySem.W.kia_one (PySem.W.handS_kitx_exc hC.hg hC.hk hC.hs hC.hd hC.ha hC.hn hC.ht hC.hm) I.kIn i e (fun z => nomatch z) fun tk => ⟨.bl b, H, I.kept (t' := tk) fun _ _ z => z, rfl, q⟩
/-- how often True stands in a list of truths -/
def rCntB (K : PySem.W.Frag) : V → List V → Hp → VK → Prop := fun x xs H Q => ∃ (p : Addr) (bs : List Bool), x = .ref p ∧ xs = [.bl true] ∧ SqL K H p (bs.map V.bl) ∧ Q (.int (bs.count true : Nat)) H
theorem flat_bls : ∀ bs : List Bool, (bs.map V.bl).all flatV = true
  | [] => rfl
  | _ :: r => flat_bls r
theorem cnt_bls {u : Value} : ∀ {bs : List Bool} {us : List Value}, Vals (bs.map V.bl) us → us.countP (eqU (.bl true)) = bs.count true
  | [], _, .nil => rfl
  | b :: r, _, .cons h t => by
    rw [List.countP_cons, cnt_bls (u := u) t, eqU_of h rfl, List.count_cons]
    cases b <;> rfl
theorem mt_cntB {X : Cx} : MtR X "list.count" (rCntB X.K) := by
  rintro pins s σ H x xs v us Q I rx rxs ⟨p, bs, rfl, rfl, hs, q⟩
  obtain rfl : v = Value.ref p := rx
  obtain ⟨u, rfl, ru⟩ := rxs.one
  obtain ⟨its, rv, ⟨o, n, at_, c1, _, c2⟩, _⟩ := I.list hs
  obtain ⟨oc, od, oda, osl⟩ := o
  simp only at c1 c2
  subst c1 c2
  have mem : ∀ y ∈ its.toArray, SeqAt.EqAt X.A.in1 s y u (eqU (.bl true) y) := fun y hy => mem_eqAt (A := X.A.in1) (s := s) ru rfl rv (flat_bls bs) y (by simpa using hy)
  refine call_meets PySem.F.slot_list_count ⟨_, at_, rfl⟩ PySem.F.entry_list_count (PySem.F.args_list_count_2 _ _) (SeqAt.list_countAt p its.toArray n od osl u (eqU (.bl true))) ⟨at_, mem, ?_⟩
  refine ⟨.int (bs.count true : Nat), H, I.tok _, ⟨s.toks, ?_⟩, q⟩
  have e : its.toArray.toList.countP (eqU (.bl true)) = bs.count true := cnt_bls (u := u) rv
  exact congrArg (fun k : Nat => Value.int (k : Int) s.toks) e
/-! ### calls by keywords in a try's body -/
section
variable {X : Cx} {k n : Nat} {f C : Addr} {fd : FuncData} {ps ks : List Str} {sp : Sp} {W : WX} {x : Str} {p pos : Pos} {e : Expr} {es : List Expr} {kws : List Keyword} {t tw : TA} {g : List Value → List Value → List Value} {gV : List V → List V → List V}
theorem pe_callNS (F : FnOk X.prog X.w X.K X.mg X.base (L2.CX X.prog X.w) k f fd ps sp) (hr : Room k X.A) (hg : Gl X x) (hm : X.mg x = some (.ref f)) (hk : PySem.W.keepIn X.K (.ref f) = true) (hb : KBn X.K fd ps n ks g gV) (wt : Takes X W)
    (ha : PA X (e :: es) t) (hw : PK X kws tw) (h1 : (backToKw pos (keywordEach kws X.env)).all (·.1.isSome) = true := by rfl) (h2 : (backToKw pos (keywordEach kws X.env)).filterMap (·.1) = ks := by rfl)
    (h3 : (x == ("__debug__" : Str)) = false := by decide) (h4 : starEach (e :: es) X.env = (false, eval e X.env) :: starEach es X.env := by rfl)
    (h5 : ((backTo pos (starEach (e :: es) X.env)).any (·.1) || (backToKw pos (keywordEach kws X.env)).any (·.1.isNone)) = false := by rfl) :
    PE X (.Call (.Name x p) (e :: es) kws pos) (fun σ H Q => t σ H fun vs H1 => tw σ H1 fun zs H2 => vs.length = n ∧ zs.length = ks.length ∧ sp (gV vs zs) H2 Q (WE W σ)) := by
  constructor
  intro pins s σ H Q I q
  apply wpAny_Call_Name_kw (ld_glob I hg hm ?_ h3)
  refine PySem.W.callWith_KW (h₀ := X.base) I.ok.mod.kin hk h1 (thn (ha.run pos pins s σ H _ I q) ?_) h5 h4
  rintro us s1 ⟨vs, H1, I1, r, q1⟩
  refine thn (hw.run pos pins s1 σ H1 _ I1 q1) ?_
  rintro ws s2 ⟨zs, H2, I2, rz, l1, l2, q2⟩
  rw [h2]
  refine ⟨I2.kIn, wpAny_call (codeAny_mono (F.run X.A X.stack s2 H2 ⟨us, ks.zip ws⟩ (g us ws) (gV vs zs) Q (WE W σ) hr I2.env0 (hb.to s2 us ws I2.kIn (r.length.symm.trans l1) (rz.length.symm.trans l2)) (hb.rel r rz) q2) ?_)⟩
  rintro (er | fl) s3 z
  · exact passAt wt σ pins H2 s2 er s3 I2 z
  · cases fl with
    | ret u => exact I2.after z
    | next => exact z.elim
    | brk => exact z.elim
    | cont => exact z.elim
theorem pe_makeKS (M : Mk X.K C f) (F : FnOk X.prog X.w X.K X.mg X.base (L2.CX X.prog X.w) k f fd ps sp) (hr : Room (k + 1) X.A) (hg : Gl X x) (hm : X.mg x = some (.ref C)) (hb : KBn X.K fd ps (n + 1) ks g gV) (wt : Takes X W)
    (ha : PA X (e :: es) t) (hw : PK X kws tw) (h1 : (backToKw pos (keywordEach kws X.env)).all (·.1.isSome) = true := by rfl) (h2 : (backToKw pos (keywordEach kws X.env)).filterMap (·.1) = ks := by rfl)
    (h3 : (x == ("__debug__" : Str)) = false := by decide) (h4 : starEach (e :: es) X.env = (false, eval e X.env) :: starEach es X.env := by rfl)
    (h5 : ((backTo pos (starEach (e :: es) X.env)).any (·.1) || (backToKw pos (keywordEach kws X.env)).any (·.1.isNone)) = false := by rfl) :
    PE X (.Call (.Name x p) (e :: es) kws pos) (fun σ H Q => t σ H fun vs H1 => tw σ H1 fun zs H2 => vs.length = n ∧ zs.length = ks.length ∧ ∀ o dx, H2 o = none → H2 dx = none → dx ≠ o →
      sp (gV (.ref o :: vs) zs) (upd (upd H2 dx (.own o)) o (.ins C dx [])) (fun v H3 => v = .non ∧ Q (.ref o) H3) (WE W σ)) := by
  constructor
  intro pins s σ H Q I q
  apply wpAny_Call_Name_kw (ld_glob I hg hm ?_ h3)
  refine PySem.W.callWith_KW (h₀ := X.base) I.ok.mod.kin M.kp h1 (thn (ha.run pos pins s σ H _ I q) ?_) h5 h4
  rintro us s1 ⟨vs, H1, I1, r, q1⟩
  refine thn (hw.run pos pins s1 σ H1 _ I1 q1) ?_
  rintro ws s2 ⟨zs, H2, I2, rz, l1, l2, q2⟩
  rw [h2]
  refine ⟨I2.kIn, ?_⟩
  have go := q2 (s2.heap.objs.size + 1) s2.heap.objs.size (I2.hok.fresh (Nat.le_succ _)) (I2.hok.fresh (Nat.le_refl _)) (Nat.ne_of_lt (Nat.lt_succ_self _))
  have J := Inv.made (C := C) I2
  have first : Vals (V.ref (s2.heap.objs.size + 1) :: vs) (Value.ref (s2.heap.objs.size + 1) :: us) := .cons rfl r
  have many : (Value.ref (s2.heap.objs.size + 1) :: us).length = n + 1 := congrArg (· + 1) (r.length.symm.trans l1)
  refine wpAny_call (make_map (f := f) I2.kIn M.makes M.init (beq_iff_eq.mp M.fn) (codeAny_mono (F.run _ X.stack _ _ ⟨Value.ref (s2.heap.objs.size + 1) :: us, ks.zip ws⟩ (g (Value.ref (s2.heap.objs.size + 1) :: us) ws) _ _ (WE W σ)
    (hr.make C us (ks.zip ws)) (J.env0.make C us (ks.zip ws)) (hb.to _ (Value.ref (s2.heap.objs.size + 1) :: us) ws J.kIn many (rz.length.symm.trans l2)) (hb.rel first rz) go) ?_))
  rintro (er | fl) s3 z
  · exact passAt wt σ pins _ _ er s3 J z
  · cases fl with
    | ret u =>
      obtain ⟨v, H', J2, rv, ev, q3⟩ := J.after z
      subst ev
      exact ⟨rv, ⟨V.ref (s2.heap.objs.size + 1), H', J2, rfl, q3⟩⟩
    | next => exact z.elim
    | brk => exact z.elim
    | cont => exact z.elim
end
/-! ### isinstance and except, asked of the classes' own rows -/
section
variable {K : PySem.W.Frag} {D C : Addr} {b : Bool}
theorem kit_ref (self : PySem.W.subIn K (.ref D) (.ref D) = some true) (hs : PySem.W.subIn K (.ref D) (.ref C) = some b) (hi : PySem.W.isClsIn K C = true) (ht : PySem.W.typeIn K (.ref C) = some (.type "type")) : PySem.W.kitOne K (.ref D) (.ref C) = some b := by
  unfold PySem.W.kitOne
  by_cases e : (Value.ref D == Value.ref C) = true
  · rw [if_pos e]
    obtain rfl := Value.ref.inj (beq_iff_eq.mp e)
    exact self.symm.trans hs
  · rw [if_neg e]
    have c : ((PySem.W.clsIn K C).isSome && PySem.W.typeIn K (.ref C) == some (.type "type")) = true := by
      rw [show (PySem.W.clsIn K C).isSome = true from hi, ht]
      rfl
    exact (if_pos c).trans hs
theorem kit_val (hs : PySem.W.subIn K (.ref D) (.type "ValueError") = some true) : PySem.W.kitOne K (.ref D) (.type "ValueError") = some true := by
  unfold PySem.W.kitOne
  rw [if_neg (by intro e; exact nomatch (beq_iff_eq.mp e))]
  show (if PySem.W.kitMeta "ValueError" = true then PySem.W.subIn K (.ref D) (.type "ValueError") else none) = some true
  rw [if_pos (by decide +kernel)]
  exact hs
end
end R
set_option maxRecDepth 100000
set_option maxHeartbeats 4000000
namespace R
open PySem PySem.Spec PyProof.Rows L2 RZ
/-! ### an exception out of the second clause of a comprehension -/
/-- the block's context, whose exceptions go on in the def -/
abbrev blkR (X : Cx) (s : Shared) (H : Hp) (scope : Scope) (ce : Env) (fp : List Addr) : Cx :=
  (X.blk s H scope ce fp).wish (notedBy (model X.prog X.w) X.A ce (CompFails (model X.prog X.w) X.A X.xe ce))
theorem held_but {B h h2 : Heap} {l : List Env} {a L C : Addr} {Z : Obj → Prop} {m m2 : Str → Option Value} (hh : HandSPX.HeldZ B l a Z L h) (hB : B.get? C = none) (hn : h.Ns C m) (hn2 : h2.Ns C m2) (hs : Heap.SameBut C h h2) : HandSPX.HeldZ B l a Z L h2 := by
  obtain ⟨st, ba, ff, oe, vs, T, oT, ts, ga, za, da, fa, bT, Ta, gT, dT, fT⟩ := hh
  obtain ⟨oC, es, ep, gC, dC, _⟩ := hn
  have aC : a ≠ C := by
    rintro rfl
    rw [ga] at gC
    cases gC
    rw [da] at dC
    cases dC
  have TC : T ≠ C := by
    rintro rfl
    rw [gT] at gC
    cases gC
    rw [dT] at dC
    cases dC
  refine ⟨fun b o hb => ?_, ba, Heap.FunFrames.sameBut hs hn2 ff, oe, vs, T, oT, ts, (hs.2 a aC).trans ga, za, da, fa, bT, Ta, (hs.2 T TC).trans gT, dT, fT⟩
  refine (hs.2 b ?_).trans (st b o hb)
  rintro rfl
  rw [hB] at hb
  cases hb
theorem hide_none {B : Heap} {a C : Addr} (h : B.get? a = none) : (B.hide C).get? a = none := by
  cases e : (B.hide C).get? a with
  | none => rfl
  | some o =>
    have := Heap.of_hide e
    rw [h] at this
    cases this
theorem frames_hide {B h : Heap} {C : Addr} : ∀ {l : List Env}, h.FunFrames B l → h.FunFrames (B.hide C) l
  | [], _ => trivial
  | _ :: _, ⟨k, ⟨L, o, e1, e2, e3, e4⟩, r⟩ => ⟨k, ⟨L, o, e1, hide_none e2, e3, e4⟩, frames_hide r⟩
section
variable {X : Cx} {pins pins' : List (Addr × Obj)} {σ σ' : L2.St} {H3 H' : Hp} {s3 s1 s' : Shared} {scope : Scope} {ce : Env} {fp : List Addr} {E : XK} {u : Value}
theorem blk_out (tk : Takes X (fun cls d _ H => E cls d H)) (hst : X.stack = X.env :: X.outer) (hfm : X.env.frame = some X.env.locals) (hce : ce.frame = X.env.frame) (I3 : Inv X pins σ H3 s3) (hfp : ∀ b ∈ fp, FpOk X pins H3 b) (hC : s3.heap.objs.size ≤ ce.locals)
    (I : Inv (blkR X s3 H3 scope ce fp) pins' σ' H' s1) (c : CX X.prog X.w X.stack H' s1 E u s') : notedBy (model X.prog X.w) X.A ce (CompFails (model X.prog X.w) X.A X.xe ce) u s' := by
  have xe := XE.of_call (X := blkR X s3 H3 scope ce fp) (W := fun cls d _ H => E cls d H) I (fun _ _ _ h => h) c
  obtain ⟨a, B, sI, pn, σ2, H2, cls, d, rfl, J, nb, up, sky, na, os, ag, w⟩ := xe
  have hfr : X.A.frames = some (X.env :: X.outer) := J.ok.frames.trans (congrArg some hst)
  have JX : Inv X pins σ H2 sI := I3.call' (ch := fp) J.os J.base J.hok J.bare fun b hb => ⟨(hfp b hb).2.2.2.1, (hfp b hb).2.1, (hfp b hb).2.2.2.2.1, (hfp b hb).2.2.2.2.2⟩
  have nC : H2 ce.locals = none := J.free
  obtain ⟨f0, f1, f2, f3, f4, f5⟩ := I3.fpOk hC nC
  have JC : Inv X pins σ H2 { sI with heap := sI.heap.hide ce.locals, toks := sI.toks } := JX.turned (it := ce.locals) (fun b o hb e => (Heap.hide_ne _ hb).trans e) f0 f1 f3 f4 f5
  obtain ⟨m, hns, _⟩ := J.loc
  have hns : sI.heap.Ns ce.locals m := hns
  have hB : (B.hide ce.locals).get? ce.locals = none := Heap.hide_self _ _
  have rest : ∀ h', HandSPX.HeldZ (B.hide ce.locals) (X.env :: X.outer) a (Zc cls d) X.env.locals h' → s'.heap.UpToSlots h' → CompFails (model X.prog X.w) X.A X.xe ce (.ref a) { s' with heap := h' } := fun h' held up' => by
    have hn' : h'.Ns ce.locals m := up'.ns (up.ns hns)
    refine ⟨m, hn', fun h2 m2 hn2 hs2 => ?_⟩
    have held2 := held_but held hB hn' hn2 hs2
    obtain ⟨oe, vs, T, oT, ts, ga, _, da, fa, _⟩ := id held2.2.2.2
    unfold PySem.passOn
    refine wpAny_bind (wpAny_field ga da fa ?_)
    rw [if_neg (show ¬ ((Value.ref T == Value.none) = true) from by simp)]
    rw [hce, hfm]
    refine wpAny_bind (HandSPX.setFlight_onZ held2 fun h4 held4 up4 => wpAny_throw (tk _ _ ?_))
    refine ⟨a, B.hide ce.locals, { sI with heap := sI.heap.hide ce.locals, toks := sI.toks }, pins, σ, H2, cls, d, rfl, JC, fun b o e hb => ?_, fun b o e hf => ?_, .inr (.inr ?_), na, os, ag, w⟩
    · have bC : b ≠ ce.locals := fun z => by
        have e : (sI.heap.hide ce.locals).get? b = some o := e
        rw [z, Heap.hide_self] at e
        cases e
      exact (Heap.hide_ne _ bC).trans (nb b o (Heap.of_hide e) hb)
    · have bC : b ≠ ce.locals := fun z => by
        have e : (sI.heap.hide ce.locals).get? b = some o := e
        rw [z, Heap.hide_self] at e
        cases e
      obtain ⟨sl, e1⟩ := (up.trans up') b o (Heap.of_hide e) hf
      exact up4 b { o with slots := sl } ((hs2.2 b bC).trans e1) hf
    · rw [hst]; exact held4
  show wpAny (model X.prog X.w) X.A (noteFrame (.ref a) ce) (fun _ s4 => CompFails (model X.prog X.w) X.A X.xe ce (.ref a) s4) (CompFails (model X.prog X.w) X.A X.xe ce) s'
  rw [noteFrame_env _ hce]
  have sky : Sky B X.stack a (Zc cls d) ce.locals s'.heap := sky
  rw [hst] at sky
  rcases sky with ⟨hk, hn, hl, oe, vs, ga, za, da, fa⟩ | ⟨hk, hn, hl, oe, vs, T, oT, ts, ga, za, da, fa, bT, q⟩ | ⟨hk, hn, hl, oe, vs, T, oT, ts, ga, za, da, fa, bT, Ta, gT, dT, fT⟩
  · exact HandSPX.look_newZ Zc.steady hfr (frames_hide hl) hfm ga (fun b o hb => hk b o (Heap.of_hide hb)) (hide_none hn) da fa za rest
  · exact HandSPX.looks_onZ Zc.steady hfr hfm ⟨fun b o hb => hk b o (Heap.of_hide hb), hide_none hn, frames_hide hl, oe, vs, T, oT, ts, ga, za, da, fa, hide_none bT, q⟩ rest
  · obtain ⟨a', B', _, _, _, ea, ⟨_, _, _, oe', vs', T', oT', ts', ga', _, da', fa', _, _, gT', dT', fT'⟩, _⟩ := c
    cases ea
    rw [ga] at ga'
    cases ga'
    rw [da] at da'
    cases da'
    rw [fa] at fa'
    cases fa'
    rw [gT] at gT'
    cases gT'
    rw [dT] at dT'
    cases dT'
    rw [fT] at fT'
    simp [rawInt] at fT'
end
section
variable {X : Cx}
/-- [elt for tg in iter if .. for tg1 in iter1 if ..], where a call in iter1 may raise -/
theorem pe_lc2R {E : XK} {elt tg iter tg1 iter1 : Expr} {ifs ifs1 : List Expr} {scope : Scope} {own : List (Str × Nat)} {vs1 : List Nat} {pos : Pos} {wi wi1 : TI} {g g1 : TG} {tt tt1 : TT} {te : TE}
    (tk : Takes X (fun cls d _ H => E cls d H)) (hst : X.stack = X.env :: X.outer) (hfm : X.env.frame = some X.env.locals) (calm : X.calm = true) (nodup : X.N.Nodup) (hi : PI X tg iter wi) (ok : BlkOk X.N X.env.scope scope own) (sub : ∀ i ∈ vs1, i ∈ own.map (·.2))
    (hg : ∀ s H C cl fp, PG (X.blk s H scope (compEnvC scope cl C X.env) fp) tg g) (ht : ∀ s H C cl fp, PTs (X.blk s H scope (compEnvC scope cl C X.env) fp) ifs tt)
    (hi1 : ∀ s H C cl fp, (∀ pins σ H' s1 u s', Inv (blkR X s H scope (compEnvC scope cl C X.env) fp) pins σ H' s1 → CX X.prog X.w X.stack H' s1 E u s' → (blkR X s H scope (compEnvC scope cl C X.env) fp).xe u s') → PI (blkR X s H scope (compEnvC scope cl C X.env) fp) tg1 iter1 wi1)
    (hg1 : ∀ s H C cl fp, PG (X.blk s H scope (compEnvC scope cl C X.env) fp) tg1 g1) (ht1 : ∀ s H C cl fp, PTs (X.blk s H scope (compEnvC scope cl C X.env) fp) ifs1 tt1) (he : ∀ s H C cl fp, PE (X.blk s H scope (compEnvC scope cl C X.env) fp) elt te)
    (fold : ∀ x, foldedSetIterable iter X.env x = pure x := by intro _; rfl) (fold1 : ∀ env x, foldedSetIterable iter1 env x = pure x := by intro _ _; rfl) :
    PE X (.ListComp elt [⟨tg, iter, ifs, 0⟩, ⟨tg1, iter1, ifs1, 0⟩] scope pos) (tLc2 wi g tt wi1 g1 tt1 te (own.map (·.2)) vs1) := by
  constructor
  intro pins s σ H Q I hq
  rw [eval_ListComp]
  have free : ∀ y ∈ scope.names, y.2 = .free → ∃ c, X.env.cells.lookup y.1 = some c := by
    intro y hy e
    exact I.ok.has _ (ok.free y hy e)
  refine comprehension_at (use := none) rfl fold (closure_ok free) ok.kind (fun y hy e => (ok.uniq y hy).trans (congrArg some e)) ?_
  refine thn (hi.run pins s σ H _ I hq) fun v sa ha => thn ha fun itv sb hb => ?_
  obtain ⟨it, fp, tn, J, Hb, rfl, Ib, T, tb, fb, q⟩ := hb
  refine wpAny_newObj_type (newEnv_comp ?_) (show 0 ≤ sizeLine by decide)
  obtain ⟨D, eD⟩ : ∃ D, D = sb.heap.objs.size := ⟨_, rfl⟩
  have nD : Hb D = none := Ib.hok.fresh (Nat.le_of_eq eD.symm)
  obtain ⟨W, ⟨m0, w0⟩, turn⟩ := q D nD
  -- the state with the new list
  obtain ⟨sc, esc⟩ : ∃ sc : Shared, sc = { sb with heap := sb.heap.push { cls := .type "list", data := .seq ([] : List Value).toArray } } := ⟨_, rfl⟩
  have hsc : sc.heap = sb.heap.push { cls := .type "list", data := .seq ([] : List Value).toArray } := by rw [esc]
  have Ic : Inv X pins σ (upd Hb D (.lst [])) sc := by
    rw [esc]
    refine Ib.laid (t' := sb.toks) (fun b o e => Heap.get?_push_of_some _ e) (Nat.le_of_eq eD.symm) ⟨Nat.zero_le _, [], 0, .nil, ?_⟩
    rw [eD]
    exact Heap.get?_push_size _ rfl
  have low : ∀ b ∈ fp, b < sb.heap.objs.size := by
    intro b hb
    obtain ⟨o, e, _⟩ := T.obj _ _ tb b hb
    exact Heap.lt_size e
  have fc : ∀ b ∈ fp, FpOk X pins (upd Hb D (.lst [])) b ∧ b < sc.heap.objs.size := by
    intro b hb
    have lt := low b hb
    refine ⟨⟨?_, (fb b hb).2⟩, ?_⟩
    · rw [upd_ne (by rw [eD]; exact Nat.ne_of_lt lt)]; exact (fb b hb).1
    · rw [hsc, Heap.size_push]; exact Nat.lt_succ_of_lt lt
  have tc : tn 0 sc.heap := T.keep _ _ _ tb fun b _ o e => by rw [hsc]; exact Heap.get?_push_of_some _ e
  have Id := block_start Ic ok nodup fc
  obtain ⟨cl, ecl⟩ : ∃ cl, cl = cellsFrom (sc.heap.objs.size + 1) scope.names (cloFrom X.env.cells scope.names []) := ⟨_, rfl⟩
  obtain ⟨Hc, eHc⟩ : ∃ Hc, Hc = upd Hb D (.lst []) := ⟨_, rfl⟩
  rw [← eHc] at Ic fc Id w0
  rw [← ecl] at Id
  have rg := hg sc Hc sc.heap.objs.size cl fp
  have rt := ht sc Hc sc.heap.objs.size cl fp
  have re := he sc Hc sc.heap.objs.size cl fp
  have rg1 := hg1 sc Hc sc.heap.objs.size cl fp
  have rt1 := ht1 sc Hc sc.heap.objs.size cl fp
  obtain ⟨ce, ece⟩ : ∃ ce, ce = compEnvC scope cl sc.heap.objs.size X.env := ⟨_, rfl⟩
  have ri1 := hi1 sc Hc sc.heap.objs.size cl fp
  rw [← ece] at rg rt re rg1 rt1 ri1 Id
  have cL : ce.locals = sc.heap.objs.size := by rw [ece]; rfl
  have cF : ce.frame = X.env.frame := by rw [ece]; rfl
  have ri1 := ri1 fun pins' σ' H' s1 u s' I' c => blk_out tk hst hfm cF Ic (fun b hb => (fc b hb).1) (Nat.le_of_eq cL.symm) I' c
  obtain ⟨sd, esd⟩ : ∃ sd : Shared, sd = { sc with heap := pushCells (sc.heap.push { cls := .type "dict", data := .dict #[] }) scope.names } := ⟨_, rfl⟩
  rw [← esd] at Id
  have td : tn 0 sd.heap := T.keep _ _ _ tc fun b _ o e => by rw [esd]; exact pushCells_keeps _ _ _ _ (Heap.get?_push_of_some _ e)
  rw [← esc]
  show codeAny _ _ (.compStart _ 0 (.ref it) (.ref sb.heap.objs.size) (compEnvC scope (cellsFrom (sc.heap.objs.size + 1) scope.names (cloFrom X.env.cells scope.names [])) sc.heap.objs.size X.env)) (compEnds (model X.prog X.w) X.A X.xe none _ (.ref sb.heap.objs.size) (compEnvC scope (cellsFrom (sc.heap.objs.size + 1) scope.names (cloFrom X.env.cells scope.names [])) sc.heap.objs.size X.env)) { sc with heap := pushCells (sc.heap.push { cls := .type "dict", data := .dict #[] }) scope.names }
  rw [← ecl, ← ece, ← eD, ← esd]
  have none0 : ∀ b ∈ fp, Hc b = none := fun b hb => (fc b hb).1.1
  have pok : ∀ {pn : List (Addr × Obj)} {σ' : L2.St} {H' : Hp} {s' : Shared}, Inv (X.blk sc Hc scope ce fp) [] σ' H' s' → (∀ b ∈ fp, H' b = none) → ∀ b ∈ fp, FpOk (X.blk sc Hc scope ce fp) [] H' b := by
    intro pn σ' H' s' I' h b hb
    refine ⟨h b hb, (I'.ok.exf b hb).1, I'.ok.exfs b hb, .inl hb, fun x c e => (I'.ok.exf b hb).2 x c e, fun p hp => ?_⟩
    exact absurd (show p ∈ ([] : List (Addr × Obj)) ++ [] from hp) (by simp)
  refine codeAny_compStart_list ?_ (T.self X.A 0 _ _ _ td ?_) <;>
  · refine compLoop2_out (fold1 ce) (fun n s' => ∃ i H', Inv (X.blk sc Hc scope ce fp) [] (wipe σ (own.map (·.2))) H' s' ∧ tn i s'.heap ∧ (∀ b ∈ fp, H' b = none) ∧ W i n H') ?_ m0 ⟨0, Hc, Id, td, none0, w0⟩
    rintro n s5 ⟨i, H5, I5, t5, z5, w5⟩
    rcases turn i n H5 w5 with ⟨stop, done⟩ | ⟨go, Nx, less, step⟩
    · -- at its end
      refine thnF (T.done (X.blk sc Hc scope ce fp) rfl rfl rfl calm i [] s5 _ H5 (fun _ _ => False) I5 (pok (pn := []) I5 z5) t5 stop) ?_
      rintro r s6 ⟨rfl, I6⟩
      have I7 : Inv X pins σ H5 s6 := Ic.call' (ch := fp) I6.os I6.base I6.hok I6.bare fun b hb => ⟨(fc b hb).1.2.2.2.1, (fc b hb).1.2.1, (fc b hb).1.2.2.2.2.1, (fc b hb).1.2.2.2.2.2⟩
      have nC : H5 ce.locals = none := I6.free
      obtain ⟨m, hn, _⟩ := I6.loc
      obtain ⟨f0, f1, _, f3, f4, f5⟩ := Ic.fpOk (Nat.le_of_eq cL.symm) nC
      exact ⟨m, hn, fun h' but => ⟨.ref D, H5, I7.turned (t' := s6.toks) (fun b o hb e => (but.2 b hb).trans e) f0 f1 f3 f4 f5, rfl, done⟩⟩
    -- a turn
    refine thnF (T.item (X.blk sc Hc scope ce fp) rfl rfl rfl calm i [] s5 _ H5 (fun _ _ => False) I5 (pok (pn := []) I5 z5) t5 go) ?_
    rintro r s6 ⟨u, rfl, h6⟩
    refine thnF h6 ?_
    rintro _ s7 ⟨x, H7, I7, r7, y7, t7, z7⟩
    have P7 := I7.pinned (pok (pn := []) I7 z7) (T.obj _ _ t7)
    refine thnF (rg.run _ s7 _ H7 x u _ P7 r7 (step x H7 y7)) ?_
    rintro _ s8 ⟨σ8, H8, I8, e8, q8⟩
    refine thnF (rt.run _ s8 σ8 H8 _ I8 q8) ?_
    rintro b s9 ⟨H9, I9, q9⟩
    have close : ∀ {σ' : L2.St} {s' : Shared} {H' : Hp}, Inv (X.blk sc Hc scope ce fp) ([] ++ pinsAt fp s7.heap) σ' H' s' → (wipe σ (own.map (·.2))).length = σ'.length → (∀ (j : Nat) v, (wipe σ (own.map (·.2)))[j]? = some (some v) → σ'[j]? = some (some v)) → Nx H' →
        ∃ m, m < n ∧ ∃ i H', Inv (X.blk sc Hc scope ce fp) [] (wipe σ (own.map (·.2))) H' s' ∧ tn i s'.heap ∧ (∀ b ∈ fp, H' b = none) ∧ W i m H' := by
      intro σ' s' H' I' hl hk nx
      obtain ⟨m', hm, w'⟩ := less H' nx
      have kept : ∀ b ∈ fp, ∀ o, s7.heap.get? b = some o → s'.heap.get? b = some o ∧ H' b = none := by
        intro b hb o e
        have z := I'.pin (b, o) (List.mem_append_right _ (List.mem_append_right _ (mem_pinsAt hb e)))
        exact ⟨z.1, z.2.1⟩
      refine ⟨m', hm, i + 1, H', (I'.unpinned (pins := [])).weak hl hk, T.keep _ _ _ t7 fun b hb o e => (kept b hb o e).1, fun b hb => ?_, w'⟩
      obtain ⟨o, e, _⟩ := T.obj _ _ t7 b hb
      exact (kept b hb o e).2
    have l8 : (wipe σ (own.map (·.2))).length = σ8.length := by rw [← e8, wipe_length]
    have k8 : ∀ (j : Nat) v, (wipe σ (own.map (·.2)))[j]? = some (some v) → σ8[j]? = some (some v) := by
      intro j v e
      rw [← e8] at e
      exact (wipe_some e).1
    have k9 : ∀ (j : Nat) v, (wipe σ (own.map (·.2)))[j]? = some (some v) → (wipe σ8 vs1)[j]? = some (some v) := by
      intro j v e
      rw [← e8] at e
      obtain ⟨e1, e2⟩ := wipe_some e
      exact (wipe_out fun z => e2 (sub j z)).trans e1
    cases b with
    | false =>
      rw [if_neg Bool.false_ne_true] at q9 ⊢
      exact close I9 l8 k8 q9
    | true =>
      rw [if_pos rfl] at q9 ⊢
      refine thn (ri1.run _ s9 σ8 H9 _ (I9.wish _) q9) ?_
      intro xv s10 h10
      refine thn h10 ?_
      rintro itv s11 ⟨it1, fp1, tn1, J1, H11, rfl, I11, T1, t11, f11, W1, ⟨m1, w1⟩, turn1⟩
      have I11 : Inv (X.blk sc Hc scope ce fp) ([] ++ pinsAt fp s7.heap) σ8 H11 s11 := I11.unwish
      have pok1 : ∀ {H' : Hp}, (∀ b ∈ fp1, H' b = none) → ∀ b ∈ fp1, FpOk (X.blk sc Hc scope ce fp) ([] ++ pinsAt fp s7.heap) H' b := fun h b hb => ⟨h b hb, (f11 b hb).2⟩
      have inner : codeAny (model X.prog X.w) X.A (.compLoop (.ListComp elt [⟨tg, iter, ifs, 0⟩, ⟨tg1, iter1, ifs1, 0⟩] scope pos) 1 (.ref it1) (.ref D) ce)
          (fun r s' => match r with
            | .ok _ => ∃ m, m < n ∧ ∃ i H', Inv (X.blk sc Hc scope ce fp) [] (wipe σ (own.map (·.2))) H' s' ∧ tn i s'.heap ∧ (∀ b ∈ fp, H' b = none) ∧ W i m H'
            | .error _ => False) s11 := by
        refine compLoop2_in (fun k s' => ∃ j H', Inv (X.blk sc Hc scope ce fp) ([] ++ pinsAt fp s7.heap) (wipe σ8 vs1) H' s' ∧ tn1 j s'.heap ∧ (∀ b ∈ fp1, H' b = none) ∧ W1 j k H') ?_ m1
          ⟨0, H11, I11.weak (wipe_length _ _) (fun j v e => (wipe_some e).1), t11, fun b hb => (f11 b hb).1, w1⟩
        rintro k s12 ⟨j, H12, I12, t12, z12, w12⟩
        rcases turn1 j k H12 w12 with ⟨stop1, done1⟩ | ⟨go1, Nx1, less1, step1⟩
        · refine thnF (T1.done (X.blk sc Hc scope ce fp) rfl rfl rfl calm j _ s12 (wipe σ8 vs1) H12 (fun _ _ => False) I12 (pok1 z12) t12 stop1) ?_
          rintro r s13 ⟨rfl, I13⟩
          exact close I13 (l8.trans (wipe_length σ8 vs1).symm) k9 done1
        refine thnF (T1.item (X.blk sc Hc scope ce fp) rfl rfl rfl calm j _ s12 (wipe σ8 vs1) H12 (fun _ _ => False) I12 (pok1 z12) t12 go1) ?_
        rintro r s13 ⟨u1, rfl, h13⟩
        refine thnF h13 ?_
        rintro _ s14 ⟨x1, H14, I14, r14, y14, t14, z14⟩
        have P14 := I14.pinned (pok1 z14) (T1.obj _ _ t14)
        refine thnF (rg1.run _ s14 (wipe σ8 vs1) H14 x1 u1 _ P14 r14 (step1 x1 H14 y14)) ?_
        rintro _ s15 ⟨σ15, H15, I15, e15, q15⟩
        refine thnF (rt1.run _ s15 σ15 H15 _ I15 q15) ?_
        rintro b1 s16 ⟨H16, I16, q16⟩
        have close1 : ∀ {s' : Shared} {H' : Hp}, Inv (X.blk sc Hc scope ce fp) (([] ++ pinsAt fp s7.heap) ++ pinsAt fp1 s14.heap) σ15 H' s' → Nx1 H' → ∃ m, m < k ∧ ∃ j H', Inv (X.blk sc Hc scope ce fp) ([] ++ pinsAt fp s7.heap) (wipe σ8 vs1) H' s' ∧ tn1 j s'.heap ∧ (∀ b ∈ fp1, H' b = none) ∧ W1 j m H' := by
          intro s' H' I' nx
          obtain ⟨m', hm, w'⟩ := less1 H' nx
          have kept : ∀ b ∈ fp1, ∀ o, s14.heap.get? b = some o → s'.heap.get? b = some o ∧ H' b = none := by
            intro b hb o e
            have z := I'.pin (b, o) (List.mem_append_right _ (List.mem_append_right _ (mem_pinsAt hb e)))
            exact ⟨z.1, z.2.1⟩
          have el : (wipe σ8 vs1).length = σ15.length := by rw [← e15, wipe_length]
          refine ⟨m', hm, j + 1, H', I'.unpinned.weak el (fun j v e => by rw [← e15] at e; exact (wipe_some e).1), T1.keep _ _ _ t14 fun b hb o e => (kept b hb o e).1, fun b hb => ?_, w'⟩
          obtain ⟨o, e, _⟩ := T1.obj _ _ t14 b hb
          exact (kept b hb o e).2
        cases b1 with
        | false =>
          rw [if_neg Bool.false_ne_true] at q16 ⊢
          exact close1 I16 q16
        | true =>
          rw [if_pos rfl] at q16 ⊢
          refine thnF (re.run _ s16 σ15 H16 _ I16 q16) ?_
          rintro z s17 ⟨yv, H17, I17, r17, acc, hD17, hz17, nx⟩
          exact app_ok (X := X.blk sc Hc scope ce fp) I17 hD17 hz17 r17 fun s18 I18 => close1 I18 nx
      exact compStart1_ok inner (T1.self X.A 0 _ _ _ t11 inner)
end
end R
set_option maxRecDepth 100000
set_option maxHeartbeats 4000000
namespace R
open PySem PySem.Spec PyProof.Rows L2 RZ
open PySem.W (Datum)
def topS (i : Nat) : Stmt := PySem.Challenge.pw_reelrows_k04_whole_broken_blocks.main.body.getD i (.Pass ⟨0, 0, 0, 0⟩)
abbrev s_NoFile___init__ : Stmt := inClass (topS 14) 0
abbrev N_NoFile___init__ : List Str := ["self", "number"]
theorem sc_NoFile___init__ : FnScope ["self", "number"] ["self", "number"] (defScope s_NoFile___init__) := ⟨rfl, rfl, rfl, by decide +kernel, rfl, by decide +kernel, by decide +kernel⟩
abbrev s_Kept___init__ : Stmt := inClass (topS 15) 0
abbrev N_Kept___init__ : List Str := ["self", "number"]
theorem sc_Kept___init__ : FnScope ["self", "number"] ["self", "number"] (defScope s_Kept___init__) := ⟨rfl, rfl, rfl, by decide +kernel, rfl, by decide +kernel, by decide +kernel⟩
abbrev s_is_whole : Stmt := topS 16
abbrev N_is_whole : List Str := ["thing", "low", "high"]
theorem sc_is_whole : FnScope ["thing", "low", "high"] ["thing", "low", "high"] (defScope s_is_whole) := ⟨rfl, rfl, rfl, by decide +kernel, rfl, by decide +kernel, by decide +kernel⟩
abbrev s_look_form : Stmt := topS 24
abbrev N_look_form : List Str := ["form", "block", "size"]
theorem sc_look_form : FnScope ["form", "block", "size"] ["form", "block", "size"] (defScope s_look_form) := ⟨rfl, rfl, rfl, by decide +kernel, rfl, by decide +kernel, by decide +kernel⟩
abbrev s_look_records : Stmt := topS 25
abbrev N_look_records : List Str := ["records", "form", "size", "record", "sign"]
theorem sc_look_records : FnScope ["records", "form", "size", "record", "sign"] ["records", "form", "size"] (defScope s_look_records) := ⟨rfl, rfl, rfl, by decide +kernel, rfl, by decide +kernel, by decide +kernel⟩
abbrev s_figures : Stmt := topS 26
abbrev N_figures : List Str := ["number", "many"]
theorem sc_figures : FnScope ["number", "many"] ["number", "many"] (defScope s_figures) := ⟨rfl, rfl, rfl, by decide +kernel, rfl, by decide +kernel, by decide +kernel⟩
abbrev s_filled : Stmt := topS 27
abbrev N_filled : List Str := ["parts", "block", "found", "part"]
theorem sc_filled : FnScope ["parts", "block", "found", "part"] ["parts", "block"] (defScope s_filled) := ⟨rfl, rfl, rfl, by decide +kernel, rfl, by decide +kernel, by decide +kernel⟩
abbrev s_spanned : Stmt := topS 28
abbrev N_spanned : List Str := ["records", "block", "found", "record", "rest", "first", "room", "part", "sign"]
theorem sc_spanned : FnScope ["records", "block", "found", "record", "rest", "first", "room", "part", "sign"] ["records", "block"] (defScope s_spanned) := ⟨rfl, rfl, rfl, by decide +kernel, rfl, by decide +kernel, by decide +kernel⟩
abbrev s_blocked : Stmt := topS 29
abbrev N_blocked : List Str := ["records", "form", "block", "size", "record"]
theorem sc_blocked : FnScope ["records", "form", "block", "size", "record"] ["records", "form", "block", "size"] (defScope s_blocked) := ⟨rfl, rfl, rfl, by decide +kernel, rfl, by decide +kernel, by decide +kernel⟩
abbrev s_length_in : Stmt := topS 30
abbrev N_length_in : List Str := ["text", "word", "sign"]
theorem sc_length_in : FnScope ["text", "word", "sign"] ["text"] (defScope s_length_in) := ⟨rfl, rfl, rfl, by decide +kernel, rfl, by decide +kernel, by decide +kernel⟩
abbrev s_parts_of : Stmt := topS 31
abbrev N_parts_of : List Str := ["block", "form", "size", "found", "sign", "part", "many"]
theorem sc_parts_of : FnScope ["block", "form", "size", "found", "sign", "part", "many"] ["block", "form", "size"] (defScope s_parts_of) := ⟨rfl, rfl, rfl, by decide +kernel, rfl, by decide +kernel, by decide +kernel⟩
abbrev s_unblocked : Stmt := topS 32
abbrev N_unblocked : List Str := ["blocks", "form", "block", "size", "found", "open_one", "sign", "part", "whole", "one", "pair"]
theorem sc_unblocked : FnScope ["blocks", "form", "block", "size", "found", "open_one", "sign", "part", "whole", "one", "pair"] ["blocks", "form", "block", "size"] (defScope s_unblocked) := ⟨rfl, rfl, rfl, by decide +kernel, rfl, by decide +kernel, by decide +kernel⟩
abbrev s__law_town : Stmt := topS 34
abbrev N__law_town : List Str := ["_law_script"]
theorem sc__law_town : FnScope ["_law_script"] ["_law_script"] (defScope s__law_town) := ⟨rfl, rfl, rfl, by decide +kernel, rfl, by decide +kernel, by decide +kernel⟩
abbrev s__law_draw : Stmt := topS 35
abbrev N__law_draw : List Str := ["_law_town_here", "_law_many", "_law_row", "_law_at", "_law_cell", "_law_mixed"]
theorem sc__law_draw : FnScope ["_law_town_here", "_law_many", "_law_row", "_law_at", "_law_cell", "_law_mixed"] ["_law_town_here", "_law_many"] (defScope s__law_draw) := ⟨rfl, rfl, rfl, by decide +kernel, rfl, by decide +kernel, by decide +kernel⟩
abbrev s__law_pick : Stmt := topS 36
abbrev N__law_pick : List Str := ["_law_town_here", "_law_some"]
theorem sc__law_pick : FnScope ["_law_town_here", "_law_some"] ["_law_town_here", "_law_some"] (defScope s__law_pick) := ⟨rfl, rfl, rfl, by decide +kernel, rfl, by decide +kernel, by decide +kernel⟩
abbrev s__law_refusal : Stmt := topS 37
abbrev N__law_refusal : List Str := ["_law_caught", "_law_kinds", "_law_words"]
theorem sc__law_refusal : FnScope ["_law_caught", "_law_kinds", "_law_words"] ["_law_caught"] (defScope s__law_refusal) := ⟨rfl, rfl, rfl, by decide +kernel, rfl, by decide +kernel, by decide +kernel⟩
abbrev s__law_text : Stmt := topS 38
abbrev N__law_text : List Str := ["_law_town_here", "_law_most", "_law_k"]
theorem sc__law_text : FnScope ["_law_town_here", "_law_most", "_law_k"] ["_law_town_here", "_law_most"] (defScope s__law_text) := ⟨rfl, rfl, rfl, by decide +kernel, rfl, by decide +kernel, by decide +kernel⟩
abbrev s__law_shape : Stmt := topS 39
abbrev N__law_shape : List Str := ["_law_town_here", "_law_manner", "_law_chunk"]
theorem sc__law_shape : FnScope ["_law_town_here", "_law_manner", "_law_chunk"] ["_law_town_here"] (defScope s__law_shape) := ⟨rfl, rfl, rfl, by decide +kernel, rfl, by decide +kernel, by decide +kernel⟩
abbrev s__law_records : Stmt := topS 40
abbrev N__law_records : List Str := ["_law_town_here", "_law_shape_here", "_law_many", "_law_manner", "_law_chunk", "_law_extent", "_law_found", "_law_turn", "_law_text_here"]
theorem sc__law_records : FnScope ["_law_town_here", "_law_shape_here", "_law_many", "_law_manner", "_law_chunk", "_law_extent", "_law_found", "_law_turn", "_law_text_here"] ["_law_town_here", "_law_shape_here", "_law_many"] (defScope s__law_records) := ⟨rfl, rfl, rfl, by decide +kernel, rfl, by decide +kernel, by decide +kernel⟩
abbrev s__law_read : Stmt := topS 41
abbrev N__law_read : List Str := ["_law_blocks", "_law_shape_here", "_law_caught", "_law_told", "e"]
theorem sc__law_read : FnScope ["_law_blocks", "_law_shape_here", "_law_caught", "_law_told", "e"] ["_law_blocks", "_law_shape_here"] (defScope s__law_read) := ⟨rfl, rfl, rfl, by decide +kernel, rfl, by decide +kernel, by decide +kernel⟩
abbrev s__law_length : Stmt := topS 42
abbrev N__law_length : List Str := ["_law_text_here", "_law_word", "_law_sign"]
theorem sc__law_length : FnScope ["_law_text_here", "_law_word", "_law_sign"] ["_law_text_here"] (defScope s__law_length) := ⟨rfl, rfl, rfl, by decide +kernel, rfl, by decide +kernel, by decide +kernel⟩
abbrev s__law_parts : Stmt := topS 43
abbrev N__law_parts : List Str := ["_law_one", "_law_shape_here", "_law_manner", "_law_wide", "_law_extent", "_law_found", "_law_rest", "_law_sign", "_law_many"]
theorem sc__law_parts : FnScope ["_law_one", "_law_shape_here", "_law_manner", "_law_wide", "_law_extent", "_law_found", "_law_rest", "_law_sign", "_law_many"] ["_law_one", "_law_shape_here"] (defScope s__law_parts) := ⟨rfl, rfl, rfl, by decide +kernel, rfl, by decide +kernel, by decide +kernel⟩
abbrev s__law_due : Stmt := topS 44
abbrev N__law_due : List Str := ["_law_blocks", "_law_shape_here", "_law_found", "_law_begun", "_law_one", "_law_parts_here", "_law_sign", "_law_part", "_law_whole"]
theorem sc__law_due : FnScope ["_law_blocks", "_law_shape_here", "_law_found", "_law_begun", "_law_one", "_law_parts_here", "_law_sign", "_law_part", "_law_whole"] ["_law_blocks", "_law_shape_here"] (defScope s__law_due) := ⟨rfl, rfl, rfl, by decide +kernel, rfl, by decide +kernel, by decide +kernel⟩
abbrev s_law : Stmt := topS 45
abbrev N_law : List Str := ["_law_script", "_law_town_here", "_law_shape_here", "_law_blocks", "_law_turn", "_law_worse", "_law_k", "_law_at", "_law_sign"]
theorem sc_law : FnScope ["_law_script", "_law_town_here", "_law_shape_here", "_law_blocks", "_law_turn", "_law_worse", "_law_k", "_law_at", "_law_sign"] ["_law_script"] (defScope s_law) := ⟨rfl, rfl, rfl, by decide +kernel, rfl, by decide +kernel, by decide +kernel⟩
structure Txt (K : PySem.W.Frag) (mg : Str → Option Value) where
  BadReel : ExcAt K mg "BadReel"
  AtStart : ExcAt K mg "AtStart"
  BadRecord : ExcAt K mg "BadRecord"
  BadLabel : ExcAt K mg "BadLabel"
  ReelError : ExcAt K mg "ReelError"
  NoFile : ExcNAt K mg "NoFile"
  NoRing : ExcAt K mg "NoRing"
  BadName : ExcAt K mg "BadName"
  BadBlock : ExcAt K mg "BadBlock"
  BadNumber : ExcAt K mg "BadNumber"
  AtEnd : ExcAt K mg "AtEnd"
  NoReel : ExcAt K mg "NoReel"
  Kept : ExcNAt K mg "Kept"
  BadForm : ExcAt K mg "BadForm"
  TooLong : ExcAt K mg "TooLong"
  is_whole : DefAt K mg "is_whole" s_is_whole ["thing", "low", "high"]
  look_form : DefAt K mg "look_form" s_look_form ["form", "block", "size"]
  look_records : DefAt K mg "look_records" s_look_records ["records", "form", "size"]
  figures : DefAt K mg "figures" s_figures ["number", "many"]
  filled : DefAt K mg "filled" s_filled ["parts", "block"]
  spanned : DefAt K mg "spanned" s_spanned ["records", "block"]
  blocked : DefKAt K mg "blocked" s_blocked
  length_in : DefAt K mg "length_in" s_length_in ["text"]
  parts_of : DefAt K mg "parts_of" s_parts_of ["block", "form", "size"]
  unblocked : DefKAt K mg "unblocked" s_unblocked
  _law_town : DefAt K mg "_law_town" s__law_town ["_law_script"]
  _law_draw : DefAt K mg "_law_draw" s__law_draw ["_law_town_here", "_law_many"]
  _law_pick : DefAt K mg "_law_pick" s__law_pick ["_law_town_here", "_law_some"]
  _law_refusal : DefAt K mg "_law_refusal" s__law_refusal ["_law_caught"]
  _law_text : DefAt K mg "_law_text" s__law_text ["_law_town_here", "_law_most"]
  _law_shape : DefAt K mg "_law_shape" s__law_shape ["_law_town_here"]
  _law_records : DefAt K mg "_law_records" s__law_records ["_law_town_here", "_law_shape_here", "_law_many"]
  _law_read : DefAt K mg "_law_read" s__law_read ["_law_blocks", "_law_shape_here"]
  _law_length : DefAt K mg "_law_length" s__law_length ["_law_text_here"]
  _law_parts : DefAt K mg "_law_parts" s__law_parts ["_law_one", "_law_shape_here"]
  _law_due : DefAt K mg "_law_due" s__law_due ["_law_blocks", "_law_shape_here"]
  law : DefAt K mg "law" s_law ["_law_script"]
  FIXED : StrAt mg "FIXED" (S [70])
  VARIED : StrAt mg "VARIED" (S [86])
  SPANNED : StrAt mg "SPANNED" (S [83])
  FORMS : TupAt K mg "FORMS" [.str (S [70]), .str (S [86]), .str (S [83])]
  MOST_BLOCK : IntAt mg "MOST_BLOCK" 60
  MOST_SIZE : IntAt mg "MOST_SIZE" 200
  z_isinstance : mg "isinstance" = none
  z_int : mg "int" = none
  z_bool : mg "bool" = none
  z_str : mg "str" = none
  z_list : mg "list" = none
  z_all : mg "all" = none
  z_len : mg "len" = none
  z_ValueError : mg "ValueError" = none
  z_range : mg "range" = none
  z_min : mg "min" = none
  kb_unblocked_form_block_size : KBn K unblocked.d ["blocks", "form", "block", "size"] 1 ["form", "block", "size"] (fun us ws => us ++ ws) (fun us ws => us ++ ws)
  kb_blocked_form_block_size : KBn K blocked.d ["records", "form", "block", "size"] 1 ["form", "block", "size"] (fun us ws => us ++ ws) (fun us ws => us ++ ws)
  xc_BadForm : ExcC K BadForm.C
  em_BadForm : PySem.W.exmOne K (.ref BadForm.C) (.ref ReelError.C) = some true
  iv_BadForm : PySem.W.kitOne K (.ref BadForm.C) (.type "ValueError") = some true
  is_BadForm_ReelError : PySem.W.kitOne K (.ref BadForm.C) (.ref ReelError.C) = some true
  is_BadForm_BadNumber : PySem.W.kitOne K (.ref BadForm.C) (.ref BadNumber.C) = some false
  is_BadForm_BadName : PySem.W.kitOne K (.ref BadForm.C) (.ref BadName.C) = some false
  is_BadForm_BadReel : PySem.W.kitOne K (.ref BadForm.C) (.ref BadReel.C) = some false
  is_BadForm_NoRing : PySem.W.kitOne K (.ref BadForm.C) (.ref NoRing.C) = some false
  is_BadForm_AtEnd : PySem.W.kitOne K (.ref BadForm.C) (.ref AtEnd.C) = some false
  is_BadForm_AtStart : PySem.W.kitOne K (.ref BadForm.C) (.ref AtStart.C) = some false
  is_BadForm_TooLong : PySem.W.kitOne K (.ref BadForm.C) (.ref TooLong.C) = some false
  is_BadForm_BadForm : PySem.W.kitOne K (.ref BadForm.C) (.ref BadForm.C) = some true
  is_BadForm_BadRecord : PySem.W.kitOne K (.ref BadForm.C) (.ref BadRecord.C) = some false
  is_BadForm_BadBlock : PySem.W.kitOne K (.ref BadForm.C) (.ref BadBlock.C) = some false
  is_BadForm_BadLabel : PySem.W.kitOne K (.ref BadForm.C) (.ref BadLabel.C) = some false
  is_BadForm_NoReel : PySem.W.kitOne K (.ref BadForm.C) (.ref NoReel.C) = some false
  is_BadForm_NoFile : PySem.W.kitOne K (.ref BadForm.C) (.ref NoFile.C) = some false
  is_BadForm_Kept : PySem.W.kitOne K (.ref BadForm.C) (.ref Kept.C) = some false
  xc_BadBlock : ExcC K BadBlock.C
  em_BadBlock : PySem.W.exmOne K (.ref BadBlock.C) (.ref ReelError.C) = some true
  iv_BadBlock : PySem.W.kitOne K (.ref BadBlock.C) (.type "ValueError") = some true
  is_BadBlock_ReelError : PySem.W.kitOne K (.ref BadBlock.C) (.ref ReelError.C) = some true
  is_BadBlock_BadNumber : PySem.W.kitOne K (.ref BadBlock.C) (.ref BadNumber.C) = some false
  is_BadBlock_BadName : PySem.W.kitOne K (.ref BadBlock.C) (.ref BadName.C) = some false
  is_BadBlock_BadReel : PySem.W.kitOne K (.ref BadBlock.C) (.ref BadReel.C) = some false
  is_BadBlock_NoRing : PySem.W.kitOne K (.ref BadBlock.C) (.ref NoRing.C) = some false
  is_BadBlock_AtEnd : PySem.W.kitOne K (.ref BadBlock.C) (.ref AtEnd.C) = some false
  is_BadBlock_AtStart : PySem.W.kitOne K (.ref BadBlock.C) (.ref AtStart.C) = some false
  is_BadBlock_TooLong : PySem.W.kitOne K (.ref BadBlock.C) (.ref TooLong.C) = some false
  is_BadBlock_BadForm : PySem.W.kitOne K (.ref BadBlock.C) (.ref BadForm.C) = some false
  is_BadBlock_BadRecord : PySem.W.kitOne K (.ref BadBlock.C) (.ref BadRecord.C) = some false
  is_BadBlock_BadBlock : PySem.W.kitOne K (.ref BadBlock.C) (.ref BadBlock.C) = some true
  is_BadBlock_BadLabel : PySem.W.kitOne K (.ref BadBlock.C) (.ref BadLabel.C) = some false
  is_BadBlock_NoReel : PySem.W.kitOne K (.ref BadBlock.C) (.ref NoReel.C) = some false
  is_BadBlock_NoFile : PySem.W.kitOne K (.ref BadBlock.C) (.ref NoFile.C) = some false
  is_BadBlock_Kept : PySem.W.kitOne K (.ref BadBlock.C) (.ref Kept.C) = some false
end R
set_option maxRecDepth 100000
set_option maxHeartbeats 4000000
namespace R
open PySem PySem.Spec PyProof.Rows L2 RZ
open PySem.W (Datum)
/-! ### the law's draws: some number below the bound; the town's two lists change, nothing else -/
def Town (H : Hp) (t r : Addr) : Prop := ∃ (c : Int) (ns : List Int), H t = some (.lst [.ref r, .int c]) ∧ H r = some (.lst (ns.map V.int)) ∧ 0 < ns.length ∧ ns.length ≤ 63
def But2 (t r : Addr) (H H' : Hp) : Prop := ∀ b o, H b = some o → b ≠ t → b ≠ r → H' b = some o
theorem But2.trans {t r : Addr} {H H1 H2 : Hp} (a : But2 t r H H1) (b : But2 t r H1 H2) : But2 t r H H2 := fun c o h h1 h2 => b c o (a c o h h1 h2) h1 h2
theorem But2.of_same {t r : Addr} {H H' : Hp} (e : Same H H') : But2 t r H H' := fun b o h _ _ => e b o h
theorem Town.same {H H' : Hp} {t r : Addr} (h : Town H t r) (e : Same H H') : Town H' t r := by
  obtain ⟨c, ns, h1, h2, h3, h4⟩ := h
  exact ⟨c, ns, e _ _ h1, e _ _ h2, h3, h4⟩
section
variable {P : Program} {w : World} {K : PySem.W.Frag} {mg : Str → Option Value} {base : Heap}
def sp__law_town (K : PySem.W.Frag) : Sp := fun vs H Q _ => ∃ (a : Addr) (ns : List Int), vs = [.ref a] ∧ SqL K H a (ns.map V.int) ∧ ns.length ≤ 63 ∧
  ∀ t r H', Same H H' → H t = none → H r = none → Town H' t r → Q (.ref t) H'
theorem ok__law_town (T : Txt K mg) : FnOk P w K mg base (L2.CX P w) 1 T._law_town.a T._law_town.d ["_law_script"] (sp__law_town K) := by
  refine T._law_town.F.okX sc__law_town (fun vs H Q E h => ?_) (fun cdv A outer s H vs Q E hr h => ?_)
  · obtain ⟨a, ns, rfl, _⟩ := h
    rfl
  · obtain ⟨a, ns, rfl, hS, hlen, k⟩ := h
    refine ⟨_, (pss_one (ps_ret (pe_lst (pa_cons (pe_ifExp (pt_cmpR (op_neP hr.units) (pv 0) (pe_lst pa_nil) (nomark _)) (pe_callTy call_list_of (by rfl) T.z_list (by decide +kernel) (pa_cons (pv 0) pa_nil)) (pe_lst (pa_cons pe_int pa_nil))) (pa_cons pe_int pa_nil))))), ?_⟩
    refine ⟨_, rfl, Nat.zero_le _, fun p np => ?_⟩
    have s1 := same_new (o := .lst []) np
    refine rNeP_of (dp_intsL (sql_same hS s1)) (dp_intsL (ns := []) (SqL.of upd_same)) ⟨_, rfl, ?_⟩
    refine iteN (fun e => ?_) (fun e => ?_)
    · refine ⟨_, rfl, a, _, rfl, .inl (sql_same hS s1), fun l nl => ?_⟩
      have s2 := s1.trans (same_new (o := .lst (ns.map V.int)) nl)
      refine ⟨(by show 2 ≤ sizeLine; decide), fun t nt => k t l _ (s2.trans (same_new nt)) (s2.free nt) (s1.free nl) ⟨0, ns, upd_same, ?_, ?_, hlen⟩⟩
      · rw [upd_ne (ne_of_none upd_same nt), upd_same]
      · cases ns with
        | nil => exact absurd rfl e
        | cons x r => exact Nat.succ_pos _
    · refine ⟨by decide, fun l nl => ?_⟩
      have s2 := s1.trans (same_new (o := .lst [.int 0]) nl)
      refine ⟨(by show 2 ≤ sizeLine; decide), fun t nt => k t l _ (s2.trans (same_new nt)) (s2.free nt) (s1.free nl) ⟨0, [0], upd_same, ?_, by decide, by decide⟩⟩
      rw [upd_ne (ne_of_none upd_same nt), upd_same]
      all_goals rfl
def sp__law_draw : Sp := fun vs H Q _ => ∃ (t r : Addr) (m : Int), vs = [.ref t, .int m] ∧ Town H t r ∧ 0 < m ∧ m < 1073741824 ∧
  ∀ z H', 0 ≤ z → z < m → But2 t r H H' → Town H' t r → Q (.int z) H'
theorem ok__law_draw (T : Txt K mg) : FnOk P w K mg base (L2.CX P w) 1 T._law_draw.a T._law_draw.d ["_law_town_here", "_law_many"] sp__law_draw := by
  refine T._law_draw.F.okX sc__law_draw (fun vs H Q E h => ?_) (fun cdv A outer s H vs Q E hr h => ?_)
  · obtain ⟨t, r, m, rfl, _⟩ := h
    rfl
  · obtain ⟨t, r, m, rfl, ⟨c, ns, ht, hrr, hpos, hlen⟩, hm, hm2, k⟩ := h
    refine ⟨_, (pss_cons (ps_set (i := 2) sc__law_draw.nd rfl (.inl rfl) (pe_ix ix_list (pv 0) pe_int (fun _ _ => rfl)))
    (pss_cons (ps_asg (pe_op op_add (pe_ix ix_list (pv 0) pe_int (fun _ _ => rfl)) pe_int) (pg_sub (pv 0) pe_int set_list))
    (pss_cons (ps_set (i := 3) sc__law_draw.nd rfl (.inl rfl) (pe_op op_mod (pe_ix ix_list (pv 0) pe_int (fun _ _ => rfl)) (pe_callB call_len_seq (by rfl) T.z_len PySem.boot_len (pa_cons (pv 2) pa_nil))))
    (pss_cons (ps_set (i := 4) sc__law_draw.nd rfl (.inl rfl) (pe_ix ix_list (pv 2) (pv 3) (fun _ _ => rfl)))
    (pss_cons (ps_if (pt_cmpR op_ge (pv 4) pe_int (nomark _))
      (pss_cons (ps_asg (pe_op op_fdiv (pv 4) (pv 1)) (pg_sub (pv 2) (pv 3) set_list))
      (pss_one (ps_ret (pe_op op_mod (pv 4) (pv 1)))))
      pss_nil)
    (pss_cons (ps_set (i := 5) sc__law_draw.nd rfl (.inl rfl) (pe_op op_mod (pe_op op_add (pv 4) (pe_op op_mul pe_int (pe_ix ix_list (pv 0) pe_int (fun _ _ => rfl)))) pe_int))
    (pss_cons (ps_set (i := 5) sc__law_draw.nd rfl (.inl rfl) (pe_op op_mod (pe_op op_pow (pv 5) pe_int) pe_int))
    (pss_one (ps_ret (pe_op op_mod (pe_op op_fdiv (pe_op op_mod (pe_op op_add (pe_op op_mul (pe_op op_fdiv (pv 5) pe_int) pe_int) (pv 5)) pe_int) pe_int) (pv 1))))))))))), ?_⟩
    refine ⟨_, rfl, t, _, 0, _, rfl, rfl, SqL.of ht, rfl, ?_⟩
    refine ⟨_, rfl, t, _, 1, _, rfl, rfl, SqL.of ht, rfl, _, _, rfl, rfl, _, rfl, t, _, 1, 1, rfl, rfl, ht, rfl, ?_⟩
    have ntr : t ≠ r := by
      intro e; subst e
      rw [ht] at hrr
      cases ns with
      | nil => exact absurd hpos (Nat.lt_irrefl _)
      | cons x q => cases hrr
    have ht1 : upd H t (HO.lst [.ref r, .int (c + 1)]) t = some (.lst [.ref r, .int (c + 1)]) := upd_same
    have hr1 : upd H t (HO.lst [.ref r, .int (c + 1)]) r = some (.lst (ns.map V.int)) := by rw [upd_ne ntr.symm]; exact hrr
    have hl0 : (0 : Int) < ((ns.map V.int).length : Int) := by rw [List.length_map]; omega
    refine ⟨_, rfl, t, _, 1, _, rfl, rfl, SqL.of ht1, rfl, _, rfl, r, _, rfl, .inl (SqL.of hr1), _, _, rfl, rfl, hl0, ?_⟩
    have h0 : 0 ≤ (c + 1) % ((ns.map V.int).length : Int) := Int.emod_nonneg _ (by omega)
    have h1 : (c + 1) % ((ns.map V.int).length : Int) < ((ns.map V.int).length : Int) := Int.emod_lt_of_pos _ hl0
    obtain ⟨j, ej⟩ : ∃ j : Nat, (c + 1) % ((ns.map V.int).length : Int) = (j : Int) := ⟨((c + 1) % ((ns.map V.int).length : Int)).toNat, by omega⟩
    have hj : j < ns.length := by rw [List.length_map] at h1 ej; omega
    have gj : (ns.map V.int)[j]? = some (.int ns[j]) := by
      rw [List.getElem?_map, List.getElem?_eq_getElem hj]
      rfl
    refine ⟨_, rfl, _, rfl, r, _, _, _, rfl, rfl, SqL.of hr1, at_of ej gj, ?_⟩
    refine ⟨_, rfl, _, _, rfl, rfl, _, rfl, iteD (fun e => ?_) (fun e => ?_)⟩
    · have ixj : ixN (ns.map V.int).length ((c + 1) % ((ns.map V.int).length : Int)) = some j := by
        rw [ej]
        unfold ixN
        rw [if_pos (by omega), if_pos (by rw [List.length_map]; omega), Int.toNat_natCast]
      refine ⟨_, rfl, _, rfl, _, _, rfl, rfl, ⟨hm, hm2⟩, _, rfl, _, rfl, r, _, _, j, rfl, rfl, hr1, ixj, ?_⟩
      refine ⟨_, rfl, _, rfl, _, _, rfl, rfl, hm, ?_⟩
      refine k _ _ (Int.emod_nonneg _ (by omega)) (Int.emod_lt_of_pos _ hm) (fun b o hb n1 n2 => ?_) ⟨c + 1, ns.set j (ns[j] / m), ?_, ?_, ?_, ?_⟩
      · rw [upd_ne n2, upd_ne n1]; exact hb
      · rw [upd_ne ntr]; exact ht1
      · rw [upd_same, List.map_set]
      · rw [List.length_set]; exact hpos
      · rw [List.length_set]; exact hlen
    · refine ⟨_, rfl, _, rfl, t, _, 1, _, rfl, rfl, SqL.of ht1, rfl, _, _, rfl, rfl, .inl ⟨by decide, by decide⟩, _, _, rfl, rfl, _, _, rfl, rfl, (show (0 : Int) < 4294967291 by decide), ?_⟩
      have b0 : 0 ≤ (ns[j] + 104729 * (c + 1)) % 4294967291 := Int.emod_nonneg _ (by decide)
      have b1 : (ns[j] + 104729 * (c + 1)) % 4294967291 < 4294967291 := Int.emod_lt_of_pos _ (by decide)
      refine ⟨_, rfl, _, _, rfl, rfl, ⟨by decide, by decide, by omega⟩, _, _, rfl, rfl, (show (0 : Int) < 4294967279 by decide), ?_⟩
      generalize ((ns[j] + 104729 * (c + 1)) % 4294967291) ^ (5 : Int).toNat = q
      have c0 : 0 ≤ q % 4294967279 := Int.emod_nonneg _ (by decide)
      have c1 : q % 4294967279 < 4294967279 := Int.emod_lt_of_pos _ (by decide)
      refine ⟨_, rfl, _, _, rfl, rfl, ⟨by decide, by decide⟩, _, _, rfl, rfl, .inr ⟨by decide, by decide⟩, _, rfl, _, _, rfl, rfl, _, _, rfl, rfl, (show (0 : Int) < 4294967231 by decide), _, _, rfl, rfl, ⟨by decide, by decide⟩, _, rfl, _, _, rfl, rfl, hm, ?_⟩
      exact k _ _ (Int.emod_nonneg _ (by omega)) (Int.emod_lt_of_pos _ hm) (fun b o hb n1 n2 => by rw [upd_ne n1]; exact hb) ⟨c + 1, ns, ht1, hr1, hpos, hlen⟩
theorem sql_but2 {t r l : Addr} {H H' : Hp} {xs : List V} (h : SqL K H l xs) (n1 : l ≠ t) (n2 : l ≠ r) (k : But2 t r H H') : SqL K H' l xs := by
  rcases h with (h | ⟨o, h⟩) | h
  · exact .inl (.inl (k _ _ h n1 n2))
  · exact .inl (.inr ⟨o, k _ _ h n1 n2⟩)
  · exact .inr h
def sp__law_pick (K : PySem.W.Frag) : Sp := fun vs H Q _ => ∃ (t r l : Addr) (xs : List V), vs = [.ref t, .ref l] ∧ Town H t r ∧ SqL K H l xs ∧ l ≠ t ∧ l ≠ r ∧ 0 < xs.length ∧ xs.length < 1000 ∧
  ∀ (j : Nat) (v : V) (H' : Hp), xs[j]? = some v → But2 t r H H' → Town H' t r → Q v H'
theorem ok__law_pick (T : Txt K mg) : FnOk P w K mg base (L2.CX P w) 2 T._law_pick.a T._law_pick.d ["_law_town_here", "_law_some"] (sp__law_pick K) := by
  refine T._law_pick.F.okX sc__law_pick (fun vs H Q E h => ?_) (fun cdv A outer s H vs Q E hr h => ?_)
  · obtain ⟨t, r, l, xs, rfl, _⟩ := h
    rfl
  · obtain ⟨t, r, l, xs, rfl, hT, hl, n1, n2, hpos, hlen, k⟩ := h
    refine ⟨_, (pss_one (ps_ret (pe_ix ix_list (pv 1) (pe_call (ok__law_draw T) (hr.mono (by decide)) (by rfl) T._law_draw.g T._law_draw.F.kp T._law_draw.b .nil passL (pa_cons (pv 0) (pa_cons (pe_callB call_len_seq (by rfl) T.z_len PySem.boot_len (pa_cons (pv 1) pa_nil)) pa_nil))) (fun _ _ => rfl)))), ?_⟩
    refine ⟨_, rfl, _, rfl, _, rfl, _, _, rfl, .inl hl, t, r, _, rfl, hT, by omega, by omega, fun z H' h0 h1 kb hT' => ?_⟩
    obtain ⟨j, ej⟩ : ∃ j : Nat, z = (j : Int) := ⟨z.toNat, by omega⟩
    have hj : j < xs.length := by omega
    exact ⟨l, _, _, xs[j], rfl, rfl, sql_but2 hl n1 n2 kb, at_of ej (List.getElem?_eq_getElem hj), k j _ _ (List.getElem?_eq_getElem hj) kb hT'⟩
end
end R
set_option maxRecDepth 100000
set_option maxHeartbeats 4000000
namespace R
open PySem PySem.Spec PyProof.Rows L2 RZ
open PySem.W (Datum)
def isWhole (x : V) (lo hi : Int) : Bool := match x with
  | .int i => decide (lo ≤ i) && decide (i ≤ hi)
  | _ => false
def sigL : List Nat := [65, 66, 67, 68, 69, 70, 71, 72, 73, 74, 75, 76, 77, 78, 79, 80, 81, 82, 83, 84, 85, 86, 87, 88, 89, 90, 48, 49, 50, 51, 52, 53, 54, 55, 56, 57]
def nameL (l : List Nat) (m : Int) : Bool := decide (1 ≤ (l.length : Int)) && decide ((l.length : Int) ≤ m) && l.all fun c => decide (c ∈ sigL)
def isName (x : V) (m : Int) : Bool := match x with
  | .str z => nameL z.cps.toList m
  | _ => false
theorem isName_S (l : List Nat) (m : Int) : isName (.str (S l)) m = nameL l m := by
  show nameL (S l).cps.toList m = nameL l m
  rw [S_cps]
/-- a text's size is bounded -/
def Sz (x : V) : Prop := match x with
  | .str z => z.length < 16777216
  | _ => True
theorem all_id_map (l : List Nat) (f : Nat → Bool) : (l.map f).all id = l.all f := by
  rw [List.all_map]
  rfl
theorem len_cps (z : Str) : z.cps.toList.length = z.length := by simp [Str.length]
section
variable {P : Program} {w : World} {K : PySem.W.Frag} {mg : Str → Option Value} {base : Heap}
def sp_is_whole (K : PySem.W.Frag) : Sp := fun vs H Q _ => ∃ (x : V) (n : String) (lo hi : Int), vs = [x, .int lo, .int hi] ∧ Pl K H x n ∧ Q (.bl (isWhole x lo hi)) H
theorem ok_is_whole (T : Txt K mg) : FnOk P w K mg base (L2.CX P w) 1 T.is_whole.a T.is_whole.d ["thing", "low", "high"] (sp_is_whole K) := by
  refine T.is_whole.F.okX sc_is_whole (fun vs H Q E h => ?_) (fun cdv A outer s H vs Q E hr h => ?_)
  · obtain ⟨x, n, lo, hi, rfl, _⟩ := h
    rfl
  · obtain ⟨x, n, lo, hi, rfl, hp, k⟩ := h
    refine ⟨_, (pss_one (ps_ret (pe_and (pe_callB call_isi (by rfl) T.z_isinstance (by decide +kernel) (pa_cons (pv 0) (pa_cons (pe_bltn (v := .ty "int") (by rfl) T.z_int (by decide +kernel) rfl) pa_nil))) (pe_and (pe_not (pe_callB call_isi (by rfl) T.z_isinstance (by decide +kernel) (pa_cons (pv 0) (pa_cons (pe_bltn (v := .ty "bool") (by rfl) T.z_bool (by decide +kernel) rfl) pa_nil)))) (pe_one (pe_chain op_le op_le (pv 1) (pv 0) (pv 2))))))), ?_⟩
    refine ⟨_, rfl, _, _, _, _, _, rfl, .ty _, hp.ty, kit_int hp, _, rfl, ?_⟩
    have stop : ∀ b, isWhole x lo hi = b → Q (.bl b) H := fun b e => by rw [← e]; exact k
    cases hp with
    | int i =>
      refine iteT ⟨_, rfl, _, _, _, _, _, rfl, .ty _, (Pl.int i).ty, kit_bool (Pl.int (K := K) (H := H) i), _, rfl, _, rfl, iteT ?_⟩
      refine ⟨_, rfl, _, rfl, _, _, rfl, rfl, _, rfl, iteD (fun e => ?_) (fun e => ?_)⟩
      · refine ⟨_, rfl, _, _, rfl, rfl, stop _ ?_⟩
        simp [isWhole, e]
      · exact stop _ (by simp [isWhole, e])
    | bl b => exact iteT ⟨_, rfl, _, _, _, _, _, rfl, .ty _, (Pl.bl b).ty, kit_bool (Pl.bl (K := K) (H := H) b), _, rfl, _, rfl, iteF (stop _ rfl)⟩
    | non => exact iteF (stop _ rfl)
    | str z => exact iteF (stop _ rfl)
    | lst h => exact iteF (stop _ rfl)
    | tup h => exact iteF (stop _ rfl)
    | dct h => exact iteF (stop _ rfl)
end
end R
set_option maxRecDepth 100000
set_option maxHeartbeats 4000000
namespace R
open PySem PySem.Spec PyProof.Rows L2 RZ
open PySem.W (Datum)
def isForm (l : List Nat) : Bool := decide (l = [70]) || (decide (l = [86]) || decide (l = [83]))
/-- form, block, size fit -/
def okSizes (l : List Nat) (b s : Int) : Bool := !(decide (l = [70]) && decide (b < s) || decide (l = [86]) && decide (b < s + 3))
def okForm (x b s : V) : Bool := match x, b, s with
  | .str z, .int b, .int s => isForm z.cps.toList && (isWhole (.int b) 5 60 && (isWhole (.int s) 1 200 && okSizes z.cps.toList b s))
  | _, _, _ => false
theorem inForms (l : List Nat) : inV (.str (S l)) [.str (S [70]), .str (S [86]), .str (S [83])] = isForm l := by
  have h : ∀ k : List Nat, eqV (.str (S k)) (.str (S l)) = decide (l = k) := by
    intro k
    show (S k == S l) = _
    rw [Bool.eq_iff_iff, beq_iff_eq, decide_eq_true_eq, S_inj]
    exact ⟨fun e => e.symm, fun e => e.symm⟩
  unfold inV isForm
  rw [List.any_cons, List.any_cons, List.any_cons, List.any_nil, h, h, h, Bool.or_false]
theorem whole_int {x : V} {lo hi : Int} (h : isWhole x lo hi = true) : ∃ i, x = .int i ∧ lo ≤ i ∧ i ≤ hi := by
  cases x with
  | int i =>
    have h' : (decide (lo ≤ i) && decide (i ≤ hi)) = true := h
    rw [Bool.and_eq_true, decide_eq_true_eq, decide_eq_true_eq] at h'
    exact ⟨i, rfl, h'⟩
  | _ => exact nomatch h
theorem okForm_iff {x b s : V} (h : okForm x b s = true) : ∃ (l : List Nat) (bi si : Nat), x = .str (S l) ∧ b = .int bi ∧ s = .int si ∧ isForm l = true ∧ 5 ≤ bi ∧ bi ≤ 60 ∧ 1 ≤ si ∧ si ≤ 200 ∧ okSizes l bi si = true := by
  unfold okForm at h
  split at h
  · rename_i z b s
    rw [Bool.and_eq_true, Bool.and_eq_true, Bool.and_eq_true] at h
    obtain ⟨h1, h2, h3, h4⟩ := h
    obtain ⟨i, e, h5, h6⟩ := whole_int h2
    obtain ⟨j, e', h7, h8⟩ := whole_int h3
    cases e
    cases e'
    have eb : ((b.toNat : Nat) : Int) = b := by omega
    have es : ((s.toNat : Nat) : Int) = s := by omega
    exact ⟨z.cps.toList, b.toNat, s.toNat, by rw [← S_of], by rw [eb], by rw [es], h1, by omega, by omega, by omega, by omega, by rw [eb, es]; exact h4⟩
  · exact nomatch h
theorem okForm_of {l : List Nat} {b s : Nat} (h1 : isForm l = true) (h2 : 5 ≤ b ∧ b ≤ 60) (h3 : 1 ≤ s ∧ s ≤ 200) (h4 : okSizes l b s = true) : okForm (.str (S l)) (.int b) (.int s) = true := by
  show (isForm (S l).cps.toList && (isWhole (.int b) 5 60 && (isWhole (.int s) 1 200 && okSizes (S l).cps.toList b s))) = true
  rw [S_cps, h1, h4]
  have e1 : isWhole (.int (b : Int)) 5 60 = true := by
    show (decide (5 ≤ (b : Int)) && decide ((b : Int) ≤ 60)) = true
    rw [decide_eq_true (by omega), decide_eq_true (by omega)]; rfl
  have e2 : isWhole (.int (s : Int)) 1 200 = true := by
    show (decide (1 ≤ (s : Int)) && decide ((s : Int) ≤ 200)) = true
    rw [decide_eq_true (by omega), decide_eq_true (by omega)]; rfl
  rw [e1, e2]; rfl
theorem iteOr {c d : Bool} {A B : Prop} (h1 : (c || d) = true → A) (h2 : (c || d) = false → B) : if c = true then (if true = true then A else B) else (if d = true then A else B) := by
  cases c with
  | true => exact iteT (iteT (h1 rfl))
  | false =>
    cases d with
    | true => exact iteF (iteT (h1 rfl))
    | false => exact iteF (iteF (h2 rfl))
section
variable {P : Program} {w : World} {K : PySem.W.Frag} {mg : Str → Option Value} {base : Heap}
def sp_look_form (K : PySem.W.Frag) (CF : Addr) : Sp := fun vs H Q E => ∃ (x b s : V) (n m o : String), vs = [x, b, s] ∧ Pl K H x n ∧ Pl K H b m ∧ Pl K H s o ∧ (okForm x b s = true → Q .non H) ∧ (okForm x b s = false → E (.ref CF) none H)
theorem ok_look_form (T : Txt K mg) : FnOk P w K mg base (L2.CX P w) 2 T.look_form.a T.look_form.d ["form", "block", "size"] (sp_look_form K T.BadForm.C) := by
  refine T.look_form.F.okX sc_look_form (fun vs H Q E h => ?_) (fun cdv A outer s0 H vs Q E hr h => ?_)
  · obtain ⟨x, b, s, n, m, o, rfl, _⟩ := h
    rfl
  · obtain ⟨x, b, s, n, m, o, rfl, hx, hb, hs, k1, k2⟩ := h
    refine ⟨_, (pss_cons (ps_if (PW.pt (pw_or (pt_not (pt_val (pe_callB call_isi (by rfl) T.z_isinstance (by decide +kernel) (pa_cons (pv 0) (pa_cons (pe_bltn (v := .ty "str") (by rfl) T.z_str (by decide +kernel) rfl) pa_nil))))) (pw_or1 (pt_cmpR op_notIn_seq (pv 0) (pe_glob (v := .ref T.FORMS.a) rfl T.FORMS.g rfl) (by rfl)))))
      (pss_one (ps_raise rfl (takes_of rfl rfl rfl rfl) (pmk_own PySem.F.excBase_ValueError T.BadForm.x T.BadForm.g T.BadForm.k (raises_own T.BadForm.b T.BadForm.t) (by exact rfl))))
      pss_nil)
    (pss_cons (ps_if (PW.pt (pw_or (pt_not (pt_val (pe_call (ok_is_whole T) (hr.mono (by decide)) (by rfl) T.is_whole.g T.is_whole.F.kp T.is_whole.b .nil (passes_call (takes_of rfl rfl rfl rfl) (fun _ _ _ _ h => h)) (pa_cons (pv 1) (pa_cons pe_int (pa_cons (pe_glob (v := .int 60) rfl T.MOST_BLOCK.g ⟨_, rfl⟩) pa_nil)))))) (pw_or1 (pt_not (pt_val (pe_call (ok_is_whole T) (hr.mono (by decide)) (by rfl) T.is_whole.g T.is_whole.F.kp T.is_whole.b .nil (passes_call (takes_of rfl rfl rfl rfl) (fun _ _ _ _ h => h)) (pa_cons (pv 2) (pa_cons pe_int (pa_cons (pe_glob (v := .int 200) rfl T.MOST_SIZE.g ⟨_, rfl⟩) pa_nil)))))))))
      (pss_one (ps_raise rfl (takes_of rfl rfl rfl rfl) (pmk_own PySem.F.excBase_ValueError T.BadForm.x T.BadForm.g T.BadForm.k (raises_own T.BadForm.b T.BadForm.t) (by exact rfl))))
      pss_nil)
    (pss_one (ps_if (PW.pt (pw_or (PW.pt (pw_and (pt_cmpR op_eqS (pv 0) (pe_glob (v := .str (S [70])) rfl T.FIXED.g ⟨_, rfl⟩) (nomark _)) (pw_and1 (pt_cmpR op_gt (pv 2) (pv 1) (nomark _))))) (pw_or1 (PW.pt (pw_and (pt_cmpR op_eqS (pv 0) (pe_glob (v := .str (S [86])) rfl T.VARIED.g ⟨_, rfl⟩) (nomark _)) (pw_and1 (pt_cmpR op_gt (pe_op op_add (pv 2) pe_int) (pv 1) (nomark _))))))))
      (pss_one (ps_raise rfl (takes_of rfl rfl rfl rfl) (pmk_own PySem.F.excBase_ValueError T.BadForm.x T.BadForm.g T.BadForm.k (raises_own T.BadForm.b T.BadForm.t) (by exact rfl))))
      pss_nil)))), ?_⟩
    refine ⟨_, rfl, _, _, _, _, _, rfl, .ty _, hx.ty, kit_str hx, _, rfl, ?_⟩
    cases hx with
    | str z =>
      obtain ⟨l, rfl⟩ : ∃ l, z = S l := ⟨_, S_of z⟩
      refine iteF ⟨_, rfl, T.FORMS.a, _, rfl, .inr (T.FORMS.t _), rfl, rfl, _, rfl, ?_⟩
      show if (!inV (.str (S l)) [.str (S [70]), .str (S [86]), .str (S [83])]) = true then _ else _
      rw [inForms]
      refine iteNB (fun e1 => ?_) (fun e1 => ?_)
      · refine k2 ?_
        cases b <;> cases s <;> try rfl
        show (isForm (S l).cps.toList && _) = false
        rw [S_cps, e1]; rfl
      · refine ⟨_, rfl, b, m, 5, 60, rfl, hb, _, rfl, ?_⟩
        cases e2 : isWhole b 5 60 with
        | false =>
          refine iteT (iteT (k2 ?_))
          cases b <;> cases s <;> try rfl
          show (isForm (S l).cps.toList && (isWhole _ 5 60 && _)) = false
          rw [e2]; simp
        | true =>
          refine iteF ⟨_, rfl, s, o, 1, 200, rfl, hs, _, rfl, ?_⟩
          cases e3 : isWhole s 1 200 with
          | false =>
            refine iteT (k2 ?_)
            cases b <;> cases s <;> try rfl
            show (isForm (S l).cps.toList && (isWhole _ 5 60 && (isWhole _ 1 200 && _))) = false
            rw [e3]; simp
          | true =>
            refine iteF ?_
            obtain ⟨bi, rfl, hb1, hb2⟩ := whole_int e2
            obtain ⟨si, rfl, hs1, hs2⟩ := whole_int e3
            have eo : okForm (.str (S l)) (.int bi) (.int si) = okSizes l bi si := by
              show (isForm (S l).cps.toList && (isWhole (.int bi) 5 60 && (isWhole (.int si) 1 200 && okSizes (S l).cps.toList bi si))) = _
              rw [S_cps, e1, e2, e3]; rfl
            rw [eo] at k1 k2
            refine ⟨_, rfl, l, [70], rfl, rfl, _, rfl, ?_⟩
            by_cases c1 : l = [70]
            · have c2 : ¬ l = [86] := by rw [c1]; decide
              rw [decide_eq_true c1]
              refine iteT ⟨_, rfl, _, rfl, _, _, rfl, rfl, _, rfl, iteD (fun c3 => ?_) (fun c3 => ?_)⟩
              · refine iteT (k2 ?_)
                unfold okSizes
                rw [decide_eq_true c1, decide_eq_true c3]; rfl
              · refine ⟨_, rfl, l, [86], rfl, rfl, _, rfl, ?_⟩
                rw [decide_eq_false c2]
                refine iteF (iteF (k1 ?_))
                unfold okSizes
                rw [decide_eq_true c1, decide_eq_false c3, decide_eq_false c2]; rfl
            · rw [decide_eq_false c1]
              refine iteF (iteF ⟨_, rfl, l, [86], rfl, rfl, _, rfl, ?_⟩)
              by_cases c2 : l = [86]
              · rw [decide_eq_true c2]
                refine iteT ⟨_, rfl, _, _, rfl, rfl, _, rfl, _, _, rfl, rfl, _, rfl, iteD (fun c3 => ?_) (fun c3 => ?_)⟩
                · refine k2 ?_
                  unfold okSizes
                  rw [decide_eq_false c1, decide_eq_true c2, decide_eq_true c3]; rfl
                · refine k1 ?_
                  unfold okSizes
                  rw [decide_eq_false c1, decide_eq_true c2, decide_eq_false c3]; rfl
              · rw [decide_eq_false c2]
                refine iteF (iteF (k1 ?_))
                unfold okSizes
                rw [decide_eq_false c1, decide_eq_false c2]; rfl
    | int i => exact iteT (iteT (k2 rfl))
    | bl b => exact iteT (iteT (k2 rfl))
    | non => exact iteT (iteT (k2 rfl))
    | lst h => exact iteT (iteT (k2 rfl))
    | tup h => exact iteT (iteT (k2 rfl))
    | dct h => exact iteT (iteT (k2 rfl))
def sp_figures : Sp := fun vs H Q _ => ∃ n m : Nat, vs = [.int n, .int m] ∧ n < 10 ^ 10 ∧ m ≤ 1000 ∧ Q (.str (S (fig n m))) H
theorem ok_figures (T : Txt K mg) : FnOk P w K mg base (L2.CX P w) 1 T.figures.a T.figures.d ["number", "many"] sp_figures := by
  refine T.figures.F.okX sc_figures (fun vs H Q E h => ?_) (fun cdv A outer s0 H vs Q E hr h => ?_)
  · obtain ⟨n, m, rfl, _⟩ := h
    rfl
  · obtain ⟨n, m, rfl, hn, hm, k⟩ := h
    refine ⟨_, (pss_one (ps_ret (pe_op op_addS (pe_op op_mulS (pe_strS (l := [48]) (by decide +kernel)) (pe_op op_sub (pv 1) (pe_callB call_lenS (by rfl) T.z_len PySem.boot_len (pa_cons (pe_callTy call_strN (by rfl) T.z_str (by decide +kernel) (pa_cons (pv 0) pa_nil)) pa_nil)))) (pe_callTy call_strN (by rfl) T.z_str (by decide +kernel) (pa_cons (pv 0) pa_nil))))), ?_⟩
    have hd := dig_len 9 n hn
    refine ⟨_, rfl, _, rfl, n, rfl, hn, dig n, rfl, by omega, _, _, rfl, rfl, 48, _, rfl, rfl, by omega, by omega, _, rfl, n, rfl, hn, _, _, rfl, rfl, ?_, ?_⟩
    · rw [List.length_replicate]; omega
    · have e : ((m : Int) - ((dig n).length : Nat)).toNat = m - (dig n).length := by omega
      rw [e]
      exact k
end
end R
set_option maxRecDepth 100000
set_option maxHeartbeats 4000000
namespace R
open PySem PySem.Spec PyProof.Rows L2 RZ
open PySem.W (Datum)
theorem But2.refl {t r : Addr} (H : Hp) : But2 t r H H := fun _ _ h _ _ => h
theorem Town.ne {H : Hp} {t r p : Addr} (h : Town H t r) (n : H p = none) : p ≠ t ∧ p ≠ r := by
  obtain ⟨c, ns, h1, h2, _⟩ := h
  exact ⟨fun e => (by rw [e, h1] at n; cases n), fun e => (by rw [e, h2] at n; cases n)⟩
theorem town_new {H : Hp} {t r p : Addr} {o : HO} (h : Town H t r) (n : H p = none) : Town (upd H p o) t r := h.same (same_new n)
/-- a comprehension whose items draw -/
theorem lc_draw {J : It} {n : Nat} {G : Hp → Prop} {Y : Nat → Hp → V → Hp → Prop} (w : Walk J n G Y) {g : TG} {te : TE} {vs : List Nat} {σ : L2.St} {H1 : Hp} {D t r : Addr} {Qd : Hp → Prop} (R : Nat → V → Prop) (hn : n < 16777216) (nD : H1 D = none) (ht : Town H1 t r)
    (hY : ∀ i H x H', Y i H x H' → Same H H') (hG : ∀ H, But2 t r H1 H → G H)
    (hs : ∀ i x H H', i < n → But2 t r H1 H' → Town H' t r → Y i H x H' → ∀ Q : VK, (∀ y H2, R i y → But2 t r H' H2 → Town H2 t r → Q y H2) → g x (wipe σ vs) H' fun σ2 H2 => wipe σ2 vs = wipe σ vs ∧ te σ2 H2 Q)
    (hd : ∀ xs H, xs.length = n → (∀ i x, xs[i]? = some x → R i x) → But2 t r H1 H → Town H t r → H D = some (.lst xs) → Qd H)
    (hg : ∀ x σ H (R R' : L2.St → Hp → Prop), (∀ σ2 H2, R σ2 H2 → R' σ2 H2) → g x σ H R → g x σ H R') :
    ∃ W : Nat → Nat → Hp → Prop, (∃ m, W 0 m (upd H1 D (.lst []))) ∧ ∀ i m H, W i m H →
      (J.stop i H ∧ Qd H) ∨ (J.go i H ∧ ∃ Nx : Hp → Prop, (∀ H', Nx H' → ∃ m', m' < m ∧ W (i + 1) m' H') ∧ ∀ x H', J.yld i H x H' → g x (wipe σ vs) H' fun σ2 H2 => wipe σ2 vs = wipe σ vs ∧ tYes σ2 H2 fun b H3 =>
        if b = true then te σ2 H3 fun y H4 => ∃ acc, H4 D = some (.lst acc) ∧ acc.length < sizeLine ∧ Nx (upd H4 D (.lst (acc ++ [y]))) else Nx H3) := by
  have nt := ht.ne nD
  refine lc_it w (fun i H => But2 t r H1 H ∧ Town H t r ∧ ∃ xs, xs.length = i ∧ (∀ j x, xs[j]? = some x → R j x) ∧ H D = some (.lst xs)) ⟨But2.of_same (same_new nD), town_new ht nD, [], rfl, fun j x h => by simp at h, upd_same⟩ (fun i H _ p => hG H p.1) (fun i x H H' hi p y => ?_) (fun H p => ?_)
  · obtain ⟨pb, pt, xs, hl, hR, hD⟩ := p
    have sH' := hY _ _ _ _ y
    refine hg _ _ _ _ _ (fun σ2 H2 z => z) (hs i x H H' hi (pb.trans (But2.of_same sH')) (pt.same sH') y _ fun v H2 hv b2 t2 => ?_)
    have hD2 : H2 D = some (.lst xs) := b2 _ _ (sH' _ _ hD) nt.1 nt.2
    refine ⟨xs, hD2, szl (by omega), ?_, ?_, xs ++ [v], by rw [List.length_append, hl]; rfl, ?_, upd_same⟩
    · intro b o hb h1 h2
      rw [upd_ne (ne_of_none hb nD)]
      exact b2 _ _ (sH' _ _ (pb _ _ hb h1 h2)) h1 h2
    · obtain ⟨c, ns, g1, g2, g3, g4⟩ := t2
      exact ⟨c, ns, by rw [upd_ne nt.1.symm]; exact g1, by rw [upd_ne nt.2.symm]; exact g2, g3, g4⟩
    · intro j x hx
      by_cases hj : j < xs.length
      · rw [List.getElem?_append_left hj] at hx
        exact hR j x hx
      · rw [List.getElem?_append_right (by omega)] at hx
        have : j - xs.length = 0 := by
          cases e : j - xs.length with
          | zero => rfl
          | succ q => rw [e] at hx; simp at hx
        rw [this] at hx
        have ej : j = i := by omega
        rw [ej]
        have ex : v = x := Option.some.inj hx
        rw [← ex]
        exact hv
  · obtain ⟨pb, pt, xs, hl, hR, hD⟩ := p
    exact hd xs H hl hR pb pt hD
theorem chars_of {p : Nat → Prop} : ∀ {xs : List V}, (∀ (i : Nat) x, xs[i]? = some x → ∃ c, x = V.str (S [c]) ∧ p c) → ∃ l : List Nat, xs = (l.map fun c => [c]).map (fun l => V.str (S l)) ∧ l.length = xs.length ∧ ∀ c ∈ l, p c
  | [], _ => ⟨[], rfl, rfl, fun c h => by simp at h⟩
  | x :: xs, h => by
    obtain ⟨c, rfl, hc⟩ := h 0 x rfl
    obtain ⟨l, e, hl, hp⟩ := chars_of (xs := xs) fun i x hx => h (i + 1) x hx
    refine ⟨c :: l, by rw [e]; rfl, by simp [hl], fun d hd => ?_⟩
    rcases List.mem_cons.mp hd with rfl | hd
    · exact hc
    · exact hp d hd
theorem flat_chars (l : List Nat) : (l.map fun c => [c]).flatten = l := by
  induction l with
  | nil => rfl
  | cons c r ih => rw [List.map_cons, List.flatten_cons, ih]; rfl
section
variable {P : Program} {w : World} {K : PySem.W.Frag} {mg : Str → Option Value} {base : Heap}
/-- a form, the longest block, the size: they fit -/
def sp__law_shape (K : PySem.W.Frag) : Sp := fun vs H Q _ => ∃ (t r : Addr), vs = [.ref t] ∧ Town H t r ∧
  ∀ (l : List Nat) (b s : Nat) p H', okForm (.str (S l)) (.int b) (.int s) = true → But2 t r H H' → Town H' t r → H p = none → H' p = some (.tup [.str (S l), .int b, .int s]) → Q (.ref p) H'
theorem ok__law_shape (T : Txt K mg) : FnOk P w K mg base (L2.CX P w) 3 T._law_shape.a T._law_shape.d ["_law_town_here"] (sp__law_shape K) := by
  refine T._law_shape.F.okX sc__law_shape (fun vs H Q E h => ?_) (fun cdv A outer s0 H vs Q E hr h => ?_)
  · obtain ⟨t, r, rfl, _⟩ := h
    rfl
  · obtain ⟨t, r, rfl, hT, k⟩ := h
    refine ⟨_, (pss_cons (ps_set (i := 1) sc__law_shape.nd rfl (.inl rfl) (pe_call (ok__law_pick T) (hr.mono (by decide)) (by rfl) T._law_pick.g T._law_pick.F.kp T._law_pick.b .nil passL (pa_cons (pv 0) (pa_cons (pe_lst (pa_cons (pe_strS (l := [70]) (by decide +kernel)) (pa_cons (pe_strS (l := [86]) (by decide +kernel)) (pa_cons (pe_strS (l := [86]) (by decide +kernel)) (pa_cons (pe_strS (l := [83]) (by decide +kernel)) (pa_cons (pe_strS (l := [83]) (by decide +kernel)) pa_nil)))))) pa_nil))))
    (pss_cons (ps_set (i := 2) sc__law_shape.nd rfl (.inl rfl) (pe_call (ok__law_pick T) (hr.mono (by decide)) (by rfl) T._law_pick.g T._law_pick.F.kp T._law_pick.b .nil passL (pa_cons (pv 0) (pa_cons (pe_lst (pa_cons pe_int (pa_cons pe_int (pa_cons pe_int (pa_cons pe_int (pa_cons (pe_op op_add pe_int (pe_call (ok__law_draw T) (hr.mono (by decide)) (by rfl) T._law_draw.g T._law_draw.F.kp T._law_draw.b .nil passL (pa_cons (pv 0) (pa_cons pe_int pa_nil)))) pa_nil)))))) pa_nil))))
    (pss_cons (ps_if (pt_cmpR op_eqS (pv 1) (pe_strS (l := [83]) (by decide +kernel)) (nomark _))
      (pss_one (ps_ret (pe_tup (pa_cons (pv 1) (pa_cons (pv 2) (pa_cons (pe_call (ok__law_pick T) (hr.mono (by decide)) (by rfl) T._law_pick.g T._law_pick.F.kp T._law_pick.b .nil passL (pa_cons (pv 0) (pa_cons (pe_lst (pa_cons pe_int (pa_cons pe_int (pa_cons pe_int (pa_cons pe_int pa_nil))))) pa_nil))) pa_nil))))))
      pss_nil)
    (pss_one (ps_ret (pe_tup (pa_cons (pv 1) (pa_cons (pv 2) (pa_cons (pe_op op_add pe_int (pe_call (ok__law_draw T) (hr.mono (by decide)) (by rfl) T._law_draw.g T._law_draw.F.kp T._law_draw.b .nil passL (pa_cons (pv 0) (pa_cons (pe_ifExp (pt_cmpR op_eqS (pv 1) (pe_strS (l := [70]) (by decide +kernel)) (nomark _)) (pv 2) (pe_op op_sub (pv 2) pe_int)) pa_nil)))) pa_nil))))))))), ?_⟩
    refine ⟨_, rfl, sz (by decide), fun p np => ?_⟩
    have n1 := hT.ne np
    refine ⟨t, r, p, _, rfl, town_new hT np, SqL.of upd_same, n1.1, n1.2, by decide, by decide, fun j v H1 hj b1 t1 => ?_⟩
    have b01 : But2 t r H H1 := (But2.of_same (same_new np)).trans b1
    refine ⟨_, rfl, _, rfl, t, r, 56, rfl, t1, by decide, by decide, fun z H2 z0 z1 b2 t2 => ⟨_, _, rfl, rfl, ?_⟩⟩
    refine ⟨sz (show 5 ≤ 16777216 by decide), fun q nq => ?_⟩
    have n2 := t2.ne nq
    have b02 := b01.trans b2
    refine ⟨t, r, q, _, rfl, town_new t2 nq, SqL.of upd_same, n2.1, n2.2, (show 0 < 5 by decide), (show 5 < 1000 by decide), fun j2 v2 H3 hj2 b3 t3 => ?_⟩
    have b03 : But2 t r H H3 := (b02.trans (But2.of_same (same_new nq))).trans b3
    obtain ⟨b, rfl, hb5, hb60⟩ : ∃ b : Nat, v2 = .int b ∧ 5 ≤ b ∧ b ≤ 60 := by
      have := List.mem_of_getElem? hj2
      simp only [List.mem_cons, List.not_mem_nil, or_false] at this
      rcases this with rfl | rfl | rfl | rfl | rfl
      · exact ⟨5, rfl, by decide, by decide⟩
      · exact ⟨12, rfl, by decide, by decide⟩
      · exact ⟨40, rfl, by decide, by decide⟩
      · exact ⟨60, rfl, by decide, by decide⟩
      · exact ⟨(5 + z).toNat, by congr 1; omega, by omega, by omega⟩
    obtain ⟨l, rfl, hl⟩ : ∃ l, v = .str (S l) ∧ (l = [70] ∨ l = [86] ∨ l = [83]) := by
      have := List.mem_of_getElem? hj
      simp only [List.mem_cons, List.not_mem_nil, or_false] at this
      rcases this with rfl | rfl | rfl | rfl | rfl
      · exact ⟨[70], rfl, .inl rfl⟩
      · exact ⟨[86], rfl, .inr (.inl rfl)⟩
      · exact ⟨[86], rfl, .inr (.inl rfl)⟩
      · exact ⟨[83], rfl, .inr (.inr rfl)⟩
      · exact ⟨[83], rfl, .inr (.inr rfl)⟩
    have hfree : ∀ {a : Addr} {H' : Hp}, But2 t r H H' → Town H' t r → H' a = none → H a = none := fun {a H'} bb tt na => by
      have nn := tt.ne na
      cases e : H a with
      | none => rfl
      | some o => rw [bb a o e nn.1 nn.2] at na; cases na
    refine ⟨_, rfl, l, [83], rfl, rfl, _, rfl, iteD (fun e => ?_) (fun e => ?_)⟩
    · subst e
      refine ⟨_, rfl, _, rfl, _, rfl, sz (by decide), fun p2 np2 => ?_⟩
      have n3 := t3.ne np2
      refine ⟨t, r, p2, _, rfl, town_new t3 np2, SqL.of upd_same, n3.1, n3.2, by decide, by decide, fun j4 v4 H4 hj4 b4 t4 => ?_⟩
      have b04 := (b03.trans (But2.of_same (same_new np2))).trans b4
      obtain ⟨s, rfl, hs1, hs2⟩ : ∃ s : Nat, v4 = .int s ∧ 1 ≤ s ∧ s ≤ 200 := by
        have := List.mem_of_getElem? hj4
        simp only [List.mem_cons, List.not_mem_nil, or_false] at this
        rcases this with rfl | rfl | rfl | rfl
        · exact ⟨1, rfl, by decide, by decide⟩
        · exact ⟨9, rfl, by decide, by decide⟩
        · exact ⟨80, rfl, by decide, by decide⟩
        · exact ⟨200, rfl, by decide, by decide⟩
      refine ⟨sz (show 3 ≤ 16777216 by decide), fun p3 np3 => ?_⟩
      exact k _ b s p3 _ (okForm_of rfl ⟨hb5, hb60⟩ ⟨hs1, hs2⟩ rfl) (b04.trans (But2.of_same (same_new np3))) (town_new t4 np3) (hfree b04 t4 np3) upd_same
    · refine ⟨_, rfl, _, rfl, _, rfl, _, rfl, l, [70], rfl, rfl, _, rfl, ?_⟩
      rcases hl with rfl | rfl | rfl
      · refine iteT ⟨_, rfl, t, r, b, rfl, t3, by omega, by omega, fun z4 H4 z40 z41 b4 t4 => ⟨_, _, rfl, rfl, sz (show 3 ≤ 16777216 by decide), fun p3 np3 => ?_⟩⟩
        have b04 := b03.trans b4
        have es : (1 : Int) + z4 = ((1 + z4).toNat : Nat) := by omega
        refine k _ b (1 + z4).toNat p3 _ (okForm_of rfl ⟨hb5, hb60⟩ ⟨by omega, by omega⟩ ?_) (b04.trans (But2.of_same (same_new np3))) (town_new t4 np3) (hfree b04 t4 np3) (by rw [← es]; exact upd_same)
        unfold okSizes
        rw [decide_eq_false (show ¬ ((b : Int) < ((1 + z4).toNat : Nat)) by omega), Bool.and_false, Bool.false_or]
        rfl
      · refine iteF ⟨_, rfl, _, _, rfl, rfl, t, r, _, rfl, t3, by omega, by omega, fun z4 H4 z40 z41 b4 t4 => ⟨_, _, rfl, rfl, sz (show 3 ≤ 16777216 by decide), fun p3 np3 => ?_⟩⟩
        have b04 := b03.trans b4
        have es : (1 : Int) + z4 = ((1 + z4).toNat : Nat) := by omega
        refine k _ b (1 + z4).toNat p3 _ (okForm_of rfl ⟨hb5, hb60⟩ ⟨by omega, by omega⟩ ?_) (b04.trans (But2.of_same (same_new np3))) (town_new t4 np3) (hfree b04 t4 np3) (by rw [← es]; exact upd_same)
        unfold okSizes
        rw [decide_eq_false (show ¬ ((b : Int) < ((1 + z4).toNat : Nat) + 3) by omega), Bool.and_false, Bool.or_false]
        rfl
      · exact absurd rfl e
end
end R
set_option maxRecDepth 100000
set_option maxHeartbeats 4000000
namespace R
open PySem PySem.Spec PyProof.Rows L2 RZ
open PySem.W (Datum)
/-! ### the name of a refusal -/
def W14 : List (List Nat) := [[110, 117, 109, 98, 101, 114], [110, 97, 109, 101], [114, 101, 101, 108], [114, 105, 110, 103], [101, 110, 100], [115, 116, 97, 114, 116], [108, 111, 110, 103], [102, 111, 114, 109], [114, 101, 99, 111, 114, 100], [98, 108, 111, 99, 107], [108, 97, 98, 101, 108], [110, 111, 32, 114, 101, 101, 108], [102, 105, 108, 101], [107, 101, 112, 116]]
def bsK (j : Nat) : List Bool := (List.range 14).map fun i => decide (i = j)
theorem bsK_count : ∀ j, j < 14 → (bsK j).count true = 1 := by decide
theorem bsK_at : ∀ j, j < 14 → (bsK j)[j]? = some true ∧ ∀ m, m < j → (bsK j)[m]? = some false := by decide
theorem W14_at : ∀ j, j < 14 → W14[j]? = some (W14.getD j []) := by decide
section
variable {P : Program} {w : World} {K : PySem.W.Frag} {mg : Str → Option Value} {base : Heap}
/-- the class at D is the j-th of the refusals -/
structure IsKind (T : Txt K mg) (D : Addr) (j : Nat) : Prop where
  x : ExcC K D
  k0 : PySem.W.kitOne K (.ref D) (.ref T.BadNumber.C) = some (decide (0 = j))
  k1 : PySem.W.kitOne K (.ref D) (.ref T.BadName.C) = some (decide (1 = j))
  k2 : PySem.W.kitOne K (.ref D) (.ref T.BadReel.C) = some (decide (2 = j))
  k3 : PySem.W.kitOne K (.ref D) (.ref T.NoRing.C) = some (decide (3 = j))
  k4 : PySem.W.kitOne K (.ref D) (.ref T.AtEnd.C) = some (decide (4 = j))
  k5 : PySem.W.kitOne K (.ref D) (.ref T.AtStart.C) = some (decide (5 = j))
  k6 : PySem.W.kitOne K (.ref D) (.ref T.TooLong.C) = some (decide (6 = j))
  k7 : PySem.W.kitOne K (.ref D) (.ref T.BadForm.C) = some (decide (7 = j))
  k8 : PySem.W.kitOne K (.ref D) (.ref T.BadRecord.C) = some (decide (8 = j))
  k9 : PySem.W.kitOne K (.ref D) (.ref T.BadBlock.C) = some (decide (9 = j))
  k10 : PySem.W.kitOne K (.ref D) (.ref T.BadLabel.C) = some (decide (10 = j))
  k11 : PySem.W.kitOne K (.ref D) (.ref T.NoReel.C) = some (decide (11 = j))
  k12 : PySem.W.kitOne K (.ref D) (.ref T.NoFile.C) = some (decide (12 = j))
  k13 : PySem.W.kitOne K (.ref D) (.ref T.Kept.C) = some (decide (13 = j))
  r : PySem.W.kitOne K (.ref D) (.ref T.ReelError.C) = some true
  v : PySem.W.kitOne K (.ref D) (.type "ValueError") = some true
  e : PySem.W.exmOne K (.ref D) (.ref T.ReelError.C) = some true
  lt : j < 14
theorem kind_BadForm (T : Txt K mg) : IsKind T T.BadForm.C 7 := ⟨T.xc_BadForm, T.is_BadForm_BadNumber, T.is_BadForm_BadName, T.is_BadForm_BadReel, T.is_BadForm_NoRing, T.is_BadForm_AtEnd, T.is_BadForm_AtStart, T.is_BadForm_TooLong, T.is_BadForm_BadForm, T.is_BadForm_BadRecord, T.is_BadForm_BadBlock, T.is_BadForm_BadLabel, T.is_BadForm_NoReel, T.is_BadForm_NoFile, T.is_BadForm_Kept, T.is_BadForm_ReelError, T.iv_BadForm, T.em_BadForm, by decide⟩
theorem kind_BadBlock (T : Txt K mg) : IsKind T T.BadBlock.C 9 := ⟨T.xc_BadBlock, T.is_BadBlock_BadNumber, T.is_BadBlock_BadName, T.is_BadBlock_BadReel, T.is_BadBlock_NoRing, T.is_BadBlock_AtEnd, T.is_BadBlock_AtStart, T.is_BadBlock_TooLong, T.is_BadBlock_BadForm, T.is_BadBlock_BadRecord, T.is_BadBlock_BadBlock, T.is_BadBlock_BadLabel, T.is_BadBlock_NoReel, T.is_BadBlock_NoFile, T.is_BadBlock_Kept, T.is_BadBlock_ReelError, T.iv_BadBlock, T.em_BadBlock, by decide⟩
def sp__law_refusal (T : Txt K mg) : Sp := fun vs H Q _ => ∃ (a D : Addr) (j : Nat), vs = [.ref a] ∧ H a = some (KeptE D a) ∧ IsKind T D j ∧ ∀ H', Same H H' → Q (.str (S (W14.getD j []))) H'
theorem ok__law_refusal (T : Txt K mg) : FnOk P w K mg base (L2.CX P w) 1 T._law_refusal.a T._law_refusal.d ["_law_caught"] (sp__law_refusal T) := by
  refine T._law_refusal.F.okX sc__law_refusal (fun vs H Q E h => ?_) (fun cdv A outer s0 H vs Q E hr h => ?_)
  · obtain ⟨a, D, j, rfl, _⟩ := h
    rfl
  · obtain ⟨a, D, j, rfl, ha, hk, k⟩ := h
    refine ⟨_, (pss_cons (ps_set (i := 1) sc__law_refusal.nd rfl (.inl rfl) (pe_lst (pa_cons (pe_callB call_isK (by rfl) T.z_isinstance (by decide +kernel) (pa_cons (pv 0) (pa_cons (pe_glob (v := .ref T.BadNumber.C) rfl T.BadNumber.g rfl) pa_nil))) (pa_cons (pe_callB call_isK (by rfl) T.z_isinstance (by decide +kernel) (pa_cons (pv 0) (pa_cons (pe_glob (v := .ref T.BadName.C) rfl T.BadName.g rfl) pa_nil))) (pa_cons (pe_callB call_isK (by rfl) T.z_isinstance (by decide +kernel) (pa_cons (pv 0) (pa_cons (pe_glob (v := .ref T.BadReel.C) rfl T.BadReel.g rfl) pa_nil))) pa_nil)))))
    (pss_cons (ps_set (i := 1) sc__law_refusal.nd rfl (.inl rfl) (pe_op op_cat (pv 1) (pe_lst (pa_cons (pe_callB call_isK (by rfl) T.z_isinstance (by decide +kernel) (pa_cons (pv 0) (pa_cons (pe_glob (v := .ref T.NoRing.C) rfl T.NoRing.g rfl) pa_nil))) (pa_cons (pe_callB call_isK (by rfl) T.z_isinstance (by decide +kernel) (pa_cons (pv 0) (pa_cons (pe_glob (v := .ref T.AtEnd.C) rfl T.AtEnd.g rfl) pa_nil))) (pa_cons (pe_callB call_isK (by rfl) T.z_isinstance (by decide +kernel) (pa_cons (pv 0) (pa_cons (pe_glob (v := .ref T.AtStart.C) rfl T.AtStart.g rfl) pa_nil))) pa_nil))))))
    (pss_cons (ps_set (i := 1) sc__law_refusal.nd rfl (.inl rfl) (pe_op op_cat (pv 1) (pe_lst (pa_cons (pe_callB call_isK (by rfl) T.z_isinstance (by decide +kernel) (pa_cons (pv 0) (pa_cons (pe_glob (v := .ref T.TooLong.C) rfl T.TooLong.g rfl) pa_nil))) (pa_cons (pe_callB call_isK (by rfl) T.z_isinstance (by decide +kernel) (pa_cons (pv 0) (pa_cons (pe_glob (v := .ref T.BadForm.C) rfl T.BadForm.g rfl) pa_nil))) (pa_cons (pe_callB call_isK (by rfl) T.z_isinstance (by decide +kernel) (pa_cons (pv 0) (pa_cons (pe_glob (v := .ref T.BadRecord.C) rfl T.BadRecord.g rfl) pa_nil))) pa_nil))))))
    (pss_cons (ps_set (i := 1) sc__law_refusal.nd rfl (.inl rfl) (pe_op op_cat (pv 1) (pe_lst (pa_cons (pe_callB call_isK (by rfl) T.z_isinstance (by decide +kernel) (pa_cons (pv 0) (pa_cons (pe_glob (v := .ref T.BadBlock.C) rfl T.BadBlock.g rfl) pa_nil))) (pa_cons (pe_callB call_isK (by rfl) T.z_isinstance (by decide +kernel) (pa_cons (pv 0) (pa_cons (pe_glob (v := .ref T.BadLabel.C) rfl T.BadLabel.g rfl) pa_nil))) (pa_cons (pe_callB call_isK (by rfl) T.z_isinstance (by decide +kernel) (pa_cons (pv 0) (pa_cons (pe_glob (v := .ref T.NoReel.C) rfl T.NoReel.g rfl) pa_nil))) pa_nil))))))
    (pss_cons (ps_set (i := 1) sc__law_refusal.nd rfl (.inl rfl) (pe_op op_cat (pv 1) (pe_lst (pa_cons (pe_callB call_isK (by rfl) T.z_isinstance (by decide +kernel) (pa_cons (pv 0) (pa_cons (pe_glob (v := .ref T.NoFile.C) rfl T.NoFile.g rfl) pa_nil))) (pa_cons (pe_callB call_isK (by rfl) T.z_isinstance (by decide +kernel) (pa_cons (pv 0) (pa_cons (pe_glob (v := .ref T.Kept.C) rfl T.Kept.g rfl) pa_nil))) pa_nil)))))
    (pss_cons (ps_if (PW.pt (pw_or (pt_cmpR op_ne (pe_bm PySem.F.plainAttrs_list PySem.F.slot_list_count PySem.F.type_list_count mt_cntB (pv 1) (pa_cons pe_bl pa_nil)) pe_int (nomark _)) (pw_or (pt_not (pt_val (pe_callB call_isK (by rfl) T.z_isinstance (by decide +kernel) (pa_cons (pv 0) (pa_cons (pe_glob (v := .ref T.ReelError.C) rfl T.ReelError.g rfl) pa_nil))))) (pw_or1 (pt_not (pt_val (pe_callB call_isK (by rfl) T.z_isinstance (by decide +kernel) (pa_cons (pv 0) (pa_cons (pe_bltn (v := .ty "ValueError") (by rfl) T.z_ValueError (by decide +kernel) rfl) pa_nil)))))))))
      (pss_one (ps_ret (pe_strS (l := [111, 100, 100]) (by decide +kernel))))
      pss_nil)
    (pss_cons (ps_set (i := 2) sc__law_refusal.nd rfl (.inl rfl) (pe_lst (pa_cons (pe_strS (l := [110, 117, 109, 98, 101, 114]) (by decide +kernel)) (pa_cons (pe_strS (l := [110, 97, 109, 101]) (by decide +kernel)) (pa_cons (pe_strS (l := [114, 101, 101, 108]) (by decide +kernel)) (pa_cons (pe_strS (l := [114, 105, 110, 103]) (by decide +kernel)) (pa_cons (pe_strS (l := [101, 110, 100]) (by decide +kernel)) (pa_cons (pe_strS (l := [115, 116, 97, 114, 116]) (by decide +kernel)) (pa_cons (pe_strS (l := [108, 111, 110, 103]) (by decide +kernel)) (pa_cons (pe_strS (l := [102, 111, 114, 109]) (by decide +kernel)) (pa_cons (pe_strS (l := [114, 101, 99, 111, 114, 100]) (by decide +kernel)) (pa_cons (pe_strS (l := [98, 108, 111, 99, 107]) (by decide +kernel)) (pa_cons (pe_strS (l := [108, 97, 98, 101, 108]) (by decide +kernel)) (pa_cons (pe_strS (l := [110, 111, 32, 114, 101, 101, 108]) (by decide +kernel)) pa_nil))))))))))))))
    (pss_one (ps_ret (pe_ix ix_list (pe_op op_cat (pv 2) (pe_lst (pa_cons (pe_strS (l := [102, 105, 108, 101]) (by decide +kernel)) (pa_cons (pe_strS (l := [107, 101, 112, 116]) (by decide +kernel)) pa_nil)))) (pe_bm PySem.F.plainAttrs_list PySem.F.slot_list_index PySem.F.type_list_index mt_index (pv 1) (pa_cons pe_bl pa_nil)) (fun _ _ => rfl))))))))))), ?_⟩
    refine ⟨_, rfl, a, D, _, _, _, rfl, ha, hk.x, fun _ h => h, hk.k0, _, rfl, a, D, _, _, _, rfl, ha, hk.x, fun _ h => h, hk.k1, _, rfl, a, D, _, _, _, rfl, ha, hk.x, fun _ h => h, hk.k2, sz (show 3 ≤ 16777216 by decide), fun p1 n1 => ?_⟩
    have s1 := same_new (o := .lst ([.bl (decide (0 = j)), .bl (decide (1 = j)), .bl (decide (2 = j))] : List V)) n1
    refine ⟨_, rfl, _, rfl, a, D, _, _, _, rfl, (s1 _ _ ha), hk.x, fun _ h => h, hk.k3, _, rfl, a, D, _, _, _, rfl, (s1 _ _ ha), hk.x, fun _ h => h, hk.k4, _, rfl, a, D, _, _, _, rfl, (s1 _ _ ha), hk.x, fun _ h => h, hk.k5, sz (show 3 ≤ 16777216 by decide), fun q0 mq0 => ?_⟩
    have tq0 := same_new (o := .lst ([.bl (decide (3 = j)), .bl (decide (4 = j)), .bl (decide (5 = j))] : List V)) mq0
    refine ⟨p1, q0, _, _, rfl, rfl, tq0 _ _ upd_same, upd_same, sz (show 6 ≤ 16777216 by decide), fun r0 mr0 => ?_⟩
    have tr0 := (s1.trans tq0).trans (same_new (o := .lst (([.bl (decide (0 = j)), .bl (decide (1 = j)), .bl (decide (2 = j))] : List V) ++ ([.bl (decide (3 = j)), .bl (decide (4 = j)), .bl (decide (5 = j))] : List V))) mr0)
    refine ⟨_, rfl, _, rfl, a, D, _, _, _, rfl, (tr0 _ _ ha), hk.x, fun _ h => h, hk.k6, _, rfl, a, D, _, _, _, rfl, (tr0 _ _ ha), hk.x, fun _ h => h, hk.k7, _, rfl, a, D, _, _, _, rfl, (tr0 _ _ ha), hk.x, fun _ h => h, hk.k8, sz (show 3 ≤ 16777216 by decide), fun q1 mq1 => ?_⟩
    have tq1 := same_new (o := .lst ([.bl (decide (6 = j)), .bl (decide (7 = j)), .bl (decide (8 = j))] : List V)) mq1
    refine ⟨r0, q1, _, _, rfl, rfl, tq1 _ _ upd_same, upd_same, sz (show 9 ≤ 16777216 by decide), fun r1 mr1 => ?_⟩
    have tr1 := (tr0.trans tq1).trans (same_new (o := .lst ((([.bl (decide (0 = j)), .bl (decide (1 = j)), .bl (decide (2 = j))] : List V) ++ ([.bl (decide (3 = j)), .bl (decide (4 = j)), .bl (decide (5 = j))] : List V)) ++ ([.bl (decide (6 = j)), .bl (decide (7 = j)), .bl (decide (8 = j))] : List V))) mr1)
    refine ⟨_, rfl, _, rfl, a, D, _, _, _, rfl, (tr1 _ _ ha), hk.x, fun _ h => h, hk.k9, _, rfl, a, D, _, _, _, rfl, (tr1 _ _ ha), hk.x, fun _ h => h, hk.k10, _, rfl, a, D, _, _, _, rfl, (tr1 _ _ ha), hk.x, fun _ h => h, hk.k11, sz (show 3 ≤ 16777216 by decide), fun q2 mq2 => ?_⟩
    have tq2 := same_new (o := .lst ([.bl (decide (9 = j)), .bl (decide (10 = j)), .bl (decide (11 = j))] : List V)) mq2
    refine ⟨r1, q2, _, _, rfl, rfl, tq2 _ _ upd_same, upd_same, sz (show 12 ≤ 16777216 by decide), fun r2 mr2 => ?_⟩
    have tr2 := (tr1.trans tq2).trans (same_new (o := .lst (((([.bl (decide (0 = j)), .bl (decide (1 = j)), .bl (decide (2 = j))] : List V) ++ ([.bl (decide (3 = j)), .bl (decide (4 = j)), .bl (decide (5 = j))] : List V)) ++ ([.bl (decide (6 = j)), .bl (decide (7 = j)), .bl (decide (8 = j))] : List V)) ++ ([.bl (decide (9 = j)), .bl (decide (10 = j)), .bl (decide (11 = j))] : List V))) mr2)
    refine ⟨_, rfl, _, rfl, a, D, _, _, _, rfl, (tr2 _ _ ha), hk.x, fun _ h => h, hk.k12, _, rfl, a, D, _, _, _, rfl, (tr2 _ _ ha), hk.x, fun _ h => h, hk.k13, sz (show 2 ≤ 16777216 by decide), fun q3 mq3 => ?_⟩
    have tq3 := same_new (o := .lst ([.bl (decide (12 = j)), .bl (decide (13 = j))] : List V)) mq3
    refine ⟨r2, q3, _, _, rfl, rfl, tq3 _ _ upd_same, upd_same, sz (show 14 ≤ 16777216 by decide), fun r3 mr3 => ?_⟩
    have tr3 := (tr2.trans tq3).trans (same_new (o := .lst ((((([.bl (decide (0 = j)), .bl (decide (1 = j)), .bl (decide (2 = j))] : List V) ++ ([.bl (decide (3 = j)), .bl (decide (4 = j)), .bl (decide (5 = j))] : List V)) ++ ([.bl (decide (6 = j)), .bl (decide (7 = j)), .bl (decide (8 = j))] : List V)) ++ ([.bl (decide (9 = j)), .bl (decide (10 = j)), .bl (decide (11 = j))] : List V)) ++ ([.bl (decide (12 = j)), .bl (decide (13 = j))] : List V))) mr3)
    have hl : ∀ {H' : Hp}, H' r3 = some (.lst ((((([.bl (decide (0 = j)), .bl (decide (1 = j)), .bl (decide (2 = j))] : List V) ++ ([.bl (decide (3 = j)), .bl (decide (4 = j)), .bl (decide (5 = j))] : List V)) ++ ([.bl (decide (6 = j)), .bl (decide (7 = j)), .bl (decide (8 = j))] : List V)) ++ ([.bl (decide (9 = j)), .bl (decide (10 = j)), .bl (decide (11 = j))] : List V)) ++ ([.bl (decide (12 = j)), .bl (decide (13 = j))] : List V))) → SqL K H' r3 ((bsK j).map V.bl) := fun {H'} h => SqL.of h
    have hc := bsK_count j hk.lt
    refine ⟨_, rfl, .inl ⟨rfl, _, hl upd_same⟩, r3, bsK j, rfl, rfl, hl upd_same, rfl, _, rfl, ?_⟩
    rw [hc]
    refine iteF ⟨_, rfl, a, D, _, _, _, rfl, (tr3 _ _ ha), hk.x, fun _ h => h, hk.r, _, rfl, iteF ⟨_, rfl, a, D, _, _, _, rfl, (tr3 _ _ ha), hk.x, fun _ h => h, hk.v, _, rfl, iteF ?_⟩⟩
    refine ⟨sz (by decide), fun pw nw => ?_⟩
    have u1 := same_new (o := .lst (txs (W14.take 12))) nw
    refine ⟨_, rfl, sz (by decide), fun pf nf => ⟨pw, pf, txs (W14.take 12), txs (W14.drop 12), rfl, rfl, (same_new nf _ _ upd_same), upd_same, sz (by decide), fun pc nc => ?_⟩⟩
    have u2 := (u1.trans (same_new (o := .lst (txs (W14.drop 12))) nf)).trans (same_new (o := .lst (txs (W14.take 12) ++ txs (W14.drop 12))) nc)
    obtain ⟨z1, z2⟩ := bsK_at j hk.lt
    refine ⟨_, rfl, .inl ⟨rfl, _, hl (u2 _ _ upd_same)⟩, r3, _, _, j, .bl true, rfl, rfl, hl (u2 _ _ upd_same), rfl, flat_bls _, by rw [List.getElem?_map, z1]; rfl, rfl, fun m z' hm hz => ?_, ?_⟩
    · rw [List.getElem?_map, z2 m hm] at hz
      cases hz
      rfl
    · refine ⟨pc, _, _, _, rfl, rfl, SqL.of upd_same, at_of (j := j) rfl (show (txs W14)[j]? = _ by rw [show txs W14 = W14.map (fun l => V.str (S l)) from rfl, List.getElem?_map, W14_at j hk.lt]; rfl), ?_⟩
      exact k _ (tr3.trans u2)
end
end R
set_option maxRecDepth 100000
set_option maxHeartbeats 4000000
namespace R
open PySem PySem.Spec PyProof.Rows L2 RZ
open PySem.W (Datum)
open PySem.NumText
/-- the signs of a text -/
def txt (x : V) : List Nat := match x with
  | .str z => z.cps.toList
  | _ => []
theorem txt_S (l : List Nat) : txt (.str (S l)) = l := S_cps l
theorem nameL_len {l : List Nat} {m : Nat} (h : nameL l m = true) : 1 ≤ l.length ∧ l.length ≤ m := by
  unfold nameL at h
  rw [Bool.and_eq_true, Bool.and_eq_true, decide_eq_true_eq, decide_eq_true_eq] at h
  omega
theorem isName_of {x : V} {m : Nat} (h : isName x m = true) : ∃ l, x = .str (S l) ∧ nameL l m = true := by
  cases x with
  | str z =>
    obtain ⟨l, rfl⟩ : ∃ l, z = S l := ⟨_, S_of z⟩
    rw [isName_S] at h
    exact ⟨l, rfl, h⟩
  | _ => exact nomatch h
def isDig (c : Nat) : Bool := decide (c ∈ ([48, 49, 50, 51, 52, 53, 54, 55, 56, 57] : List Nat))
theorem isDig_iff (c : Nat) : isDig c = true ↔ 48 ≤ c ∧ c ≤ 57 := by
  unfold isDig
  rw [decide_eq_true_eq]
  constructor
  · intro h
    simp only [List.mem_cons, List.not_mem_nil, or_false] at h
    omega
  · intro h
    obtain ⟨k, rfl⟩ : ∃ k, c = 48 + k := ⟨c - 48, by omega⟩
    have : ∀ k, k < 10 → (48 + k) ∈ ([48, 49, 50, 51, 52, 53, 54, 55, 56, 57] : List Nat) := by decide
    exact this k (by omega)
theorem allDig {l : List Nat} (h : l.all isDig = true) : ∀ c ∈ l, 48 ≤ c ∧ c ≤ 57 := fun c hc => (isDig_iff c).mp (List.all_eq_true.mp h c hc)
/-! ### what is read -/
def readVol (l : List Nat) : Option (List Nat × List Nat) :=
  if l.length = 18 ∧ l.take 4 = [86, 79, 76, 49] then
    (if nameL (bareL ((l.take 10).drop 4)) 8 = true ∧ nameL (bareL (l.drop 10)) 8 = true then some (bareL ((l.take 10).drop 4), bareL (l.drop 10)) else none)
  else none
section
variable {P : Program} {w : World} {K : PySem.W.Frag} {mg : Str → Option Value} {base : Heap}
end
end R
set_option maxRecDepth 100000
set_option maxHeartbeats 4000000
namespace R
open PySem PySem.Spec PyProof.Rows L2 RZ
open PySem.W (Datum)
def prnt (l : List Nat) : Bool := l.all fun c => decide (32 ≤ c) && decide (c ≤ 126)
def okRec (f : List Nat) (s : Int) : Option (List Nat) → Bool
  | none => false
  | some l => prnt l && !(decide (s < (l.length : Int)) || (decide (f = [70]) && decide ((l.length : Int) < s)))
def okRecs (f : List Nat) (s : Int) : Option (List (Option (List Nat))) → Bool
  | none => false
  | some rs => rs.all (okRec f s)
theorem lt_one (a b : Nat) : ([a] < [b]) ↔ a < b := by
  rw [List.cons_lt_cons_iff]
  exact ⟨fun h => h.elim id fun h => absurd h.2 (List.not_lt_nil _), .inl⟩
/-- the blocks that parts make: each in the block that is begun, as long as it has room -/
def fillStep (b : Int) (acc : List (List Nat)) (p : List Nat) : List (List Nat) :=
  match acc.getLast? with
  | none => acc ++ [p]
  | some l => if (l.length : Int) + p.length ≤ b then acc.dropLast ++ [l ++ p] else acc ++ [p]
def fill (b : Int) (ps : List (List Nat)) : List (List Nat) := ps.foldl (fillStep b) []
theorem fillStep_len (b : Int) (acc : List (List Nat)) (p : List Nat) : (fillStep b acc p).length ≤ acc.length + 1 := by
  unfold fillStep
  split
  · simp
  · split
    · rw [List.length_append, List.length_dropLast, List.length_singleton]; omega
    · simp
theorem fold_len (b : Int) : ∀ (ps acc : List (List Nat)), (ps.foldl (fillStep b) acc).length ≤ acc.length + ps.length
  | [], acc => by simp
  | p :: ps, acc => by
    rw [List.foldl_cons]
    have h1 := fold_len b ps (fillStep b acc p)
    have h2 := fillStep_len b acc p
    rw [List.length_cons]
    omega
theorem fill_take (b : Int) (ps : List (List Nat)) {i : Nat} {p : List Nat} (h : ps[i]? = some p) : fill b (ps.take (i + 1)) = fillStep b (fill b (ps.take i)) p := by
  unfold fill
  rw [List.take_add_one, h, Option.toList_some, List.foldl_append]
  rfl
theorem fill_all (b : Int) (hb : b < 1000000) : ∀ (ps acc : List (List Nat)), (∀ p ∈ ps, p.length < 1000000) → (∀ l ∈ acc, l.length < 1000000) → ∀ l ∈ ps.foldl (fillStep b) acc, l.length < 1000000
  | [], acc, _, h2, l, hl => h2 l hl
  | p :: ps, acc, h1, h2, l, hl => by
    rw [List.foldl_cons] at hl
    refine fill_all b hb ps _ (fun q hq => h1 q (List.mem_cons_of_mem _ hq)) (fun m hm => ?_) l hl
    have hp := h1 p List.mem_cons_self
    unfold fillStep at hm
    split at hm
    · rcases List.mem_append.mp hm with hm | hm
      · exact h2 m hm
      · rw [List.mem_singleton.mp hm]; exact hp
    · split at hm
      · rename_i l' _ hle
        rcases List.mem_append.mp hm with hm | hm
        · exact h2 m (List.dropLast_subset _ hm)
        · rw [List.mem_singleton.mp hm, List.length_append]; omega
      · rcases List.mem_append.mp hm with hm | hm
        · exact h2 m hm
        · rw [List.mem_singleton.mp hm]; exact hp
theorem snoc_cases {α : Type} (xs : List α) : xs = [] ∨ ∃ ys y, xs = ys ++ [y] := by
  cases h : xs.getLast? with
  | none => exact .inl (List.getLast?_eq_none_iff.mp h)
  | some y =>
    obtain ⟨ys, e⟩ := List.getLast?_eq_some_iff.mp h
    exact .inr ⟨ys, y, e⟩
theorem fillStep_nil (b : Int) (p : List Nat) : fillStep b [] p = [p] := rfl
theorem fillStep_snoc (b : Int) (ys : List (List Nat)) (l p : List Nat) : fillStep b (ys ++ [l]) p = if (l.length : Int) + p.length ≤ b then ys ++ [l ++ p] else ys ++ [l] ++ [p] := by
  unfold fillStep
  rw [List.getLast?_concat]
  dsimp only
  rw [List.dropLast_concat]
/-- the number of three figures ahead -/
def lenIn (t : List Nat) : Option Nat := if (t.take 3).length = 3 ∧ (t.take 3).all isDig = true then some (PySem.NumText.digitsVal (t.take 3)) else none
section
variable {P : Program} {w : World} {K : PySem.W.Frag} {mg : Str → Option Value} {base : Heap}
def sp_look_records (K : PySem.W.Frag) (CB : Addr) : Sp := fun vs H Q E => ∃ (v : V) (r : Option (List (Option (List Nat)))) (f : List Nat) (s : Int), vs = [v, .str (S f), .int s] ∧ Recs K H v r ∧ (okRecs f s r = true → ∀ H', Same H H' → Q .non H') ∧ (okRecs f s r = false → ∀ H', Same H H' → E (.ref CB) none H')
theorem ok_look_records (T : Txt K mg) : FnOk P w K mg base (L2.CX P w) 1 T.look_records.a T.look_records.d ["records", "form", "size"] (sp_look_records K T.BadRecord.C) := by
  refine T.look_records.F.okX sc_look_records (fun vs H Q E h => ?_) (fun cdv A outer s0 H vs Q E hr h => ?_)
  · obtain ⟨v, r, f, s, rfl, _⟩ := h
    rfl
  · obtain ⟨v, r, f, s, rfl, hR, k1, k2⟩ := h
    refine ⟨_, (pss_cons (ps_if (pt_not (pt_val (pe_callB call_isi (by rfl) T.z_isinstance (by decide +kernel) (pa_cons (pv 0) (pa_cons (pe_bltn (v := .ty "list") (by rfl) T.z_list (by decide +kernel) rfl) pa_nil)))))
      (pss_one (ps_raise rfl (takes_of rfl rfl rfl rfl) (pmk_own PySem.F.excBase_ValueError T.BadRecord.x T.BadRecord.g T.BadRecord.k (raises_own T.BadRecord.b T.BadRecord.t) (by exact rfl))))
      pss_nil)
    (pss_one (ps_for (passes_of rfl) rfl
      (pi_list (pv 0)) (pg_name (i := 3) sc_look_records.nd rfl (.inl rfl))
      (pss_cons (ps_if (PW.pt (pw_or (pt_not (pt_val (pe_callB call_isi (by rfl) T.z_isinstance (by decide +kernel) (pa_cons (pv 3) (pa_cons (pe_bltn (v := .ty "str") (by rfl) T.z_str (by decide +kernel) rfl) pa_nil))))) (pw_or1 (pt_not (pt_val (pe_callB (cr_all rfl) (by rfl) T.z_all (by decide +kernel) (pa_cons (pe_lc (own := [("sign", 4)]) (g := gName 4) rfl sc_look_records.nd (pi_str (pv 3)) (blkOk_by (N := N_look_records) (sc := defScope s_look_records) (by decide +kernel)) (fun _ _ _ _ _ => (pg_name (i := 4) sc_look_records.nd rfl (.inl rfl))) (fun _ _ _ _ _ => pts_nil) (fun _ _ _ _ _ => (pe_chain op_leS op_leS (pe_strS (l := [32]) (by decide +kernel)) (pv 4) (pe_strS (l := [126]) (by decide +kernel))))) pa_nil)))))))
        (pss_one (ps_raise rfl (takes_of rfl rfl rfl rfl) (pmk_own PySem.F.excBase_ValueError T.BadRecord.x T.BadRecord.g T.BadRecord.k (raises_own T.BadRecord.b T.BadRecord.t) (by exact rfl))))
        pss_nil)
      (pss_one (ps_if (PW.pt (pw_or (pt_cmpR op_gt (pe_callB call_lenS (by rfl) T.z_len PySem.boot_len (pa_cons (pv 3) pa_nil)) (pv 2) (nomark _)) (pw_or1 (PW.pt (pw_and (pt_cmpR op_eqS (pv 1) (pe_glob (v := .str (S [70])) rfl T.FIXED.g ⟨_, rfl⟩) (nomark _)) (pw_and1 (pt_cmpR op_lt (pe_callB call_lenS (by rfl) T.z_len PySem.boot_len (pa_cons (pv 3) pa_nil)) (pv 2) (nomark _))))))))
        (pss_one (ps_raise rfl (takes_of rfl rfl rfl rfl) (pmk_own PySem.F.excBase_ValueError T.BadRecord.x T.BadRecord.g T.BadRecord.k (raises_own T.BadRecord.b T.BadRecord.t) (by exact rfl))))
        pss_nil)))))), ?_⟩
    obtain ⟨n, hn, hl⟩ := hR.pl
    refine ⟨_, rfl, _, _, _, _, _, rfl, .ty _, hn.ty, kit_list hn, _, rfl, ?_⟩
    rw [hl]
    cases hR with
    | no h hn => exact iteT (k2 rfl _ (Same.refl _))
    | lst hS hi hz =>
      rename_i a xs rs
      refine iteF ?_
      refine ⟨_, rfl, a, rfl, ⟨_, hS⟩, for_it (walk_list (xs := xs)) (fun i σ H' => Same H H' ∧ (rs.take i).all (okRec f s) = true ∧ ∃ o, σ = [some (.ref a), some (.str (S f)), some (.int s), o, none]) ⟨Same.refl _, rfl, none, rfl⟩ (fun i σ H' _ h => sql_same hS h.1) ?_ ?_⟩
      · rintro i x σ H1 H2 hlt ⟨sm, ha, o, rfl⟩ ⟨rfl, hx⟩
        obtain ⟨r, hr, hI⟩ := hi.get hx
        have hI1 := hI.same sm
        obtain ⟨n1, hn1, hl1⟩ := hI1.pl
        have bad : okRec f s r = false → okRecs f s (some rs) = false := fun e => by
          show rs.all _ = false
          cases hb : rs.all (okRec f s) with
          | false => rfl
          | true => rw [List.all_eq_true] at hb; rw [hb r (List.mem_of_getElem? hr)] at e; cases e
        refine ⟨_, rfl, _, _, _, _, _, rfl, .ty _, hn1.ty, kit_str hn1, _, rfl, ?_⟩
        rw [hl1]
        cases hI1 with
        | no h hn => exact iteT (iteT (k2 (bad rfl) _ sm))
        | str l hz =>
          refine iteF ?_
          refine ⟨_, rfl, _, rfl, fun D nD => lc_signs (z := S l) (fun c => decide (32 ≤ c) && decide (c ≤ 126)) (by rw [S_len]; exact hz) nD (fun _ => rfl) (fun c H' hc s1 Q2 q2 => ?_) (fun H' s1 hD => ?_)⟩
          · refine ⟨_, rfl, [32], [c], rfl, rfl, _, rfl, ?_⟩
            rw [show (!decide ([c] < [32])) = decide (32 ≤ c) by rw [show decide ([c] < [32]) = decide (c < 32) from decide_eq_decide.mpr (lt_one _ _)]; rw [Bool.eq_iff_iff]; simp]
            refine iteD (fun e => ?_) (fun e => ?_)
            · refine ⟨[c], [126], rfl, rfl, ?_⟩
              have := q2 _ (Same.refl _)
              rw [decide_eq_true e, Bool.true_and] at this
              rw [show (!decide ([126] < [c])) = decide (c ≤ 126) by rw [show decide ([126] < [c]) = decide (126 < c) from decide_eq_decide.mpr (lt_one _ _)]; rw [Bool.eq_iff_iff]; simp]
              exact this
            · have := q2 _ (Same.refl _)
              rw [decide_eq_false e, Bool.false_and] at this
              exact this
          · have s2 := sm.trans s1
            refine ⟨_, _, rfl, SqL.of hD, _, rfl, ?_⟩
            rw [all_id_map, S_cps]
            refine iteNB (fun e => k2 (bad ?_) _ s2) (fun e => ?_)
            · show (prnt l && _) = false
              rw [show prnt l = false from e]; rfl
            · refine ⟨_, rfl, _, rfl, by omega, _, rfl, _, _, rfl, rfl, _, rfl, iteD (fun e2 => ?_) (fun e2 => ?_)⟩
              · refine iteT (k2 (bad ?_) _ s2)
                show (_ && !(decide _ || _)) = false
                rw [decide_eq_true e2]; simp
              · refine ⟨_, rfl, _, _, rfl, rfl, _, rfl, iteD (fun e3 => ?_) (fun e3 => ?_)⟩
                · refine ⟨_, rfl, _, rfl, by omega, _, rfl, _, _, rfl, rfl, _, rfl, iteD (fun e4 => ?_) (fun e4 => ?_)⟩
                  · refine k2 (bad ?_) _ s2
                    show (_ && !(_ || (decide _ && decide _))) = false
                    rw [decide_eq_true e3, decide_eq_true e4]; simp
                  · refine ⟨s2, ?_, _, rfl⟩
                    rw [List.take_add_one, hr, List.all_append, ha]
                    show (true && (okRec f s (some l) && true)) = true
                    show (true && ((prnt l && !(decide _ || (decide _ && decide _))) && true)) = true
                    rw [show prnt l = true from e, decide_eq_false e2, decide_eq_false e4]; simp
                · refine ⟨s2, ?_, _, rfl⟩
                  rw [List.take_add_one, hr, List.all_append, ha]
                  show (true && ((prnt l && !(decide _ || (decide _ && decide _))) && true)) = true
                  rw [show prnt l = true from e, decide_eq_false e2, decide_eq_false e3]; simp
      · rintro σ H' ⟨sm, ha, _⟩
        rw [hi.len, List.take_length] at ha
        exact k1 ha _ sm
def sp_filled (K : PySem.W.Frag) : Sp := fun vs H Q _ => ∃ (a : Addr) (ps : List (List Nat)) (b : Int), vs = [.ref a, .int b] ∧ SqL K H a (txs ps) ∧ ps.length < 16777216 ∧ (∀ p ∈ ps, p.length < 1000000) ∧ b < 1000000 ∧ ∀ q H', Grow H q H' (txs (fill b ps)) → Q (.ref q) H'
theorem ok_filled (T : Txt K mg) : FnOk P w K mg base (L2.CX P w) 1 T.filled.a T.filled.d ["parts", "block"] (sp_filled K) := by
  refine T.filled.F.okX sc_filled (fun vs H Q E h => ?_) (fun cdv A outer s0 H vs Q E hr h => ?_)
  · obtain ⟨a, ps, b, rfl, _⟩ := h
    rfl
  · obtain ⟨a, ps, b, rfl, hS, hz, hp, hb, k⟩ := h
    refine ⟨_, (pss_cons (ps_set (i := 2) sc_filled.nd rfl (.inl rfl) (pe_lst pa_nil))
    (pss_cons (ps_for (passes_of rfl) rfl
      (pi_list (pv 0)) (pg_name (i := 3) sc_filled.nd rfl (.inl rfl))
      (pss_one (ps_if (PW.pt (pw_and (pt_cmpR (op_neP hr.units) (pv 2) (pe_lst pa_nil) (nomark _)) (pw_and1 (pt_cmpR op_le (pe_op op_add (pe_callB call_lenS (by rfl) T.z_len PySem.boot_len (pa_cons (pe_ix ix_list (pv 2) (pe_un un_neg pe_int) (fun _ _ => rfl)) pa_nil)) (pe_callB call_lenS (by rfl) T.z_len PySem.boot_len (pa_cons (pv 3) pa_nil))) (pv 1) (nomark _)))))
        (pss_one (ps_augL (pv 2) (pe_un un_neg pe_int) (pv 3) ip_addS))
        (pss_one (ps_expr (pe_bm PySem.F.plainAttrs_list PySem.F.slot_list_append PySem.F.type_list_append mt_append (pv 2) (pa_cons (pv 3) pa_nil)))))))
    (pss_one (ps_ret (pv 2))))), ?_⟩
    refine ⟨sz (by decide), fun q nq => ?_⟩
    refine ⟨_, rfl, a, rfl, ⟨_, sql_same hS (same_new nq)⟩, for_it (walk_list (xs := txs ps)) (fun i σ H' => Grow H q H' (txs (fill b (ps.take i))) ∧ ∃ o, σ = [some (.ref a), some (.int b), some (.ref q), o]) ⟨.start nq, none, rfl⟩ (fun i σ H' _ h => sql_same hS h.1.2.1) ?_ ?_⟩
    · rintro i x σ H1 H2 hlt ⟨g, o, rfl⟩ ⟨rfl, hx⟩
      obtain ⟨p, hpi, rfl⟩ := strs_get hx
      have hpm := hp p (List.mem_of_getElem? hpi)
      rw [strs_len] at hlt
      have hfl : (fill b (ps.take i)).length ≤ i := by
        have := fold_len b (ps.take i) []
        rw [List.length_take, List.length_nil] at this
        unfold fill
        omega
      have hfa : ∀ l ∈ fill b (ps.take i), l.length < 1000000 := fill_all b hb _ [] (fun q hq => hp q (List.mem_of_mem_take hq)) (fun l hl => by cases hl)
      have nxt := fill_take b ps hpi
      generalize hF : fill b (ps.take i) = F at g hfl hfa nxt
      refine ⟨_, rfl, sz (by decide), fun e ne => ?_⟩
      have g1 := g.new (o := .lst []) ne
      refine ne_strs (ls := F) (ms := []) (SqL.of g1.2.2) (SqL.of upd_same) ⟨_, rfl, iteN (fun en => ?_) (fun en => ?_)⟩
      · rcases snoc_cases F with rfl | ⟨G, l, rfl⟩
        · exact absurd rfl en
        · have hl := hfa l (List.mem_append_right _ List.mem_cons_self)
          have at1 : atI (txs (G ++ [l])) (-1) = some (.str (S l)) := by rw [strs_app]; exact atI_last _ _
          rw [fillStep_snoc] at nxt
          refine ⟨_, rfl, _, rfl, q, _, _, _, rfl, rfl, SqL.of g1.2.2, at1, l, rfl, by omega, _, rfl, p, rfl, by omega, _, _, rfl, rfl, _, rfl, _, _, rfl, rfl, _, rfl, iteD (fun e2 => ?_) (fun e2 => ?_)⟩
          · rw [if_pos e2] at nxt
            refine ⟨_, rfl, _, rfl, q, _, _, _, rfl, rfl, SqL.of g1.2.2, at1, _, rfl, l, p, rfl, rfl, by omega, q, _, _, (txs G).length, rfl, rfl, g1.2.2, ?_, ?_⟩
            · rw [strs_app]; exact ixN_last _ _
            · refine ⟨?_, _, rfl⟩
              rw [nxt]
              have es : (txs (G ++ [l])).set (txs G).length (.str (S (l ++ p))) = txs (G ++ [l ++ p]) := by
                rw [strs_app, strs_app]
                exact set_last _ _ _
              rw [es]
              exact g1.set
          · rw [if_neg e2] at nxt
            refine ⟨_, rfl, .inl ⟨rfl, _, SqL.of g1.2.2⟩, _, rfl, q, _, _, rfl, rfl, g1.2.2, szl (by rw [strs_len]; omega), ?_⟩
            refine ⟨?_, _, rfl⟩
            rw [nxt]
            have := g1.set (ys := txs (G ++ [l]) ++ [.str (S p)])
            rw [strs_app (G ++ [l])]
            exact this
      · subst en
        refine ⟨_, rfl, .inl ⟨rfl, _, SqL.of g1.2.2⟩, _, rfl, q, _, _, rfl, rfl, g1.2.2, szl (by decide), ?_⟩
        refine ⟨?_, _, rfl⟩
        rw [nxt]
        exact g1.set
    · rintro σ H' ⟨g, o, rfl⟩
      rw [strs_len, List.take_length] at g
      exact ⟨_, rfl, k q H' g⟩
def sp_length_in (CB : Addr) : Sp := fun vs H Q E => ∃ t : List Nat, vs = [.str (S t)] ∧ t.length < 16777216 ∧ (∀ n, lenIn t = some n → ∀ H', Same H H' → Q (.int (n : Nat)) H') ∧ (lenIn t = none → ∀ H', Same H H' → E (.ref CB) none H')
theorem ok_length_in (T : Txt K mg) : FnOk P w K mg base (L2.CX P w) 1 T.length_in.a T.length_in.d ["text"] (sp_length_in T.BadBlock.C) := by
  refine T.length_in.F.okX sc_length_in (fun vs H Q E h => ?_) (fun cdv A outer s0 H vs Q E hr h => ?_)
  · obtain ⟨t, rfl, _⟩ := h
    rfl
  · obtain ⟨t, rfl, hz, k1, k2⟩ := h
    refine ⟨_, (pss_cons (ps_set (i := 1) sc_length_in.nd rfl (.inl rfl) (pe_slice sl_strS (pv 0) po_none (po_some pe_int)))
    (pss_cons (ps_if (PW.pt (pw_or (pt_cmpR op_lt (pe_callB call_lenS (by rfl) T.z_len PySem.boot_len (pa_cons (pv 1) pa_nil)) pe_int (nomark _)) (pw_or1 (pt_not (pt_val (pe_callB (cr_all rfl) (by rfl) T.z_all (by decide +kernel) (pa_cons (pe_lc (own := [("sign", 2)]) (g := gName 2) rfl sc_length_in.nd (pi_str (pv 1)) (blkOk_by (N := N_length_in) (sc := defScope s_length_in) (by decide +kernel)) (fun _ _ _ _ _ => (pg_name (i := 2) sc_length_in.nd rfl (.inl rfl))) (fun _ _ _ _ _ => pts_nil) (fun _ _ _ _ _ => (pe_cmpR op_inS2 (pv 2) (pe_strS (l := [48, 49, 50, 51, 52, 53, 54, 55, 56, 57]) (by decide +kernel)) (by rfl)))) pa_nil)))))))
      (pss_one (ps_raise rfl (takes_of rfl rfl rfl rfl) (pmk_own PySem.F.excBase_ValueError T.BadBlock.x T.BadBlock.g T.BadBlock.k (raises_own T.BadBlock.b T.BadBlock.t) (by exact rfl))))
      pss_nil)
    (pss_one (ps_ret (pe_callTy call_intS (by rfl) T.z_int (by decide +kernel) (pa_cons (pv 1) pa_nil)))))), ?_⟩
    refine ⟨_, rfl, _, rfl, t, rfl, by omega, ?_⟩
    rw [show sl t none (some (3 : Int)) = t.take 3 from sl_to t 3]
    have l3 : (t.take 3).length ≤ 3 := List.length_take_le _ _
    refine ⟨_, rfl, _, rfl, by omega, _, _, rfl, rfl, _, rfl, iteD (fun e => ?_) (fun e => ?_)⟩
    · refine iteT (k2 ?_ _ (Same.refl _))
      unfold lenIn
      rw [if_neg (fun h => by omega)]
    · refine ⟨_, rfl, _, rfl, fun D nD => lc_signs (z := S (t.take 3)) isDig (by rw [S_len]; omega) nD (fun _ => rfl) (fun c H' hc s1 Q2 q2 => ⟨_, rfl, c, _, rfl, rfl, q2 _ (Same.refl _)⟩) (fun H' s1 hD => ?_)⟩
      refine ⟨_, _, rfl, SqL.of hD, _, rfl, ?_⟩
      rw [all_id_map, S_cps]
      refine iteNB (fun e2 => k2 ?_ _ s1) (fun e2 => ?_)
      · unfold lenIn
        rw [if_neg (fun h => by rw [h.2] at e2; cases e2)]
      · refine ⟨_, rfl, _, rfl, allDig e2, ?_, by omega, k1 _ ?_ _ s1⟩
        · intro h0
          rw [h0] at e
          exact e (by decide)
        · unfold lenIn
          rw [if_pos ⟨by omega, e2⟩]
end
end R
set_option maxRecDepth 100000
set_option maxHeartbeats 4000000
namespace R
open PySem PySem.Spec PyProof.Rows L2 RZ
open PySem.W (Datum)
/-! ### records parted over blocks: groups of parts, each with its sign -/
abbrev Pc := Nat × List Nat
/-- a part with its sign and its length -/
def pc (p : Pc) : List Nat := [p.1] ++ fig p.2.length 3 ++ p.2
def gtxt (gr : List Pc) : List Nat := (gr.map pc).flatten
theorem gtxt_snoc (gr : List Pc) (p : Pc) : gtxt (gr ++ [p]) = gtxt gr ++ pc p := by
  unfold gtxt
  rw [List.map_append, List.flatten_append, List.map_singleton, List.flatten_singleton]
theorem pc_len {p : Pc} (h : p.2.length < 1000) : (pc p).length = 4 + p.2.length := by
  unfold pc
  rw [List.length_append, List.length_append, fig_len (by decide) (by simpa using h), List.length_singleton]
/-- the last group, opened if it has no room -/
def spOpen (b : Nat) (G : List (List Pc)) : List (List Pc) × List Pc :=
  match G.getLast? with
  | none => ([], [])
  | some gr => if (b : Int) - (gtxt gr).length < 5 then (G, []) else (G.dropLast, gr)
theorem spOpen_snoc (b : Nat) (G : List (List Pc)) (gr : List Pc) : spOpen b (G ++ [gr]) = if (b : Int) - (gtxt gr).length < 5 then (G ++ [gr], []) else (G, gr) := by
  unfold spOpen
  rw [List.getLast?_concat]
  dsimp only
  rw [List.dropLast_concat]
def spSign (first ended : Bool) : Nat := if first then (if ended then 48 else 49) else (if ended then 50 else 51)
/-- one record's parts -/
def spRec (b : Nat) : Nat → List (List Pc) → Bool → List Nat → List (List Pc)
  | 0, G, _, _ => G
  | n + 1, G, first, rest =>
    if rest.drop (b - (gtxt (spOpen b G).2).length - 4) = [] then (spOpen b G).1 ++ [(spOpen b G).2 ++ [(spSign first true, rest.take (b - (gtxt (spOpen b G).2).length - 4))]]
    else spRec b n ((spOpen b G).1 ++ [(spOpen b G).2 ++ [(spSign first false, rest.take (b - (gtxt (spOpen b G).2).length - 4))]]) false (rest.drop (b - (gtxt (spOpen b G).2).length - 4))
def spAll (b : Nat) (rs : List (List Nat)) : List (List Pc) := rs.foldl (fun G r => spRec b (r.length + 1) G true r) []
theorem spAll_take (b : Nat) (rs : List (List Nat)) {i : Nat} {r : List Nat} (h : rs[i]? = some r) : spAll b (rs.take (i + 1)) = spRec b (r.length + 1) (spAll b (rs.take i)) true r := by
  unfold spAll
  rw [List.take_add_one, h, Option.toList_some, List.foldl_append]
  rfl
/-- the groups are as they may be -/
def Gr (b : Nat) (G : List (List Pc)) : Prop := ∀ gr ∈ G, gr ≠ [] ∧ (gtxt gr).length ≤ b ∧ ∀ p ∈ gr, p.1 ∈ ([48, 49, 50, 51] : List Nat) ∧ p.2.length < 1000
theorem spSign_in (f e : Bool) : spSign f e ∈ ([48, 49, 50, 51] : List Nat) := by cases f <;> cases e <;> decide
theorem spOpen_room {b : Nat} {G : List (List Pc)} (hb : 5 ≤ b) (h : Gr b G) : (gtxt (spOpen b G).2).length + 5 ≤ b := by
  rcases snoc_cases G with rfl | ⟨G0, gr, rfl⟩
  · show (gtxt []).length + 5 ≤ b
    show 0 + 5 ≤ b
    omega
  · rw [spOpen_snoc]
    split
    · show 0 + 5 ≤ b
      omega
    · dsimp only
      omega
theorem spOpen_flat (b : Nat) (G : List (List Pc)) : (spOpen b G).1.flatten ++ (spOpen b G).2 = G.flatten := by
  rcases snoc_cases G with rfl | ⟨G0, gr, rfl⟩
  · rfl
  · rw [spOpen_snoc]
    split
    · rw [List.append_nil]
    · rw [List.flatten_append, List.flatten_singleton]
theorem spOpen_len (b : Nat) (G : List (List Pc)) : (spOpen b G).1.length ≤ G.length := by
  rcases snoc_cases G with rfl | ⟨G0, gr, rfl⟩
  · exact Nat.le_refl _
  · rw [spOpen_snoc]
    split
    · exact Nat.le_refl _
    · rw [List.length_append]
      exact Nat.le_add_right _ _
theorem spOpen_gr {b : Nat} {G : List (List Pc)} (h : Gr b G) : Gr b (spOpen b G).1 ∧ ∀ p ∈ (spOpen b G).2, p.1 ∈ ([48, 49, 50, 51] : List Nat) ∧ p.2.length < 1000 := by
  rcases snoc_cases G with rfl | ⟨G0, gr, rfl⟩
  · exact ⟨h, fun p hp => by cases hp⟩
  · rw [spOpen_snoc]
    split
    · exact ⟨h, fun p hp => by cases hp⟩
    · exact ⟨fun g hg => h g (List.mem_append_left _ hg), (h gr (List.mem_append_right _ List.mem_cons_self)).2.2⟩
theorem sp_gr {b : Nat} {G : List (List Pc)} {s : Nat} {l : List Nat} (hb : 5 ≤ b) (hb2 : b < 1000) (h : Gr b G) (hs : s ∈ ([48, 49, 50, 51] : List Nat)) (k : Nat) (hk : k = b - (gtxt (spOpen b G).2).length - 4) : Gr b ((spOpen b G).1 ++ [(spOpen b G).2 ++ [(s, l.take k)]]) := by
  have h1 := spOpen_gr h
  have h2 := spOpen_room hb h
  have lt : (l.take k).length ≤ k := List.length_take_le _ _
  intro gr hgr
  rcases List.mem_append.mp hgr with hg | hg
  · exact h1.1 gr hg
  · rw [List.mem_singleton.mp hg]
    refine ⟨by simp, ?_, fun p hp => ?_⟩
    · rw [gtxt_snoc, List.length_append, pc_len (by show (l.take k).length < 1000; omega)]
      show _ + (4 + (l.take k).length) ≤ b
      omega
    · rcases List.mem_append.mp hp with hp | hp
      · exact h1.2 p hp
      · rw [List.mem_singleton.mp hp]
        exact ⟨hs, by show (l.take k).length < 1000; omega⟩
theorem spRec_gr {b : Nat} (hb : 5 ≤ b) (hb2 : b < 1000) : ∀ (n : Nat) (G : List (List Pc)) (f : Bool) (l : List Nat), Gr b G → Gr b (spRec b n G f l)
  | 0, _, _, _, h => h
  | n + 1, G, f, l, h => by
    unfold spRec
    split
    · exact sp_gr hb hb2 h (spSign_in _ _) _ rfl
    · exact spRec_gr hb hb2 n _ _ _ (sp_gr hb hb2 h (spSign_in _ _) _ rfl)
theorem spRec_len (b : Nat) : ∀ (n : Nat) (G : List (List Pc)) (f : Bool) (l : List Nat), (spRec b n G f l).length ≤ G.length + n
  | 0, _, _, _ => Nat.le_refl _
  | n + 1, G, f, l => by
    have h1 := spOpen_len b G
    unfold spRec
    split
    · rw [List.length_append, List.length_singleton]; omega
    · refine Nat.le_trans (spRec_len b n _ _ _) ?_
      rw [List.length_append, List.length_singleton]; omega
theorem spRec_cnt (b : Nat) : ∀ (n : Nat) (G : List (List Pc)) (f : Bool) (l : List Nat), (spRec b n G f l).flatten.length ≤ G.flatten.length + n
  | 0, _, _, _ => Nat.le_refl _
  | n + 1, G, f, l => by
    have h1 := congrArg List.length (spOpen_flat b G)
    rw [List.length_append] at h1
    unfold spRec
    split
    · rw [List.flatten_append, List.length_append, List.flatten_singleton, List.length_append, List.length_singleton]; omega
    · refine Nat.le_trans (spRec_cnt b n _ _ _) ?_
      rw [List.flatten_append, List.length_append, List.flatten_singleton, List.length_append, List.length_singleton]; omega
theorem spFold_cnt (b m : Nat) : ∀ (rs : List (List Nat)) (G : List (List Pc)), (∀ r ∈ rs, r.length ≤ m) → (rs.foldl (fun G r => spRec b (r.length + 1) G true r) G).flatten.length ≤ G.flatten.length + rs.length * (m + 1)
  | [], _, _ => by simp
  | r :: rs, G, h => by
    rw [List.foldl_cons]
    have h1 := spFold_cnt b m rs (spRec b (r.length + 1) G true r) fun q hq => h q (List.mem_cons_of_mem _ hq)
    have h2 := spRec_cnt b (r.length + 1) G true r
    have h3 := h r List.mem_cons_self
    rw [List.length_cons, Nat.add_mul]
    omega
theorem spAll_cnt (b m : Nat) (rs : List (List Nat)) (h : ∀ r ∈ rs, r.length ≤ m) : (spAll b rs).flatten.length ≤ rs.length * (m + 1) := by
  have := spFold_cnt b m rs [] h
  rw [List.flatten_nil, List.length_nil, Nat.zero_add] at this
  exact this
theorem spRec_ne (b n : Nat) (G : List (List Pc)) (f : Bool) (l : List Nat) : spRec b (n + 1) G f l ≠ [] := by
  induction n generalizing G f l with
  | zero =>
    unfold spRec
    split
    · simp
    · unfold spRec
      simp
  | succ n ih =>
    unfold spRec
    split
    · simp
    · exact ih _ _ _
theorem spFold_gr {b : Nat} (hb : 5 ≤ b) (hb2 : b < 1000) : ∀ (rs : List (List Nat)) (G : List (List Pc)), Gr b G → Gr b (rs.foldl (fun G r => spRec b (r.length + 1) G true r) G)
  | [], _, h => h
  | r :: rs, G, h => by rw [List.foldl_cons]; exact spFold_gr hb hb2 rs _ (spRec_gr hb hb2 _ _ _ _ h)
theorem spAll_gr {b : Nat} (hb : 5 ≤ b) (hb2 : b < 1000) (rs : List (List Nat)) : Gr b (spAll b rs) := spFold_gr hb hb2 rs [] (fun gr h => by cases h)
theorem spFold_len (b : Nat) : ∀ (rs : List (List Nat)) (G : List (List Pc)), (∀ r ∈ rs, r.length ≤ 1000) → (rs.foldl (fun G r => spRec b (r.length + 1) G true r) G).length ≤ G.length + rs.length * 1001
  | [], _, _ => by simp
  | r :: rs, G, h => by
    rw [List.foldl_cons]
    have h1 := spFold_len b rs (spRec b (r.length + 1) G true r) fun q hq => h q (List.mem_cons_of_mem _ hq)
    have h2 := spRec_len b (r.length + 1) G true r
    have h3 := h r List.mem_cons_self
    rw [List.length_cons]
    omega
theorem spAll_len (b : Nat) (rs : List (List Nat)) (h : ∀ r ∈ rs, r.length ≤ 1000) : (spAll b rs).length ≤ rs.length * 1001 := by
  have := spFold_len b rs [] h
  rw [List.length_nil, Nat.zero_add] at this
  exact this
/-! ### parts put together again -/
def stitch (size : Int) : Option (List Nat) → List Pc → Option (List (List Nat))
  | none, [] => some []
  | some _, [] => none
  | o, (g, p) :: r =>
    if decide (g ∈ ([48, 49] : List Nat)) = o.isNone then
      if size < ((o.getD [] ++ p).length : Int) then none
      else if g ∈ ([48, 50] : List Nat) then (stitch size none r).map ((o.getD [] ++ p) :: ·) else stitch size (some (o.getD [] ++ p)) r
    else none
theorem stitch_cons (size : Int) (o : Option (List Nat)) (g : Nat) (p : List Nat) (r : List Pc) : stitch size o ((g, p) :: r) = if decide (g ∈ ([48, 49] : List Nat)) = o.isNone then
      if size < ((o.getD [] ++ p).length : Int) then none
      else if g ∈ ([48, 50] : List Nat) then (stitch size none r).map ((o.getD [] ++ p) :: ·) else stitch size (some (o.getD [] ++ p)) r
    else none := by
  cases o <;> rfl
theorem spRec_stitch (b : Nat) (size : Int) (hb : 5 ≤ b) (hb2 : b < 1000) : ∀ (n : Nat) (G : List (List Pc)) (f : Bool) (l : List Nat), l.length < n → Gr b G →
    ∃ ps, (spRec b n G f l).flatten = G.flatten ++ ps ∧ ∀ (w : List Nat) (tail : List Pc), (f = true → w = []) → ((w ++ l).length : Int) ≤ size → stitch size (if f then none else some w) (ps ++ tail) = (stitch size none tail).map ((w ++ l) :: ·)
  | 0, _, _, _, h, _ => absurd h (Nat.not_lt_zero _)
  | n + 1, G, f, l, h, hG => by
    have room := spOpen_room hb hG
    have fl := spOpen_flat b G
    unfold spRec
    generalize hk : b - (gtxt (spOpen b G).2).length - 4 = k
    have k1 : 1 ≤ k := by omega
    split
    · rename_i e
      have el : l.take k = l := by
        rw [List.take_of_length_le]
        have := congrArg List.length e
        rw [List.length_drop, List.length_nil] at this
        omega
      refine ⟨[(spSign f true, l.take k)], ?_, fun w tail hw hs => ?_⟩
      · rw [List.flatten_append, List.flatten_singleton, ← List.append_assoc, fl]
      · rw [el]
        show stitch size _ ((spSign f true, l) :: tail) = _
        rw [stitch_cons]
        cases f with
        | true =>
          rw [hw rfl] at hs ⊢
          rw [if_pos (by decide), if_neg (by show ¬ size < (([] ++ l).length : Int); omega), if_pos (by decide)]
          rfl
        | false =>
          rw [if_pos (by rfl)]
          show (if size < ((w ++ l).length : Int) then none else _) = _
          rw [if_neg (by omega), if_pos (by decide)]
          rfl
    · rename_i e
      have hne : 0 < (l.drop k).length := List.length_pos_iff.mpr e
      rw [List.length_drop] at hne
      have hG2 := sp_gr (l := l) hb hb2 hG (spSign_in f false) k hk.symm
      obtain ⟨ps, e1, e2⟩ := spRec_stitch b size hb hb2 n _ false (l.drop k) (by rw [List.length_drop]; omega) hG2
      refine ⟨(spSign f false, l.take k) :: ps, ?_, fun w tail hw hs => ?_⟩
      · rw [e1, List.flatten_append, List.flatten_singleton, ← List.append_assoc, fl, List.append_assoc]
        rfl
      · show stitch size _ ((spSign f false, l.take k) :: (ps ++ tail)) = _
        have tl : (l.take k).length ≤ l.length := by rw [List.length_take]; omega
        have e2' := e2 (w ++ l.take k) tail (fun h => by cases h) (by rw [List.append_assoc, List.take_append_drop]; exact hs)
        rw [List.append_assoc, List.take_append_drop] at e2'
        rw [List.length_append] at hs
        rw [stitch_cons]
        cases f with
        | true =>
          have hw' := hw rfl
          subst hw'
          rw [if_pos (by decide), if_neg (by show ¬ size < (([] ++ l.take k).length : Int); rw [List.nil_append]; simp only [List.length_nil] at hs; omega), if_neg (by decide)]
          exact e2'
        | false =>
          rw [if_pos (by rfl)]
          show (if size < ((w ++ l.take k).length : Int) then none else _) = _
          rw [if_neg (by rw [List.length_append]; omega), if_neg (by decide)]
          exact e2'
theorem spFold_stitch (b : Nat) (size : Int) (hb : 5 ≤ b) (hb2 : b < 1000) : ∀ (rs : List (List Nat)) (G : List (List Pc)), (∀ r ∈ rs, (r.length : Int) ≤ size) → Gr b G →
    ∃ ps, (rs.foldl (fun G r => spRec b (r.length + 1) G true r) G).flatten = G.flatten ++ ps ∧ stitch size none ps = some rs
  | [], G, _, _ => ⟨[], by simp, rfl⟩
  | r :: rs, G, h, hG => by
    obtain ⟨p1, e1, e2⟩ := spRec_stitch b size hb hb2 (r.length + 1) G true r (by omega) hG
    obtain ⟨p2, e3, e4⟩ := spFold_stitch b size hb hb2 rs (spRec b (r.length + 1) G true r) (fun q hq => h q (List.mem_cons_of_mem _ hq)) (spRec_gr hb hb2 _ _ _ _ hG)
    refine ⟨p1 ++ p2, ?_, ?_⟩
    · rw [List.foldl_cons, e3, e1, List.append_assoc]
    · have := e2 [] p2 (fun _ => rfl) (by rw [List.nil_append]; exact h r List.mem_cons_self)
      rw [if_pos rfl, List.nil_append, e4] at this
      exact this
theorem spAll_stitch (b : Nat) (size : Int) (hb : 5 ≤ b) (hb2 : b < 1000) (rs : List (List Nat)) (h : ∀ r ∈ rs, (r.length : Int) ≤ size) : stitch size none (spAll b rs).flatten = some rs := by
  obtain ⟨ps, e1, e2⟩ := spFold_stitch b size hb hb2 rs [] h (fun gr h => by cases h)
  unfold spAll
  rw [e1]
  exact e2
end R
set_option maxRecDepth 100000
set_option maxHeartbeats 4000000
namespace R
open PySem PySem.Spec PyProof.Rows L2 RZ
open PySem.W (Datum)
/-- the texts of groups -/
def gtxs (G : List (List Pc)) : List V := txs (G.map gtxt)
theorem gtxs_len (G : List (List Pc)) : (gtxs G).length = G.length := by unfold gtxs; rw [strs_len, List.length_map]
theorem gtxs_snoc (G : List (List Pc)) (gr : List Pc) : gtxs (G ++ [gr]) = gtxs G ++ [V.str (S (gtxt gr))] := by
  unfold gtxs
  rw [List.map_append, strs_app]
  rfl
theorem spRec_last {b n : Nat} {G A : List (List Pc)} {gr : List Pc} {f : Bool} {l : List Nat} {k : Nat} (ho : spOpen b G = (A, gr)) (hk : k = b - (gtxt gr).length - 4) (h : l.drop k = []) : spRec b (n + 1) G f l = A ++ [gr ++ [(spSign f true, l.take k)]] := by
  unfold spRec
  rw [ho]
  dsimp only
  rw [← hk, if_pos h]
theorem spRec_more {b n : Nat} {G A : List (List Pc)} {gr : List Pc} {f : Bool} {l : List Nat} {k : Nat} (ho : spOpen b G = (A, gr)) (hk : k = b - (gtxt gr).length - 4) (h : l.drop k ≠ []) : spRec b (n + 1) G f l = spRec b n (A ++ [gr ++ [(spSign f false, l.take k)]]) false (l.drop k) := by
  conv => lhs; unfold spRec
  rw [ho]
  dsimp only
  rw [← hk, if_neg h]
theorem drop_take_len {α : Type} (l : List α) (k : Nat) : l.drop (l.take k).length = l.drop k := by
  rw [List.length_take]
  by_cases h : k ≤ l.length
  · rw [Nat.min_eq_left h]
  · rw [Nat.min_eq_right (by omega), List.drop_length, List.drop_eq_nil_of_le (by omega)]
/-- how the law's own row of blocks begins -/
def lawG (G : List (List Pc)) : List (List Pc) := if G = [] then [[]] else G
theorem lawG_open {b : Nat} (hb : 5 ≤ b) (G : List (List Pc)) : spOpen b (lawG G) = spOpen b G := by
  unfold lawG
  split
  · rename_i e
    subst e
    show (if (b : Int) - ((0 : Nat) : Int) < 5 then _ else _) = _
    rw [if_neg (by omega)]
    rfl
  · rfl
theorem lawG_rec {b : Nat} (hb : 5 ≤ b) (n : Nat) (G : List (List Pc)) (f : Bool) (l : List Nat) : spRec b (n + 1) (lawG G) f l = spRec b (n + 1) G f l := by
  unfold spRec
  rw [lawG_open hb]
theorem lawG_ne {G : List (List Pc)} (h : G ≠ []) : lawG G = G := if_neg h
theorem Gr.txt {b : Nat} {G : List (List Pc)} (h : Gr b G) : ∀ gr ∈ G, gtxt gr ≠ [] := by
  intro gr hg e
  obtain ⟨h1, h2, h3⟩ := h gr hg
  cases gr with
  | nil => exact h1 rfl
  | cons p r =>
    have : pc p ++ gtxt r = [] := e
    have h4 := (List.append_eq_nil_iff.mp this).1
    unfold pc at h4
    simp at h4
/-- the sign of a part -/
theorem te_sign {σ : L2.St} {H : Hp} {Q : VK} {i j : Nat} {f : Bool} {l : List Nat} (h5 : σ[i]? = some (some (.bl f))) (h4 : σ[j]? = some (some (.str (S l)))) (q : Q (.str (S [spSign f (decide (l = []))])) H) :
    tIf (tB (tVar i)) (tIf (tTest (tOp (rEqS false) (tVar j) (tC (.str (S []))))) (tC (.str (S [48]))) (tC (.str (S [49])))) (tIf (tTest (tOp (rEqS false) (tVar j) (tC (.str (S []))))) (tC (.str (S [50]))) (tC (.str (S [51])))) σ H Q := by
  refine ⟨_, h5, _, rfl, ?_⟩
  cases f with
  | true =>
    refine iteT ⟨_, h4, _, _, rfl, rfl, _, rfl, iteD (fun e => ?_) (fun e => ?_)⟩
    · rw [decide_eq_true e] at q; exact q
    · rw [decide_eq_false e] at q; exact q
  | false =>
    refine iteF ⟨_, h4, _, _, rfl, rfl, _, rfl, iteD (fun e => ?_) (fun e => ?_)⟩
    · rw [decide_eq_true e] at q; exact q
    · rw [decide_eq_false e] at q; exact q
theorem te_signL {σ : L2.St} {H : Hp} {Q : VK} {i j : Nat} {f d : Bool} (h5 : σ[i]? = some (some (.bl (!f)))) (h4 : σ[j]? = some (some (.bl d))) (q : Q (.str (S [spSign f d])) H) :
    tIf (tB (tVar i)) (tIf (tB (tVar j)) (tC (.str (S [50]))) (tC (.str (S [51])))) (tIf (tB (tVar j)) (tC (.str (S [48]))) (tC (.str (S [49])))) σ H Q := by
  refine ⟨_, h5, _, rfl, ?_⟩
  cases f with
  | true =>
    refine iteF ⟨_, h4, _, rfl, ?_⟩
    cases d with
    | true => exact iteT q
    | false => exact iteF q
  | false =>
    refine iteT ⟨_, h4, _, rfl, ?_⟩
    cases d with
    | true => exact iteT q
    | false => exact iteF q
theorem gtxs_add (A : List (List Pc)) (gr : List Pc) (s : Nat) (l : List Nat) : (gtxs (A ++ [gr])).set (gtxs A).length (.str (S (gtxt gr ++ ([s] ++ fig l.length 3 ++ l)))) = gtxs (A ++ [gr ++ [(s, l)]]) := by
  rw [gtxs_snoc, gtxs_snoc, set_last, gtxt_snoc]
  rfl
section
variable {P : Program} {w : World} {K : PySem.W.Frag} {mg : Str → Option Value} {base : Heap}
def sp_spanned (K : PySem.W.Frag) : Sp := fun vs H Q _ => ∃ (a : Addr) (ps : List (List Nat)) (b : Nat), vs = [.ref a, .int b] ∧ SqL K H a (txs ps) ∧ ps.length ≤ 10000 ∧ (∀ p ∈ ps, p.length ≤ 1000) ∧ 5 ≤ b ∧ b < 1000 ∧ ∀ q H', Grow H q H' (gtxs (spAll b ps)) → Q (.ref q) H'
theorem ok_spanned (T : Txt K mg) : FnOk P w K mg base (L2.CX P w) 2 T.spanned.a T.spanned.d ["records", "block"] (sp_spanned K) := by
  refine T.spanned.F.okX sc_spanned (fun vs H Q E h => ?_) (fun cdv A outer s0 H vs Q E hr h => ?_)
  · obtain ⟨a, ps, b, rfl, _⟩ := h
    rfl
  · obtain ⟨a, ps, b, rfl, hS, hz, hp, hb, hb2, k⟩ := h
    refine ⟨_, (pss_cons (ps_set (i := 2) sc_spanned.nd rfl (.inl rfl) (pe_lst pa_nil))
    (pss_cons (ps_for (passes_of rfl) rfl
      (pi_list (pv 0)) (pg_name (i := 3) sc_spanned.nd rfl (.inl rfl))
      (pss_cons (ps_par (i := 4) (j := 5) (by rfl) sc_spanned.nd rfl rfl (by decide) rfl rfl (pa_cons (pv 3) (pa_cons pe_bl pa_nil)) (by rfl))
      (pss_one (ps_while (passes_of rfl) (PW.pt (pw_or (pt_val (pv 5)) (pw_or1 (pt_cmpR op_neS (pv 4) (pe_strS (l := []) (by decide +kernel)) (nomark _)))))
        (pss_cons (ps_set (i := 6) sc_spanned.nd rfl (.inl rfl) (pe_op op_sub (pv 1) (pe_ifExp (pt_cmpR (op_neP hr.units) (pv 2) (pe_lst pa_nil) (nomark _)) (pe_callB call_lenS (by rfl) T.z_len PySem.boot_len (pa_cons (pe_ix ix_list (pv 2) (pe_un un_neg pe_int) (fun _ _ => rfl)) pa_nil)) (pv 1))))
        (pss_cons (ps_if (pt_cmpR op_lt (pv 6) pe_int (nomark _))
          (pss_cons (ps_expr (pe_bm PySem.F.plainAttrs_list PySem.F.slot_list_append PySem.F.type_list_append mt_append (pv 2) (pa_cons (pe_strS (l := []) (by decide +kernel)) pa_nil)))
          (pss_one (ps_set (i := 6) sc_spanned.nd rfl (.inl rfl) (pv 1))))
          pss_nil)
        (pss_cons (ps_par (i := 7) (j := 4) (by rfl) sc_spanned.nd rfl rfl (by decide) rfl rfl (pa_cons (pe_slice sl_strS (pv 4) po_none (po_some (pe_op op_sub (pv 6) pe_int))) (pa_cons (pe_slice sl_strS (pv 4) (po_some (pe_op op_sub (pv 6) pe_int)) po_none) pa_nil)) (by rfl))
        (pss_cons (ps_set (i := 8) sc_spanned.nd rfl (.inl rfl) (pe_ifExp (pt_val (pv 5)) (pe_ifExp (pt_cmpR op_eqS (pv 4) (pe_strS (l := []) (by decide +kernel)) (nomark _)) (pe_strS (l := [48]) (by decide +kernel)) (pe_strS (l := [49]) (by decide +kernel))) (pe_ifExp (pt_cmpR op_eqS (pv 4) (pe_strS (l := []) (by decide +kernel)) (nomark _)) (pe_strS (l := [50]) (by decide +kernel)) (pe_strS (l := [51]) (by decide +kernel)))))
        (pss_cons (ps_augL (pv 2) (pe_un un_neg pe_int) (pe_op op_addS (pe_op op_addS (pv 8) (pe_call (ok_figures T) (hr.mono (by decide)) (by rfl) T.figures.g T.figures.F.kp T.figures.b .nil passL (pa_cons (pe_callB call_lenS (by rfl) T.z_len PySem.boot_len (pa_cons (pv 7) pa_nil)) (pa_cons pe_int pa_nil)))) (pv 7)) ip_addS)
        (pss_one (ps_set (i := 5) sc_spanned.nd rfl (.inl rfl) pe_bl)))))))))))
    (pss_one (ps_ret (pv 2))))), ?_⟩
    refine ⟨sz (by decide), fun q nq => ?_⟩
    refine ⟨_, rfl, a, rfl, ⟨_, sql_same hS (same_new nq)⟩, for_it (walk_list (xs := txs ps)) (fun i σ H' => Grow H q H' (gtxs (spAll b (ps.take i))) ∧ ∃ o3 o4 o5 o6 o7 o8, σ = [some (.ref a), some (.int b), some (.ref q), o3, o4, o5, o6, o7, o8]) ⟨.start nq, none, none, none, none, none, none, rfl⟩ (fun i σ H' _ h => sql_same hS h.1.2.1) ?_ ?_⟩
    · rintro i x σ H1 H2 hlt ⟨g, o3, o4, o5, o6, o7, o8, rfl⟩ ⟨rfl, hx⟩
      obtain ⟨p, hpi, rfl⟩ := strs_get hx
      have hpm := hp p (List.mem_of_getElem? hpi)
      rw [strs_len] at hlt
      have hfl : (spAll b (ps.take i)).length ≤ 9999 * 1001 := by
        have := spAll_len b (ps.take i) fun r hr => hp r (List.mem_of_mem_take hr)
        rw [List.length_take] at this
        omega
      have hgr := spAll_gr hb hb2 (ps.take i)
      have nxt := spAll_take b ps hpi
      rw [nxt]
      generalize spAll b (ps.take i) = G0 at g hfl hgr
      generalize hGf : spRec b (p.length + 1) G0 true p = Gf
      refine ⟨_, rfl, _, _, rfl, ?_⟩
      refine ⟨fun m σ H' => ∃ (G : List (List Pc)) (f : Bool) (l : List Nat) (o6 o7 o8 : Option V), σ = [some (.ref a), some (.int b), some (.ref q), some (.str (S p)), some (.str (S l)), some (.bl f), o6, o7, o8] ∧ Grow H q H' (gtxs G) ∧ Gr b G ∧ G.length + m ≤ 9999 * 1001 + 1001 ∧ l.length ≤ 1000 ∧
        ((f = false ∧ l = [] ∧ G = Gf) ∨ ((f = true ∨ l ≠ []) ∧ spRec b m G f l = Gf ∧ l.length < m)), ⟨p.length + 1, G0, true, p, o6, o7, o8, rfl, g, hgr, by omega, hpm, .inr ⟨.inl rfl, hGf, by omega⟩⟩, fun m σ H' w => ?_⟩
      obtain ⟨G, f, l, o6, o7, o8, rfl, g, hgr, hlen, hl, hc⟩ := w
      have hm1 : (f = true ∨ l ≠ []) → spRec b m G f l = Gf ∧ l.length < m := fun h => by
        rcases hc with ⟨rfl, rfl, _⟩ | ⟨_, h1, h2⟩
        · rcases h with h | h
          · cases h
          · exact absurd rfl h
        · exact ⟨h1, h2⟩
      refine ⟨_, rfl, _, rfl, iteB (fun e0 => iteT ?_) (fun e0 => ⟨_, rfl, _, _, rfl, rfl, _, rfl, iteN (fun e1 => ?_) (fun e1 => ?_)⟩)⟩
      rotate_left 2
      · rcases hc with ⟨_, _, rfl⟩ | ⟨h, _, _⟩
        · exact ⟨g, _, _, _, _, _, _, rfl⟩
        · rcases h with h | h
          · rw [e0] at h; cases h
          · exact absurd e1 h
      all_goals
        obtain ⟨hrec, hlm⟩ : spRec b m G f l = Gf ∧ l.length < m := by
          first
            | exact hm1 (.inl e0)
            | exact hm1 (.inr e1)
        obtain ⟨n, rfl⟩ : ∃ n, m = n + 1 := ⟨m - 1, by omega⟩
        refine ⟨fun σ' H2 => ∃ m', m' < n + 1 ∧ ∃ (G : List (List Pc)) (f : Bool) (l : List Nat) (o6 o7 o8 : Option V), σ' = [some (.ref a), some (.int b), some (.ref q), some (.str (S p)), some (.str (S l)), some (.bl f), o6, o7, o8] ∧ Grow H q H2 (gtxs G) ∧ Gr b G ∧ G.length + m' ≤ 9999 * 1001 + 1001 ∧ l.length ≤ 1000 ∧ ((f = false ∧ l = [] ∧ G = Gf) ∨ ((f = true ∨ l ≠ []) ∧ spRec b m' G f l = Gf ∧ l.length < m')), fun _ _ h => h, ?_⟩
        refine ⟨_, rfl, _, rfl, sz (by decide), fun ea ne => ?_⟩
        have g1 := g.new (o := .lst []) ne
        refine ne_strs (ls := G.map gtxt) (ms := []) (SqL.of g1.2.2) (SqL.of upd_same) ⟨_, rfl, ?_⟩
        have room := spOpen_room hb hgr
        have olen := spOpen_len b G
        have sgr := fun s k hk hs => sp_gr (s := s) (l := l) hb hb2 hgr hs k hk
        rcases snoc_cases G with rfl | ⟨G1, gr, rfl⟩
        · refine iteF ⟨_, rfl, _, _, rfl, rfl, ?_⟩
          refine ⟨_, rfl, _, _, rfl, rfl, _, rfl, iteD (fun e2 => ?_) (fun e2 => absurd (by omega) e2)⟩
          refine ⟨_, rfl, .inl ⟨rfl, _, SqL.of g1.2.2⟩, q, _, _, rfl, rfl, g1.2.2, szl (by decide), ?_⟩
          generalize hk : b - (gtxt (spOpen b []).2).length - 4 = k at *
          have hk4 : b = k + 4 := by rw [← hk]; show b = b - 0 - 4 + 4; omega
          refine ⟨.int ((k + 4 : Nat) : Int), by rw [← hk4]; rfl, ?_⟩
          have e6 : V.int ((k + 4 : Nat) : Int) = V.int ((k + 4 : Nat) : Int) := rfl
          have room : (gtxt ([] : List Pc)).length + 5 ≤ b := by show 0 + 5 ≤ b; omega
          have ho : spOpen b [] = ([], []) := rfl
          have g3 : Grow H q (upd (upd H' ea (HO.lst [])) q (.lst (gtxs [] ++ [V.str (S [])]))) (gtxs ([] ++ [[]])) := g1.set
          refine ⟨_, rfl, .int ((k + 4 : Nat) : Int), congrArg some (congrArg some e6), _, _, rfl, rfl, _, rfl, l, rfl, by omega, _, rfl, .int ((k + 4 : Nat) : Int), congrArg some (congrArg some e6), _, _, rfl, rfl, _, rfl, l, rfl, by omega, _, _, rfl, ?_⟩
          rw [show ((k + 4 : Nat) : Int) - 4 = (k : Int) by omega, sl_to, sl_from]
          refine te_sign rfl rfl ?_
          have lt1 : (l.take k).length ≤ k := List.length_take_le _ _
          have at3 : atI (gtxs ([] ++ [[]])) (-1) = some (.str (S (gtxt []))) := by rw [gtxs_snoc]; exact atI_last _ _
          have ff : (fig (l.take k).length 3).length = 3 := fig_len (by decide) (show (l.take k).length < 1000 by omega)
          have g4 := fun s : Nat => g3.set (ys := (gtxs ([] ++ [[]])).set (gtxs []).length (.str (S (gtxt [] ++ ([s] ++ fig (l.take k).length 3 ++ l.take k)))))
          refine ⟨_, rfl, _, rfl, q, _, _, _, rfl, rfl, SqL.of g3.2.2, at3, _, rfl, _, rfl, _, rfl, by omega, ⟨_, 3, rfl, Nat.lt_of_le_of_lt lt1 (show k < 10 ^ 10 by omega), by decide, _, _, rfl, rfl, by rw [ff]; exact (show 1 + 3 ≤ 16777216 by decide), _, rfl, _, _, rfl, rfl, by rw [List.length_append, ff, List.length_singleton]; omega, _, _, rfl, rfl, by rw [List.length_append, List.length_append, ff, List.length_singleton]; omega, q, _, _, (gtxs []).length, rfl, rfl, g3.2.2, by rw [gtxs_snoc]; exact ixN_last _ _, ?_⟩⟩
          have g5 := g4 (spSign f (decide (l.drop k = [])))
          rw [gtxs_add] at g5
          by_cases hd : l.drop k = []
          · rw [decide_eq_true hd] at g5 ⊢
            refine ⟨0, Nat.succ_pos _, [] ++ [[] ++ [(spSign f true, l.take k)]], false, l.drop k, _, _, _, rfl, ?_, sgr _ k rfl (spSign_in _ _), ?_, by rw [List.length_drop]; omega, .inl ⟨rfl, hd, ?_⟩⟩
            · rw [gtxs_add]; exact g5
            · rw [List.length_append, List.length_singleton]; (try dsimp only at olen); omega
            · rw [← hrec]; exact (spRec_last ho hk.symm hd).symm
          · rw [decide_eq_false hd] at g5 ⊢
            have hne : 0 < (l.drop k).length := List.length_pos_iff.mpr hd
            rw [List.length_drop] at hne
            try dsimp only at room
            refine ⟨n, Nat.lt_succ_self _, [] ++ [[] ++ [(spSign f false, l.take k)]], false, l.drop k, _, _, _, rfl, ?_, sgr _ k rfl (spSign_in _ _), ?_, by rw [List.length_drop]; omega, .inr ⟨.inr hd, ?_, by rw [List.length_drop]; omega⟩⟩
            · rw [gtxs_add]; exact g5
            · rw [List.length_append, List.length_singleton]; (try dsimp only at olen); omega
            · rw [← hrec]; exact (spRec_more ho hk.symm hd).symm
        · have hgl := (hgr gr (List.mem_append_right _ List.mem_cons_self)).2.1
          have at1 : atI (gtxs (G1 ++ [gr])) (-1) = some (.str (S (gtxt gr))) := by rw [gtxs_snoc]; exact atI_last _ _
          rw [decide_eq_false (show ¬ (G1 ++ [gr]).map gtxt = [] by simp)]
          refine iteT ⟨_, rfl, _, rfl, q, _, _, _, rfl, rfl, SqL.of g1.2.2, at1, _, rfl, by omega, _, _, rfl, rfl, ?_⟩
          refine ⟨_, rfl, _, _, rfl, rfl, _, rfl, iteD (fun e2 => ?_) (fun e2 => ?_)⟩
          · have ho : spOpen b (G1 ++ [gr]) = (G1 ++ [gr], []) := by rw [spOpen_snoc, if_pos e2]
            refine ⟨_, rfl, .inl ⟨rfl, _, SqL.of g1.2.2⟩, q, _, _, rfl, rfl, g1.2.2, szl (by show (gtxs (G1 ++ [gr])).length < 16777216; rw [gtxs_len]; omega), ?_⟩
            rw [ho] at room olen sgr
            generalize hk : b - (gtxt ([] : List Pc)).length - 4 = k at *
            have hk4 : b = k + 4 := by rw [← hk]; show b = b - 0 - 4 + 4; omega
            refine ⟨.int ((k + 4 : Nat) : Int), by rw [← hk4]; rfl, ?_⟩
            have e6 : V.int ((k + 4 : Nat) : Int) = V.int ((k + 4 : Nat) : Int) := rfl
            have room : (gtxt ([] : List Pc)).length + 5 ≤ b := by show 0 + 5 ≤ b; omega
            have g3 : Grow H q (upd (upd H' ea (HO.lst [])) q (.lst (gtxs (G1 ++ [gr]) ++ [V.str (S [])]))) (gtxs (G1 ++ [gr] ++ [[]])) := by rw [gtxs_snoc (G1 ++ [gr])]; exact g1.set
            refine ⟨_, rfl, .int ((k + 4 : Nat) : Int), congrArg some (congrArg some e6), _, _, rfl, rfl, _, rfl, l, rfl, by omega, _, rfl, .int ((k + 4 : Nat) : Int), congrArg some (congrArg some e6), _, _, rfl, rfl, _, rfl, l, rfl, by omega, _, _, rfl, ?_⟩
            rw [show ((k + 4 : Nat) : Int) - 4 = (k : Int) by omega, sl_to, sl_from]
            refine te_sign rfl rfl ?_
            have lt1 : (l.take k).length ≤ k := List.length_take_le _ _
            have at3 : atI (gtxs ((G1 ++ [gr]) ++ [[]])) (-1) = some (.str (S (gtxt []))) := by rw [gtxs_snoc]; exact atI_last _ _
            have ff : (fig (l.take k).length 3).length = 3 := fig_len (by decide) (show (l.take k).length < 1000 by omega)
            have g4 := fun s : Nat => g3.set (ys := (gtxs ((G1 ++ [gr]) ++ [[]])).set (gtxs (G1 ++ [gr])).length (.str (S (gtxt [] ++ ([s] ++ fig (l.take k).length 3 ++ l.take k)))))
            refine ⟨_, rfl, _, rfl, q, _, _, _, rfl, rfl, SqL.of g3.2.2, at3, _, rfl, _, rfl, _, rfl, by omega, ⟨_, 3, rfl, Nat.lt_of_le_of_lt lt1 (show k < 10 ^ 10 by omega), by decide, _, _, rfl, rfl, by rw [ff]; exact (show 1 + 3 ≤ 16777216 by decide), _, rfl, _, _, rfl, rfl, by rw [List.length_append, ff, List.length_singleton]; omega, _, _, rfl, rfl, by rw [List.length_append, List.length_append, ff, List.length_singleton]; omega, q, _, _, (gtxs (G1 ++ [gr])).length, rfl, rfl, g3.2.2, by rw [gtxs_snoc]; exact ixN_last _ _, ?_⟩⟩
            have g5 := g4 (spSign f (decide (l.drop k = [])))
            rw [gtxs_add] at g5
            by_cases hd : l.drop k = []
            · rw [decide_eq_true hd] at g5 ⊢
              refine ⟨0, Nat.succ_pos _, (G1 ++ [gr]) ++ [[] ++ [(spSign f true, l.take k)]], false, l.drop k, _, _, _, rfl, ?_, sgr _ k rfl (spSign_in _ _), ?_, by rw [List.length_drop]; omega, .inl ⟨rfl, hd, ?_⟩⟩
              · rw [gtxs_add]; exact g5
              · rw [List.length_append, List.length_singleton]; (try dsimp only at olen); omega
              · rw [← hrec]; exact (spRec_last ho hk.symm hd).symm
            · rw [decide_eq_false hd] at g5 ⊢
              have hne : 0 < (l.drop k).length := List.length_pos_iff.mpr hd
              rw [List.length_drop] at hne
              try dsimp only at room
              refine ⟨n, Nat.lt_succ_self _, (G1 ++ [gr]) ++ [[] ++ [(spSign f false, l.take k)]], false, l.drop k, _, _, _, rfl, ?_, sgr _ k rfl (spSign_in _ _), ?_, by rw [List.length_drop]; omega, .inr ⟨.inr hd, ?_, by rw [List.length_drop]; omega⟩⟩
              · rw [gtxs_add]; exact g5
              · rw [List.length_append, List.length_singleton]; (try dsimp only at olen); omega
              · rw [← hrec]; exact (spRec_more ho hk.symm hd).symm
          · have ho : spOpen b (G1 ++ [gr]) = (G1, gr) := by rw [spOpen_snoc, if_neg e2]
            rw [ho] at room olen sgr
            generalize hk : b - (gtxt gr).length - 4 = k at *
            try dsimp only at room
            have e6 : V.int ((b : Int) - ((gtxt gr).length : Nat)) = V.int ((k + 4 : Nat) : Int) := by congr 1; omega
            have g3 := g1
            refine ⟨_, rfl, .int ((k + 4 : Nat) : Int), congrArg some (congrArg some e6), _, _, rfl, rfl, _, rfl, l, rfl, by omega, _, rfl, .int ((k + 4 : Nat) : Int), congrArg some (congrArg some e6), _, _, rfl, rfl, _, rfl, l, rfl, by omega, _, _, rfl, ?_⟩
            rw [show ((k + 4 : Nat) : Int) - 4 = (k : Int) by omega, sl_to, sl_from]
            refine te_sign rfl rfl ?_
            have lt1 : (l.take k).length ≤ k := List.length_take_le _ _
            have at3 : atI (gtxs (G1 ++ [gr])) (-1) = some (.str (S (gtxt gr))) := by rw [gtxs_snoc]; exact atI_last _ _
            have ff : (fig (l.take k).length 3).length = 3 := fig_len (by decide) (show (l.take k).length < 1000 by omega)
            have g4 := fun s : Nat => g3.set (ys := (gtxs (G1 ++ [gr])).set (gtxs G1).length (.str (S (gtxt gr ++ ([s] ++ fig (l.take k).length 3 ++ l.take k)))))
            refine ⟨_, rfl, _, rfl, q, _, _, _, rfl, rfl, SqL.of g3.2.2, at3, _, rfl, _, rfl, _, rfl, by omega, ⟨_, 3, rfl, Nat.lt_of_le_of_lt lt1 (show k < 10 ^ 10 by omega), by decide, _, _, rfl, rfl, by rw [ff]; exact (show 1 + 3 ≤ 16777216 by decide), _, rfl, _, _, rfl, rfl, by rw [List.length_append, ff, List.length_singleton]; omega, _, _, rfl, rfl, by rw [List.length_append, List.length_append, ff, List.length_singleton]; omega, q, _, _, (gtxs G1).length, rfl, rfl, g3.2.2, by rw [gtxs_snoc]; exact ixN_last _ _, ?_⟩⟩
            have g5 := g4 (spSign f (decide (l.drop k = [])))
            rw [gtxs_add] at g5
            by_cases hd : l.drop k = []
            · rw [decide_eq_true hd] at g5 ⊢
              refine ⟨0, Nat.succ_pos _, G1 ++ [gr ++ [(spSign f true, l.take k)]], false, l.drop k, _, _, _, rfl, ?_, sgr _ k rfl (spSign_in _ _), ?_, by rw [List.length_drop]; omega, .inl ⟨rfl, hd, ?_⟩⟩
              · rw [gtxs_add]; exact g5
              · rw [List.length_append, List.length_singleton]; (try dsimp only at olen); omega
              · rw [← hrec]; exact (spRec_last ho hk.symm hd).symm
            · rw [decide_eq_false hd] at g5 ⊢
              have hne : 0 < (l.drop k).length := List.length_pos_iff.mpr hd
              rw [List.length_drop] at hne
              try dsimp only at room
              refine ⟨n, Nat.lt_succ_self _, G1 ++ [gr ++ [(spSign f false, l.take k)]], false, l.drop k, _, _, _, rfl, ?_, sgr _ k rfl (spSign_in _ _), ?_, by rw [List.length_drop]; omega, .inr ⟨.inr hd, ?_, by rw [List.length_drop]; omega⟩⟩
              · rw [gtxs_add]; exact g5
              · rw [List.length_append, List.length_singleton]; (try dsimp only at olen); omega
              · rw [← hrec]; exact (spRec_more ho hk.symm hd).symm
    · rintro σ H' ⟨g, o3, o4, o5, o6, o7, o8, rfl⟩
      rw [strs_len, List.take_length] at g
      exact ⟨_, rfl, k q H' g⟩
end
end R
set_option maxRecDepth 100000
set_option maxHeartbeats 4000000
namespace R
open PySem PySem.Spec PyProof.Rows L2 RZ
open PySem.W (Datum)
/-! ### the parts of a block -/
def partsF (f : List Nat) (s : Nat) : Nat → List Nat → Option (List Pc)
  | 0, _ => some []
  | n + 1, t =>
    if t = [] then some []
    else if f = [70] then (if (t.take s).length < s then none else (partsF f s n (t.drop s)).map ((48, t.take s) :: ·))
    else match lenIn (if f = [86] then t else t.drop 1) with
      | none => none
      | some k => if (((if f = [86] then t else t.drop 1).take (3 + k)).drop 3).length < k ∨ (if f = [86] then 48 else t.headD 0) ∉ ([48, 49, 50, 51] : List Nat) then none
        else (partsF f s n ((if f = [86] then t else t.drop 1).drop (3 + k))).map (((if f = [86] then 48 else t.headD 0), ((if f = [86] then t else t.drop 1).take (3 + k)).drop 3) :: ·)
def partsOf (f : List Nat) (s : Nat) (t : List Nat) : Option (List Pc) := partsF f s (t.length + 1) t
/-- a list of pairs: sign and part -/
inductive Prs (H : Hp) : List V → List Pc → Prop
  | nil : Prs H [] []
  | cons {a : Addr} {xs : List V} {p : Pc} {ps : List Pc} (h : H a = some (.tup [.str (S [p.1]), .str (S p.2)])) (t : Prs H xs ps) : Prs H (.ref a :: xs) (p :: ps)
theorem Prs.len {H : Hp} : ∀ {xs : List V} {ps : List Pc}, Prs H xs ps → xs.length = ps.length
  | _, _, .nil => rfl
  | _, _, .cons _ t => by rw [List.length_cons, List.length_cons, t.len]
theorem Prs.same {H H' : Hp} (s : Same H H') : ∀ {xs : List V} {ps : List Pc}, Prs H xs ps → Prs H' xs ps
  | _, _, .nil => .nil
  | _, _, .cons h t => .cons (s _ _ h) (t.same s)
theorem Prs.upd {H : Hp} {q : Addr} {ys : List V} {o : HO} (hq : H q = some (.lst ys)) : ∀ {xs : List V} {ps : List Pc}, Prs H xs ps → Prs (upd H q o) xs ps
  | _, _, .nil => .nil
  | _, _, .cons h t => .cons (by rw [upd_ne (fun e => by rw [e, hq] at h; cases h)]; exact h) (t.upd hq)
theorem Prs.app {H : Hp} : ∀ {xs ys : List V} {ps qs : List Pc}, Prs H xs ps → Prs H ys qs → Prs H (xs ++ ys) (ps ++ qs)
  | _, _, _, _, .nil, k => k
  | _, _, _, _, .cons h t, k => .cons h (t.app k)
theorem Prs.get {H : Hp} : ∀ {xs : List V} {ps : List Pc} {i : Nat} {x : V}, Prs H xs ps → xs[i]? = some x → ∃ a p, x = .ref a ∧ ps[i]? = some p ∧ H a = some (.tup [.str (S [p.1]), .str (S p.2)])
  | _, _, 0, _, .cons h _, e => by cases e; exact ⟨_, _, rfl, rfl, h⟩
  | _, _, i + 1, _, .cons _ t, e => t.get (i := i) (by simpa using e)
  | _, _, _, _, .nil, e => by simp at e
theorem Prs.take {H : Hp} : ∀ {xs : List V} {ps : List Pc} (i : Nat), Prs H xs ps → Prs H (xs.take i) (ps.take i)
  | _, _, 0, _ => by rw [List.take_zero, List.take_zero]; exact .nil
  | _, _, i + 1, .cons h t => by rw [List.take_succ_cons, List.take_succ_cons]; exact .cons h (t.take i)
  | _, _, i + 1, .nil => by rw [List.take_nil, List.take_nil]; exact .nil
theorem upd_upd_ne {H : Hp} {a b : Addr} {o : HO} (h : a ≠ b) : upd H b o a = H a := upd_ne h
/-- [pair for text in texts for pair in a list of pairs that the text gives] -/
theorem lc2_pairs {K : PySem.W.Frag} {a : Addr} {ls : List (List Nat)} (f : List Nat → List Pc) {wi1 : TI} {vs vs1 : List Nat} {i j : Nat} {σ : L2.St} {H1 : Hp} {D : Addr} {Qd : Hp → Prop} (hS : SqL K H1 a (txs ls)) (nD : H1 D = none) (hz : (ls.map f).flatten.length < 16777216)
    (hw : ∀ x, wipe ((wipe σ vs).set i (some x)) vs = wipe σ vs)
    (hw1 : ∀ x y, wipe ((wipe ((wipe σ vs).set i (some x)) vs1).set j (some y)) vs1 = wipe ((wipe σ vs).set i (some x)) vs1)
    (hg : ∀ x y, ((wipe ((wipe σ vs).set i (some x)) vs1).set j (some y))[j]? = some (some y))
    (hi : ∀ l H, l ∈ ls → Same H1 H → ∀ Q1 : It → Hp → Prop, (∀ q ys H4, Same H H4 → H q = none → H4 q = some (.lst ys) → Prs H4 ys (f l) → Q1 (Itl K q) H4) → wi1 ((wipe σ vs).set i (some (.str (S l)))) H Q1)
    (hd : ∀ xs H, Same H1 H → H D = some (.lst xs) → Prs H xs (ls.map f).flatten → Qd H) :
    ∃ W : Nat → Nat → Hp → Prop, (∃ m, W 0 m (upd H1 D (.lst []))) ∧ ∀ i' m H, W i' m H →
      ((Itl K a).stop i' H ∧ Qd H) ∨ ((Itl K a).go i' H ∧ ∃ Nx : Hp → Prop, (∀ H', Nx H' → ∃ m', m' < m ∧ W (i' + 1) m' H') ∧ ∀ x H', (Itl K a).yld i' H x H' → (gName i) x (wipe σ vs) H' fun σ2 H2 => wipe σ2 vs = wipe σ vs ∧ tYes σ2 H2 fun b H3 =>
        if b = true then wi1 σ2 H3 fun J1 H4 => ∃ W1 : Nat → Nat → Hp → Prop, (∃ m, W1 0 m H4) ∧ ∀ j' k H, W1 j' k H →
          (J1.stop j' H ∧ Nx H) ∨ (J1.go j' H ∧ ∃ Nx1 : Hp → Prop, (∀ H', Nx1 H' → ∃ k', k' < k ∧ W1 (j' + 1) k' H') ∧ ∀ x H', J1.yld j' H x H' → (gName j) x (wipe σ2 vs1) H' fun σ3 H5 => wipe σ3 vs1 = wipe σ2 vs1 ∧ tYes σ3 H5 fun b H6 =>
            if b = true then tVar j σ3 H6 fun y H7 => ∃ acc, H7 D = some (.lst acc) ∧ acc.length < sizeLine ∧ Nx1 (upd H7 D (.lst (acc ++ [y]))) else Nx1 H6)
        else Nx H3) := by
  have wl := walk_list (K := K) (a := a) (xs := txs ls)
  refine ⟨fun n m H => m = ls.length - n ∧ n ≤ ls.length ∧ Same H1 H ∧ ∃ xs, H D = some (.lst xs) ∧ Prs H xs ((ls.take n).map f).flatten, ⟨_, rfl, Nat.zero_le _, same_new nD, [], upd_same, .nil⟩, ?_⟩
  rintro n m H ⟨rfl, hn, sm, xs, hD, hP⟩
  have hSH := sql_same hS sm
  by_cases hlt : n < ls.length
  · refine .inr ⟨wl.goes n H (by rw [strs_len]; exact hlt) hSH, fun H => n + 1 ≤ ls.length ∧ Same H1 H ∧ ∃ xs, H D = some (.lst xs) ∧ Prs H xs ((ls.take (n + 1)).map f).flatten, fun H' h => ⟨_, by omega, rfl, h⟩, fun x H' y => ?_⟩
    obtain ⟨rfl, hx⟩ := wl.yields n H x H' (by rw [strs_len]; exact hlt) hSH y
    obtain ⟨l, hl, rfl⟩ := strs_get hx
    refine ⟨hw _, hi l H' (List.mem_of_getElem? hl) sm _ fun q ys H4 s4 nq hq hys => ?_⟩
    have hqD : q ≠ D := fun e => by rw [e, hD] at nq; cases nq
    have wl2 := walk_list (K := K) (a := q) (xs := ys)
    have hnx : ((ls.take (n + 1)).map f).flatten = ((ls.take n).map f).flatten ++ f l := by
      rw [List.take_add_one, hl, Option.toList_some, List.map_append, List.flatten_append, List.map_singleton, List.flatten_singleton]
    have hcap : (((ls.take n).map f).flatten ++ f l).length ≤ (ls.map f).flatten.length := by
      rw [← hnx]
      have e := congrArg (fun z => (List.map f z).flatten) (List.take_append_drop (n + 1) ls)
      have e2 := congrArg List.length e
      rw [List.map_append, List.flatten_append, List.length_append] at e2
      omega
    rw [List.length_append] at hcap
    refine ⟨fun k m H => m = ys.length - k ∧ k ≤ ys.length ∧ Same H1 H ∧ H q = some (.lst ys) ∧ Prs H ys (f l) ∧ ∃ xs, H D = some (.lst xs) ∧ Prs H xs (((ls.take n).map f).flatten ++ (f l).take k), ⟨_, rfl, Nat.zero_le _, sm.trans s4, hq, hys, xs, s4 _ _ hD, by rw [List.take_zero, List.append_nil]; exact hP.same s4⟩, ?_⟩
    rintro k m H ⟨rfl, hk, smk, hqk, hyk, xk, hDk, hPk⟩
    by_cases hkl : k < ys.length
    · refine .inr ⟨wl2.goes k H hkl (SqL.of hqk), fun H => k + 1 ≤ ys.length ∧ Same H1 H ∧ H q = some (.lst ys) ∧ Prs H ys (f l) ∧ ∃ xs, H D = some (.lst xs) ∧ Prs H xs (((ls.take n).map f).flatten ++ (f l).take (k + 1)), fun H' h => ⟨_, by omega, rfl, h⟩, fun x H2 y => ?_⟩
      obtain ⟨rfl, hx⟩ := wl2.yields k H x H2 hkl (SqL.of hqk) y
      obtain ⟨pa, p, rfl, hp, hpa⟩ := hyk.get hx
      refine ⟨hw1 _ _, ?_⟩
      refine ⟨_, hg _ _, xk, hDk, szl ?_, hkl, ?_, ?_, ?_, xk ++ [.ref pa], upd_same, ?_⟩
      · rw [hPk.len, List.length_append, List.length_take]; omega
      · exact fun b o hb => by rw [upd_ne (ne_of_none hb nD)]; exact smk b o hb
      · rw [upd_ne hqD]; exact hqk
      · exact hyk.upd hDk
      · rw [List.take_add_one, hp, Option.toList_some, ← List.append_assoc]
        exact (hPk.upd hDk).app (.cons (by rw [upd_ne (fun e => by rw [e, hDk] at hpa; cases hpa)]; exact hpa) .nil)
    · have e : k = ys.length := by omega
      subst e
      refine .inl ⟨wl2.stops H (SqL.of hqk), by omega, smk, xk, hDk, ?_⟩
      rw [hnx]
      rw [hyk.len, List.take_length] at hPk
      exact hPk
  · have e : n = ls.length := by omega
    subst e
    refine .inl ⟨?_, hd xs H sm hD (by rw [List.take_length] at hP; exact hP)⟩
    have := wl.stops H hSH
    rw [strs_len] at this
    exact this
/-- [pair for text in texts for pair in a list of pairs that the text gives] -/
theorem lc2_pairsR {K : PySem.W.Frag} {a : Addr} {ls : List (List Nat)} (f : List Nat → Option (List Pc)) {wi1 : TI} {vs vs1 : List Nat} {i j : Nat} {σ : L2.St} {H1 : Hp} {D : Addr} {Qd : Hp → Prop} (hS : SqL K H1 a (txs ls)) (nD : H1 D = none) (hz : (ls.map fun l => (f l).getD []).flatten.length < 16777216)
    (hw : ∀ x, wipe ((wipe σ vs).set i (some x)) vs = wipe σ vs)
    (hw1 : ∀ x y, wipe ((wipe ((wipe σ vs).set i (some x)) vs1).set j (some y)) vs1 = wipe ((wipe σ vs).set i (some x)) vs1)
    (hg : ∀ x y, ((wipe ((wipe σ vs).set i (some x)) vs1).set j (some y))[j]? = some (some y))
    (hi : ∀ l H, l ∈ ls → Same H1 H → ∀ Q1 : It → Hp → Prop, (∀ ps q ys H4, f l = some ps → Same H H4 → H q = none → H4 q = some (.lst ys) → Prs H4 ys ps → Q1 (Itl K q) H4) → wi1 ((wipe σ vs).set i (some (.str (S l)))) H Q1)
    (hd : ∀ xs H, (∀ l ∈ ls, (f l).isSome = true) → Same H1 H → H D = some (.lst xs) → Prs H xs (ls.map fun l => (f l).getD []).flatten → Qd H) :
    ∃ W : Nat → Nat → Hp → Prop, (∃ m, W 0 m (upd H1 D (.lst []))) ∧ ∀ i' m H, W i' m H →
      ((Itl K a).stop i' H ∧ Qd H) ∨ ((Itl K a).go i' H ∧ ∃ Nx : Hp → Prop, (∀ H', Nx H' → ∃ m', m' < m ∧ W (i' + 1) m' H') ∧ ∀ x H', (Itl K a).yld i' H x H' → (gName i) x (wipe σ vs) H' fun σ2 H2 => wipe σ2 vs = wipe σ vs ∧ tYes σ2 H2 fun b H3 =>
        if b = true then wi1 σ2 H3 fun J1 H4 => ∃ W1 : Nat → Nat → Hp → Prop, (∃ m, W1 0 m H4) ∧ ∀ j' k H, W1 j' k H →
          (J1.stop j' H ∧ Nx H) ∨ (J1.go j' H ∧ ∃ Nx1 : Hp → Prop, (∀ H', Nx1 H' → ∃ k', k' < k ∧ W1 (j' + 1) k' H') ∧ ∀ x H', J1.yld j' H x H' → (gName j) x (wipe σ2 vs1) H' fun σ3 H5 => wipe σ3 vs1 = wipe σ2 vs1 ∧ tYes σ3 H5 fun b H6 =>
            if b = true then tVar j σ3 H6 fun y H7 => ∃ acc, H7 D = some (.lst acc) ∧ acc.length < sizeLine ∧ Nx1 (upd H7 D (.lst (acc ++ [y]))) else Nx1 H6)
        else Nx H3) := by
  have wl := walk_list (K := K) (a := a) (xs := txs ls)
  refine ⟨fun n m H => m = ls.length - n ∧ n ≤ ls.length ∧ (∀ l ∈ ls.take n, (f l).isSome = true) ∧ Same H1 H ∧ ∃ xs, H D = some (.lst xs) ∧ Prs H xs ((ls.take n).map fun l => (f l).getD []).flatten, ⟨_, rfl, Nat.zero_le _, (fun l h => by rw [List.take_zero] at h; cases h), same_new nD, [], upd_same, .nil⟩, ?_⟩
  rintro n m H ⟨rfl, hn, hall, sm, xs, hD, hP⟩
  have hSH := sql_same hS sm
  by_cases hlt : n < ls.length
  · refine .inr ⟨wl.goes n H (by rw [strs_len]; exact hlt) hSH, fun H => n + 1 ≤ ls.length ∧ (∀ l ∈ ls.take (n + 1), (f l).isSome = true) ∧ Same H1 H ∧ ∃ xs, H D = some (.lst xs) ∧ Prs H xs ((ls.take (n + 1)).map fun l => (f l).getD []).flatten, fun H' h => ⟨_, by omega, rfl, h⟩, fun x H' y => ?_⟩
    obtain ⟨rfl, hx⟩ := wl.yields n H x H' (by rw [strs_len]; exact hlt) hSH y
    obtain ⟨l, hl, rfl⟩ := strs_get hx
    refine ⟨hw _, hi l H' (List.mem_of_getElem? hl) sm _ fun ps q ys H4 hps s4 nq hq hys => ?_⟩
    have hqD : q ≠ D := fun e => by rw [e, hD] at nq; cases nq
    have wl2 := walk_list (K := K) (a := q) (xs := ys)
    have hall2 : ∀ l ∈ ls.take (n + 1), (f l).isSome = true := fun k hk => by
      rw [List.take_add_one, hl, Option.toList_some] at hk
      rcases List.mem_append.mp hk with hk | hk
      · exact hall k hk
      · rw [List.mem_singleton.mp hk, hps]; rfl
    have hnx : ((ls.take (n + 1)).map fun l => (f l).getD []).flatten = ((ls.take n).map fun l => (f l).getD []).flatten ++ ps := by
      rw [List.take_add_one, hl, Option.toList_some, List.map_append, List.flatten_append, List.map_singleton, List.flatten_singleton, hps]
      rfl
    have hcap : (((ls.take n).map fun l => (f l).getD []).flatten ++ ps).length ≤ (ls.map fun l => (f l).getD []).flatten.length := by
      rw [← hnx]
      have e := congrArg (fun z => (List.map (fun l => (f l).getD []) z).flatten) (List.take_append_drop (n + 1) ls)
      have e2 := congrArg List.length e
      rw [List.map_append, List.flatten_append, List.length_append] at e2
      omega
    rw [List.length_append] at hcap
    refine ⟨fun k m H => m = ys.length - k ∧ k ≤ ys.length ∧ Same H1 H ∧ H q = some (.lst ys) ∧ Prs H ys ps ∧ ∃ xs, H D = some (.lst xs) ∧ Prs H xs (((ls.take n).map fun l => (f l).getD []).flatten ++ ps.take k), ⟨_, rfl, Nat.zero_le _, sm.trans s4, hq, hys, xs, s4 _ _ hD, by rw [List.take_zero, List.append_nil]; exact hP.same s4⟩, ?_⟩
    rintro k m H ⟨rfl, hk, smk, hqk, hyk, xk, hDk, hPk⟩
    by_cases hkl : k < ys.length
    · refine .inr ⟨wl2.goes k H hkl (SqL.of hqk), fun H => k + 1 ≤ ys.length ∧ Same H1 H ∧ H q = some (.lst ys) ∧ Prs H ys ps ∧ ∃ xs, H D = some (.lst xs) ∧ Prs H xs (((ls.take n).map fun l => (f l).getD []).flatten ++ ps.take (k + 1)), fun H' h => ⟨_, by omega, rfl, h⟩, fun x H2 y => ?_⟩
      obtain ⟨rfl, hx⟩ := wl2.yields k H x H2 hkl (SqL.of hqk) y
      obtain ⟨pa, p, rfl, hp, hpa⟩ := hyk.get hx
      refine ⟨hw1 _ _, ?_⟩
      refine ⟨_, hg _ _, xk, hDk, szl ?_, hkl, ?_, ?_, ?_, xk ++ [.ref pa], upd_same, ?_⟩
      · rw [hPk.len, List.length_append, List.length_take]; omega
      · exact fun b o hb => by rw [upd_ne (ne_of_none hb nD)]; exact smk b o hb
      · rw [upd_ne hqD]; exact hqk
      · exact hyk.upd hDk
      · rw [List.take_add_one, hp, Option.toList_some, ← List.append_assoc]
        exact (hPk.upd hDk).app (.cons (by rw [upd_ne (fun e => by rw [e, hDk] at hpa; cases hpa)]; exact hpa) .nil)
    · have e : k = ys.length := by omega
      subst e
      refine .inl ⟨wl2.stops H (SqL.of hqk), by omega, hall2, smk, xk, hDk, ?_⟩
      rw [hnx]
      rw [hyk.len, List.take_length] at hPk
      exact hPk
  · have e : n = ls.length := by omega
    subst e
    refine .inl ⟨?_, hd xs H (by rw [List.take_length] at hall; exact hall) sm hD (by rw [List.take_length] at hP; exact hP)⟩
    have := wl.stops H hSH
    rw [strs_len] at this
    exact this

def allP (f : List Nat) (s : Nat) (ls : List (List Nat)) : Bool := ls.all fun t => (partsOf f s t).isSome
def pcsF (f : List Nat) (s : Nat) (ls : List (List Nat)) : List Pc := (ls.map fun t => (partsOf f s t).getD []).flatten
/-- what blocks tell: none if they are refused -/
def unbF (f : List Nat) (s : Nat) (ls : List (List Nat)) : Option (List (List Nat)) := if allP f s ls = true then stitch s none (pcsF f s ls) else none
theorem partsF_count {f : List Nat} {s : Nat} (hs : 1 ≤ s) : ∀ (n : Nat) (t : List Nat) (ps : List Pc), partsF f s n t = some ps → ps.length ≤ t.length
  | 0, t, ps, h => by cases h; exact Nat.zero_le _
  | n + 1, t, ps, h => by
    have ih := partsF_count (f := f) hs n
    unfold partsF at h
    split at h
    · cases h; exact Nat.zero_le _
    rename_i ht
    have t1 : 0 < t.length := List.length_pos_iff.mpr ht
    split at h
    · split at h
      · cases h
      · cases e : partsF f s n (t.drop s) with
        | none => rw [e] at h; cases h
        | some qs =>
          rw [e] at h
          cases h
          have := ih _ _ e
          rw [List.length_drop] at this
          rw [List.length_cons]
          omega
    · have ul : (if f = [86] then t else t.drop 1).length ≤ t.length := by
        split
        · exact Nat.le_refl _
        · rw [List.length_drop]; omega
      generalize (if f = [86] then t else t.drop 1) = u at h ul
      generalize (if f = [86] then 48 else t.headD 0) = g0 at h
      split at h
      · cases h
      · rename_i k hk
        split at h
        · cases h
        · cases e : partsF f s n (u.drop (3 + k)) with
          | none => rw [e] at h; cases h
          | some qs =>
            rw [e] at h
            cases h
            have := ih _ _ e
            rw [List.length_drop] at this
            rw [List.length_cons]
            omega
theorem pcs_cap {f : List Nat} {s m : Nat} (hs : 1 ≤ s) : ∀ {ls : List (List Nat)}, (∀ l ∈ ls, l.length ≤ m) → (pcsF f s ls).length ≤ m * ls.length
  | [], _ => Nat.zero_le _
  | l :: r, h => by
    have ih := pcs_cap (f := f) hs (ls := r) fun x hx => h x (List.mem_cons_of_mem _ hx)
    have h1 := h l List.mem_cons_self
    have h2 : ((partsOf f s l).getD []).length ≤ l.length := by
      cases e : partsOf f s l with
      | none => exact Nat.zero_le _
      | some ps => exact partsF_count hs _ _ _ e
    show (((partsOf f s l).getD []) ++ pcsF f s r).length ≤ m * (r.length + 1)
    rw [List.length_append, Nat.mul_succ]
    omega
def openV : Option (List Nat) → V
  | none => .non
  | some l => .str (S l)
theorem openV_non (o : Option (List Nat)) : decide (openV o = .non) = o.isNone := by cases o <;> rfl
def okBlks (b : Nat) : Option (List (Option (List Nat))) → Bool
  | none => false
  | some rs => rs.all fun r => match r with
    | none => false
    | some l => decide (1 ≤ l.length) && decide (l.length ≤ b)
theorem bl_dec (a b : Bool) : (!decide (V.bl a = V.bl b)) = !decide (a = b) := by cases a <;> cases b <;> rfl
theorem partsF_len (f : List Nat) (s : Nat) : ∀ (n : Nat) (t : List Nat) (ps : List Pc), partsF f s n t = some ps → ∀ p ∈ ps, p.2.length ≤ t.length
  | 0, t, ps, h, p, hp => by cases h; cases hp
  | n + 1, t, ps, h, p, hp => by
    have ih := partsF_len f s n
    unfold partsF at h
    split at h
    · cases h; cases hp
    · split at h
      · split at h
        · cases h
        · cases e : partsF f s n (t.drop s) with
          | none => rw [e] at h; cases h
          | some qs =>
            rw [e] at h
            cases h
            rcases List.mem_cons.mp hp with rfl | hp
            · exact List.length_take_le' _ _
            · exact Nat.le_trans (ih _ _ e p hp) (by rw [List.length_drop]; omega)
      · have ul : (if f = [86] then t else t.drop 1).length ≤ t.length := by
          split
          · exact Nat.le_refl _
          · rw [List.length_drop]; omega
        generalize (if f = [86] then t else t.drop 1) = u at h ul
        generalize (if f = [86] then 48 else t.headD 0) = g0 at h
        split at h
        · cases h
        · rename_i k hk
          split at h
          · cases h
          · cases e : partsF f s n (u.drop (3 + k)) with
            | none => rw [e] at h; cases h
            | some qs =>
              rw [e] at h
              cases h
              rcases List.mem_cons.mp hp with rfl | hp
              · show ((u.take (3 + k)).drop 3).length ≤ _
                rw [List.length_drop, List.length_take]; omega
              · exact Nat.le_trans (ih _ _ e p hp) (by rw [List.length_drop]; omega)
theorem Items.txt {K : PySem.W.Frag} {H : Hp} : ∀ {xs : List V} {ls : List (List Nat)}, Items K H xs (ls.map some) → xs = txs ls
  | [], [], _ => rfl
  | [], _ :: _, h => by cases h
  | _ :: _, [], h => by cases h
  | x :: xs, l :: ls, h => by
    cases h with
    | cons h t =>
      cases h with
      | str l hz => rw [t.txt]; rfl
def rIsNon : R2 := fun x y H Q => y = .non ∧ Q (.bl (decide (x = .non))) H
/-- what stands behind an open record -/
theorem te_whole {σ : L2.St} {H : Hp} {Q : VK} {i j : Nat} {o : Option (List Nat)} {p : List Nat} (hi : σ[i]? = some (some (openV o))) (hj : σ[j]? = some (some (.str (S p)))) (hz : (o.getD [] ++ p).length ≤ 16777216) (q : Q (.str (S (o.getD [] ++ p))) H) :
    tIf (tTest (tOp rIsNon (tVar i) (tC .non))) (tVar j) (tOp rAddS2 (tVar i) (tVar j)) σ H Q := by
  cases o with
  | none => exact ⟨_, hi, rfl, _, rfl, iteT ⟨_, hj, q⟩⟩
  | some l => exact ⟨_, hi, rfl, _, rfl, iteF ⟨_, hi, _, hj, _, _, rfl, rfl, by rw [← List.length_append]; exact hz, q⟩⟩
section
variable {P : Program} {w : World} {K : PySem.W.Frag} {mg : Str → Option Value} {base : Heap}
def sp_parts_of (K : PySem.W.Frag) (CB : Addr) : Sp := fun vs H Q E => ∃ (t f : List Nat) (s : Nat), vs = [.str (S t), .str (S f), .int s] ∧ t.length < 1000000 ∧ 1 ≤ s ∧ s < 1000 ∧
  (∀ ps, partsOf f s t = some ps → ∀ q xs H', H q = none → Same H H' → H' q = some (.lst xs) → Prs H' xs ps → Q (.ref q) H') ∧ (partsOf f s t = none → ∀ H', Same H H' → E (.ref CB) none H')
theorem ok_parts_of (T : Txt K mg) : FnOk P w K mg base (L2.CX P w) 2 T.parts_of.a T.parts_of.d ["block", "form", "size"] (sp_parts_of K T.BadBlock.C) := by
  refine T.parts_of.F.okX sc_parts_of (fun vs H Q E h => ?_) (fun cdv A outer s0 H vs Q E hr h => ?_)
  · obtain ⟨t, f, s, rfl, _⟩ := h
    rfl
  · obtain ⟨t0, f, s, rfl, hz, hs1, hs2, k1, k2⟩ := h
    refine ⟨_, (pss_cons (ps_set (i := 3) sc_parts_of.nd rfl (.inl rfl) (pe_lst pa_nil))
    (pss_cons (ps_while (passes_of rfl) (pt_cmpR op_neS (pv 0) (pe_strS (l := []) (by decide +kernel)) (nomark _))
      (pss_cons (ps_if (pt_cmpR op_eqS (pv 1) (pe_glob (v := .str (S [70])) rfl T.FIXED.g ⟨_, rfl⟩) (nomark _))
        (pss_cons (ps_par3 (i := 4) (j := 5) (l := 0) (by rfl) sc_parts_of.nd rfl rfl rfl (by decide) (by decide) (by decide) rfl rfl rfl (pa_cons (pe_strS (l := [48]) (by decide +kernel)) (pa_cons (pe_slice sl_strS (pv 0) po_none (po_some (pv 2))) (pa_cons (pe_slice sl_strS (pv 0) (po_some (pv 2)) po_none) pa_nil))) (by rfl))
        (pss_one (ps_if (pt_cmpR op_lt (pe_callB call_lenS (by rfl) T.z_len PySem.boot_len (pa_cons (pv 5) pa_nil)) (pv 2) (nomark _))
          (pss_one (ps_raise rfl (takes_of rfl rfl rfl rfl) (pmk_own PySem.F.excBase_ValueError T.BadBlock.x T.BadBlock.g T.BadBlock.k (raises_own T.BadBlock.b T.BadBlock.t) (by exact rfl))))
          pss_nil)))
        (pss_cons (ps_set (i := 4) sc_parts_of.nd rfl (.inl rfl) (pe_ifExp (pt_cmpR op_eqS (pv 1) (pe_glob (v := .str (S [86])) rfl T.VARIED.g ⟨_, rfl⟩) (nomark _)) (pe_strS (l := [48]) (by decide +kernel)) (pe_ix ix_strS (pv 0) pe_int (fun _ _ => rfl))))
        (pss_cons (ps_set (i := 0) sc_parts_of.nd rfl (.inl rfl) (pe_ifExp (pt_cmpR op_eqS (pv 1) (pe_glob (v := .str (S [86])) rfl T.VARIED.g ⟨_, rfl⟩) (nomark _)) (pv 0) (pe_slice sl_strS (pv 0) (po_some pe_int) po_none)))
        (pss_cons (ps_set (i := 6) sc_parts_of.nd rfl (.inl rfl) (pe_call (ok_length_in T) (hr.mono (by decide)) (by rfl) T.length_in.g T.length_in.F.kp T.length_in.b .nil (passes_call (takes_of rfl rfl rfl rfl) (fun _ _ _ _ h => h)) (pa_cons (pv 0) pa_nil)))
        (pss_cons (ps_par (i := 5) (j := 0) (by rfl) sc_parts_of.nd rfl rfl (by decide) rfl rfl (pa_cons (pe_slice sl_strS (pv 0) (po_some pe_int) (po_some (pe_op op_add pe_int (pv 6)))) (pa_cons (pe_slice sl_strS (pv 0) (po_some (pe_op op_add pe_int (pv 6))) po_none) pa_nil)) (by rfl))
        (pss_one (ps_if (PW.pt (pw_or (pt_cmpR op_lt (pe_callB call_lenS (by rfl) T.z_len PySem.boot_len (pa_cons (pv 5) pa_nil)) (pv 6) (nomark _)) (pw_or1 (pt_cmpR op_notInS2 (pv 4) (pe_strS (l := [48, 49, 50, 51]) (by decide +kernel)) (by rfl)))))
          (pss_one (ps_raise rfl (takes_of rfl rfl rfl rfl) (pmk_own PySem.F.excBase_ValueError T.BadBlock.x T.BadBlock.g T.BadBlock.k (raises_own T.BadBlock.b T.BadBlock.t) (by exact rfl))))
          pss_nil)))))))
      (pss_one (ps_expr (pe_bm PySem.F.plainAttrs_list PySem.F.slot_list_append PySem.F.type_list_append mt_append (pv 3) (pa_cons (pe_tup (pa_cons (pv 4) (pa_cons (pv 5) pa_nil))) pa_nil))))))
    (pss_one (ps_ret (pv 3))))), ?_⟩
    refine ⟨sz (by decide), fun q nq => ?_⟩
    refine ⟨fun m σ H' => ∃ (t : List Nat) (done : List Pc) (xs : List V) (o4 o5 o6 : Option V), σ = [some (.str (S t)), some (.str (S f)), some (.int s), some (.ref q), o4, o5, o6] ∧ Grow H q H' xs ∧ Prs H' xs done ∧ partsOf f s t0 = (partsF f s m t).map (done ++ ·) ∧ t.length < m ∧ done.length + m ≤ 1000001, ⟨t0.length + 1, t0, [], [], none, none, none, rfl, .start nq, .nil, ?_, by omega, by rw [List.length_nil]; omega⟩, fun m σ H' w => ?_⟩
    · unfold partsOf
      cases partsF f s (t0.length + 1) t0 <;> rfl
    obtain ⟨t, done, xs, o4, o5, o6, rfl, g, hP, hrd, htm, hcap⟩ := w
    obtain ⟨n, rfl⟩ : ∃ n, m = n + 1 := ⟨m - 1, by omega⟩
    have dl := hP.len
    refine ⟨_, rfl, _, _, rfl, rfl, _, rfl, iteN (fun e0 => ?_) (fun e0 => ?_)⟩
    · have tl : 0 < t.length := List.length_pos_iff.mpr e0
      have rd : partsF f s (n + 1) t = if t = [] then some [] else if f = [70] then (if (t.take s).length < s then none else (partsF f s n (t.drop s)).map ((48, t.take s) :: ·)) else match lenIn (if f = [86] then t else t.drop 1) with
        | none => none
        | some k => if (((if f = [86] then t else t.drop 1).take (3 + k)).drop 3).length < k ∨ (if f = [86] then 48 else t.headD 0) ∉ ([48, 49, 50, 51] : List Nat) then none
          else (partsF f s n ((if f = [86] then t else t.drop 1).drop (3 + k))).map (((if f = [86] then 48 else t.headD 0), ((if f = [86] then t else t.drop 1).take (3 + k)).drop 3) :: ·) := rfl
      rw [if_neg e0] at rd
      -- behind a part
      have next : ∀ (u p : List Nat) (g0 : Nat) (H2 : Hp) (e : Addr) (o6' : Option V), Same H' H2 → H2 e = none → partsF f s (n + 1) t = (partsF f s n u).map ((g0, p) :: ·) → u.length < t.length →
          ∃ m', m' < n + 1 ∧ ∃ (t : List Nat) (done : List Pc) (xs' : List V) (o4 o5 o6 : Option V), [some (V.str (S u)), some (.str (S f)), some (.int (s : Nat)), some (.ref q), some (.str (S [g0])), some (.str (S p)), o6'] = [some (.str (S t)), some (.str (S f)), some (.int (s : Nat)), some (.ref q), o4, o5, o6] ∧ Grow H q (upd (upd H2 e (.tup [.str (S [g0]), .str (S p)])) q (.lst (xs ++ [.ref e]))) xs' ∧ Prs (upd (upd H2 e (.tup [.str (S [g0]), .str (S p)])) q (.lst (xs ++ [.ref e]))) xs' done ∧ partsOf f s t0 = (partsF f s m' t).map (done ++ ·) ∧ t.length < m' ∧ done.length + m' ≤ 1000001 := by
        intro u p g0 H2 e o6' s2 ne hr hu
        have g2 := (g.same s2).new (o := .tup [.str (S [g0]), .str (S p)]) ne
        refine ⟨n, Nat.lt_succ_self _, u, done ++ [(g0, p)], xs ++ [.ref e], _, _, _, rfl, g2.set, ?_, ?_, by omega, by rw [List.length_append, List.length_singleton]; omega⟩
        · refine (((hP.same s2).same (same_new ne)).upd g2.2.2).app (.cons ?_ .nil)
          rw [upd_ne (fun h => by rw [h] at ne; rw [(g.same s2).2.2] at ne; cases ne)]
          exact upd_same
        · rw [hrd, hr]
          cases partsF f s n u with
          | none => rfl
          | some ps =>
            show some (done ++ ((g0, p) :: ps)) = some (done ++ [(g0, p)] ++ ps)
            rw [List.append_assoc]
            rfl
      refine ⟨_, fun _ _ h => h, ?_⟩
      refine ⟨_, rfl, _, _, rfl, rfl, _, rfl, iteD (fun ef => ?_) (fun ef => ?_)⟩
      · rw [if_pos ef] at rd
        refine ⟨_, rfl, _, rfl, _, rfl, t, rfl, by omega, _, rfl, _, rfl, _, rfl, t, rfl, by omega, _, _, _, rfl, ?_⟩
        rw [show sl t none (some ((s : Nat) : Int)) = t.take s from sl_to t s, show sl t (some ((s : Nat) : Int)) none = t.drop s from sl_from t s]
        have tk : (t.take s).length ≤ t.length := by rw [List.length_take]; omega
        refine ⟨_, rfl, _, rfl, by omega, _, rfl, _, _, rfl, rfl, _, rfl, iteD (fun e1 => ?_) (fun e1 => ?_)⟩
        · rw [if_pos (by omega)] at rd
          exact k2 (by rw [hrd, rd]; rfl) _ g.2.1
        · rw [if_neg (by omega)] at rd
          refine ⟨_, rfl, .inl ⟨rfl, _, SqL.of g.2.2⟩, _, rfl, _, rfl, sz (show 2 ≤ 16777216 by decide), fun e ne => ?_⟩
          have g2 := g.new (o := .tup [.str (S [48]), .str (S (t.take s))]) ne
          exact ⟨q, _, _, rfl, rfl, g2.2.2, szl (by omega), next (t.drop s) (t.take s) 48 H' e o6 (Same.refl _) ne rd (by rw [List.length_drop]; omega)⟩
      · rw [if_neg ef] at rd
        obtain ⟨u, g0, hu, hg, hul⟩ : ∃ (u : List Nat) (g0 : Nat), (if f = [86] then t else t.drop 1) = u ∧ (if f = [86] then 48 else t.headD 0) = g0 ∧ u.length ≤ t.length := by
          refine ⟨_, _, rfl, rfl, ?_⟩
          split
          · exact Nat.le_refl _
          · rw [List.length_drop]; omega
        rw [hu, hg] at rd
        have rest : True := trivial
        by_cases hv : f = [86]
        · rw [if_pos hv] at hu hg
          subst hu hg
          refine ⟨_, rfl, _, _, rfl, rfl, _, rfl, iteD (fun _ => ?_) (fun h => absurd hv h)⟩
          refine ⟨_, rfl, _, _, rfl, rfl, _, rfl, iteD (fun _ => ⟨_, rfl, ?_⟩) (fun h => absurd hv h)⟩
          refine ⟨_, rfl, t, rfl, by omega, fun k hk H2 s2 => ?_, fun hk H2 s2 => ?_⟩
          · rw [hk] at rd
            dsimp only at rd
            have e1 : sl t (some (3 : Int)) (some ((3 : Int) + ((k : Nat) : Int))) = (t.take (3 + k)).drop 3 := by
              rw [show (3 : Int) + ((k : Nat) : Int) = ((3 + k : Nat) : Int) by omega]
              exact sl_mid t 3 (3 + k)
            have e2 : sl t (some ((3 : Int) + ((k : Nat) : Int))) none = t.drop (3 + k) := by
              rw [show (3 : Int) + ((k : Nat) : Int) = ((3 + k : Nat) : Int) by omega]
              exact sl_from t (3 + k)
            refine ⟨_, rfl, _, rfl, _, rfl, _, _, rfl, rfl, _, rfl, t, rfl, by omega, _, rfl, _, rfl, _, _, rfl, rfl, _, rfl, t, rfl, by omega, _, _, rfl, ?_⟩
            rw [e1, e2]
            have tk : ((t.take (3 + k)).drop 3).length ≤ t.length := by rw [List.length_drop, List.length_take]; omega
            refine ⟨_, rfl, _, rfl, by omega, _, rfl, _, _, rfl, rfl, _, rfl, iteD (fun e3 => iteT ?_) (fun e3 => ⟨_, rfl, 48, [48, 49, 50, 51], rfl, rfl, !decide (48 ∈ ([48, 49, 50, 51] : List Nat)), rfl, iteN (fun e4 => ?_) (fun e4 => ?_)⟩)⟩
            · rw [if_pos (.inl (by omega))] at rd
              exact k2 (by rw [hrd, rd]; rfl) _ (g.2.1.trans s2)
            · rw [if_pos (.inr e4)] at rd
              exact k2 (by rw [hrd, rd]; rfl) _ (g.2.1.trans s2)
            · rw [if_neg (fun h => h.elim (fun h => e3 (by omega)) (fun h => h e4))] at rd
              refine ⟨_, rfl, .inl ⟨rfl, _, SqL.of (s2 _ _ g.2.2)⟩, _, rfl, _, rfl, sz (show 2 ≤ 16777216 by decide), fun e ne => ?_⟩
              have g2 := (g.same s2).new (o := .tup [.str (S [48]), .str (S ((t.take (3 + k)).drop 3))]) ne
              refine ⟨q, _, _, rfl, rfl, g2.2.2, szl (by omega), next (t.drop (3 + k)) ((t.take (3 + k)).drop 3) 48 H2 e _ s2 ne rd ?_⟩
              rw [List.length_drop]
              (try rw [List.length_cons])
              omega
          · have rn := rd
            rw [hk] at rn
            exact k2 (by rw [hrd, rn]; rfl) _ (g.2.1.trans s2)
        · rw [if_neg hv] at hu hg
          obtain ⟨c, r, rfl⟩ : ∃ c r, t = c :: r := by
            cases t with
            | nil => exact absurd rfl e0
            | cons c r => exact ⟨c, r, rfl⟩
          have hu' : r = u := hu
          have hg' : c = g0 := hg
          subst hu' hg'
          refine ⟨_, rfl, _, _, rfl, rfl, _, rfl, iteD (fun h => absurd h hv) (fun _ => ?_)⟩
          refine ⟨_, rfl, c :: r, 0, c, rfl, rfl, by omega, (show atI (c :: r) ((0 : Nat) : Int) = some c from atI_nat rfl), ?_⟩
          refine ⟨_, rfl, _, _, rfl, rfl, _, rfl, iteD (fun h => absurd h hv) (fun _ => ⟨_, rfl, _, rfl, c :: r, rfl, by omega, ?_⟩)⟩
          rw [show sl (c :: r) (some (1 : Int)) none = r from sl_from (c :: r) 1]
          refine ⟨_, rfl, r, rfl, by omega, fun k hk H2 s2 => ?_, fun hk H2 s2 => ?_⟩
          · rw [hk] at rd
            dsimp only at rd
            have e1 : sl r (some (3 : Int)) (some ((3 : Int) + ((k : Nat) : Int))) = (r.take (3 + k)).drop 3 := by
              rw [show (3 : Int) + ((k : Nat) : Int) = ((3 + k : Nat) : Int) by omega]
              exact sl_mid r 3 (3 + k)
            have e2 : sl r (some ((3 : Int) + ((k : Nat) : Int))) none = r.drop (3 + k) := by
              rw [show (3 : Int) + ((k : Nat) : Int) = ((3 + k : Nat) : Int) by omega]
              exact sl_from r (3 + k)
            refine ⟨_, rfl, _, rfl, _, rfl, _, _, rfl, rfl, _, rfl, r, rfl, by omega, _, rfl, _, rfl, _, _, rfl, rfl, _, rfl, r, rfl, by omega, _, _, rfl, ?_⟩
            rw [e1, e2]
            have tk : ((r.take (3 + k)).drop 3).length ≤ r.length := by rw [List.length_drop, List.length_take]; omega
            refine ⟨_, rfl, _, rfl, by omega, _, rfl, _, _, rfl, rfl, _, rfl, iteD (fun e3 => iteT ?_) (fun e3 => ⟨_, rfl, c, [48, 49, 50, 51], rfl, rfl, !decide (c ∈ ([48, 49, 50, 51] : List Nat)), rfl, iteN (fun e4 => ?_) (fun e4 => ?_)⟩)⟩
            · rw [if_pos (.inl (by omega))] at rd
              exact k2 (by rw [hrd, rd]; rfl) _ (g.2.1.trans s2)
            · rw [if_pos (.inr e4)] at rd
              exact k2 (by rw [hrd, rd]; rfl) _ (g.2.1.trans s2)
            · rw [if_neg (fun h => h.elim (fun h => e3 (by omega)) (fun h => h e4))] at rd
              refine ⟨_, rfl, .inl ⟨rfl, _, SqL.of (s2 _ _ g.2.2)⟩, _, rfl, _, rfl, sz (show 2 ≤ 16777216 by decide), fun e ne => ?_⟩
              have g2 := (g.same s2).new (o := .tup [.str (S [c]), .str (S ((r.take (3 + k)).drop 3))]) ne
              refine ⟨q, _, _, rfl, rfl, g2.2.2, szl (by omega), next (r.drop (3 + k)) ((r.take (3 + k)).drop 3) c H2 e _ s2 ne rd ?_⟩
              rw [List.length_drop]
              (try rw [List.length_cons])
              omega
          · have rn := rd
            rw [hk] at rn
            exact k2 (by rw [hrd, rn]; rfl) _ (g.2.1.trans s2)
    · subst e0
      have : partsF f s (n + 1) [] = some [] := rfl
      rw [this] at hrd
      refine ⟨_, rfl, k1 _ hrd q xs H' g.1 g.2.1 g.2.2 ?_⟩
      show Prs H' xs (done ++ [])
      rw [List.append_nil]
      exact hP
def sp_unblocked (K : PySem.W.Frag) (CF CB : Addr) : Sp := fun vs H Q E => ∃ (v x b s : V) (r : Option (List (Option (List Nat)))) (n1 n2 n3 : String), vs = [v, x, b, s] ∧ Recs K H v r ∧ Pl K H x n1 ∧ Pl K H b n2 ∧ Pl K H s n3 ∧
  (okForm x b s = false → E (.ref CF) none H) ∧ (okForm x b s = true → ∀ (f : List Nat) (bi si : Nat), x = .str (S f) → b = .int bi → s = .int si →
    (okBlks bi r = false → ∀ H', Same H H' → E (.ref CB) none H') ∧ (okBlks bi r = true → ∃ ls : List (List Nat), r = some (ls.map some) ∧ ls.length ≤ 16200 ∧
      (∀ rs, unbF f si ls = some rs → ∀ q H', Grow H q H' (txs rs) → Q (.ref q) H') ∧ (unbF f si ls = none → ∀ H', Same H H' → E (.ref CB) none H')))
theorem ok_unblocked (T : Txt K mg) : FnOk P w K mg base (L2.CX P w) 3 T.unblocked.a T.unblocked.d ["blocks", "form", "block", "size"] (sp_unblocked K T.BadForm.C T.BadBlock.C) := by
  refine T.unblocked.F.okX sc_unblocked (fun vs H Q E h => ?_) (fun cdv A outer s0 H vs Q E hr h => ?_)
  · obtain ⟨v, x, b, s, r, n1, n2, n3, rfl, _⟩ := h
    rfl
  · obtain ⟨v, x, b, s, r, n1, n2, n3, rfl, hR, hx, hb, hs, k1, k2⟩ := h
    refine ⟨_, (pss_cons (ps_expr (pe_call (ok_look_form T) (hr.mono (by decide)) (by rfl) T.look_form.g T.look_form.F.kp T.look_form.b .nil (passes_call (takes_of rfl rfl rfl rfl) (fun _ _ _ _ h => h)) (pa_cons (pv 1) (pa_cons (pv 2) (pa_cons (pv 3) pa_nil)))))
    (pss_cons (ps_if (PW.pt (pw_or (pt_not (pt_val (pe_callB call_isi (by rfl) T.z_isinstance (by decide +kernel) (pa_cons (pv 0) (pa_cons (pe_bltn (v := .ty "list") (by rfl) T.z_list (by decide +kernel) rfl) pa_nil))))) (pw_or1 (pt_not (pt_val (pe_callB (cr_all rfl) (by rfl) T.z_all (by decide +kernel) (pa_cons (pe_lc (own := [("one", 9)]) (g := gName 9) rfl sc_unblocked.nd (pi_listC (K := K) rfl (pv 0)) (blkOk_by (N := N_unblocked) (sc := defScope s_unblocked) (by decide +kernel)) (fun _ _ _ _ _ => (pg_name (i := 9) sc_unblocked.nd rfl (.inl rfl))) (fun _ _ _ _ _ => pts_nil) (fun _ _ _ _ _ => (pe_and (pe_callB (call_isiC (K := K) rfl) (by rfl) T.z_isinstance (by decide +kernel) (pa_cons (pv 9) (pa_cons (pe_bltn (v := .ty "str") (by rfl) T.z_str (by decide +kernel) rfl) pa_nil))) (pe_one (pe_chain op_le op_le pe_int (pe_callB call_lenS (by rfl) T.z_len PySem.boot_len (pa_cons (pv 9) pa_nil)) (pv 2)))))) pa_nil)))))))
      (pss_one (ps_raise rfl (takes_of rfl rfl rfl rfl) (pmk_own PySem.F.excBase_ValueError T.BadBlock.x T.BadBlock.g T.BadBlock.k (raises_own T.BadBlock.b T.BadBlock.t) (by exact rfl))))
      pss_nil)
    (pss_cons (ps_set (i := 4) sc_unblocked.nd rfl (.inl rfl) (pe_lst pa_nil))
    (pss_cons (ps_set (i := 5) sc_unblocked.nd rfl (.inl rfl) pe_non)
    (pss_cons (ps_for (passes_of rfl) rfl
      (pi_list (pe_lc2R (own := [("one", 9), ("pair", 10)]) (vs1 := [10]) (g := gName 9) (g1 := gName 10) (takes_of rfl rfl rfl rfl) rfl rfl rfl sc_unblocked.nd (pi_listC (K := K) rfl (pv 0)) (blkOk_by (N := N_unblocked) (sc := defScope s_unblocked) (by decide +kernel)) (by decide) (fun _ _ _ _ _ => (pg_name (i := 9) sc_unblocked.nd rfl (.inl rfl))) (fun _ _ _ _ _ => pts_nil) (fun _ _ _ _ _ hp => (pi_listC (K := K) rfl (pe_call (ok_parts_of T) (hr.mono (by decide)) (by rfl) T.parts_of.g T.parts_of.F.kp T.parts_of.b .nil hp (pa_cons (pv 9) (pa_cons (pv 1) (pa_cons (pv 3) pa_nil)))))) (fun _ _ _ _ _ => (pg_name (i := 10) sc_unblocked.nd rfl (.inl rfl))) (fun _ _ _ _ _ => pts_nil) (fun _ _ _ _ _ => (pv 10)))) (pg_tup rfl (pgs_cons (pg_name (i := 6) sc_unblocked.nd rfl (.inl rfl)) (pgs_cons (pg_name (i := 7) sc_unblocked.nd rfl (.inl rfl)) pgs_nil)))
      (pss_cons (ps_if (pt_cmpR op_ne (pe_cmpR op_inS2 (pv 6) (pe_strS (l := [48, 49]) (by decide +kernel)) (by rfl)) (pe_cmpR op_isN (pv 5) pe_non (nomark _)) (nomark _))
        (pss_one (ps_raise rfl (takes_of rfl rfl rfl rfl) (pmk_own PySem.F.excBase_ValueError T.BadBlock.x T.BadBlock.g T.BadBlock.k (raises_own T.BadBlock.b T.BadBlock.t) (by exact rfl))))
        pss_nil)
      (pss_cons (ps_set (i := 8) sc_unblocked.nd rfl (.inl rfl) (pe_ifExp (pt_cmpR op_isN (pv 5) pe_non (nomark _)) (pv 7) (pe_op op_addS (pv 5) (pv 7))))
      (pss_cons (ps_if (pt_cmpR op_gt (pe_callB call_lenS (by rfl) T.z_len PySem.boot_len (pa_cons (pv 8) pa_nil)) (pv 3) (nomark _))
        (pss_one (ps_raise rfl (takes_of rfl rfl rfl rfl) (pmk_own PySem.F.excBase_ValueError T.BadBlock.x T.BadBlock.g T.BadBlock.k (raises_own T.BadBlock.b T.BadBlock.t) (by exact rfl))))
        pss_nil)
      (pss_cons (ps_set (i := 5) sc_unblocked.nd rfl (.inl rfl) (pe_ifExp (pt_cmpR op_inS2 (pv 6) (pe_strS (l := [48, 50]) (by decide +kernel)) (by rfl)) pe_non (pv 8)))
      (pss_one (ps_if (pt_cmpR op_isN (pv 5) pe_non (nomark _))
        (pss_one (ps_expr (pe_bm PySem.F.plainAttrs_list PySem.F.slot_list_append PySem.F.type_list_append mt_append (pv 4) (pa_cons (pv 8) pa_nil))))
        pss_nil)))))))
    (pss_cons (ps_if (pt_cmpR op_notN (pv 5) pe_non (nomark _))
      (pss_one (ps_raise rfl (takes_of rfl rfl rfl rfl) (pmk_own PySem.F.excBase_ValueError T.BadBlock.x T.BadBlock.g T.BadBlock.k (raises_own T.BadBlock.b T.BadBlock.t) (by exact rfl))))
      pss_nil)
    (pss_one (ps_ret (pv 4))))))))), ?_⟩
    refine ⟨_, rfl, _, rfl, _, rfl, x, b, s, n1, n2, n3, rfl, hx, hb, hs, fun ok => ?_, fun no => k1 no⟩
    obtain ⟨f, bi, si, rfl, rfl, rfl, hf1, hb1, hb2, hs1, hs2, hf2⟩ := okForm_iff ok
    obtain ⟨k3, k4⟩ := k2 ok f bi si rfl rfl rfl
    obtain ⟨n, hn, hl⟩ := hR.pl
    refine ⟨_, rfl, _, _, _, _, _, rfl, .ty _, hn.ty, kit_list hn, _, rfl, ?_⟩
    rw [hl]
    cases hR with
    | no h hn => exact iteT (iteT (k3 rfl _ (Same.refl _)))
    | lst hS hi hz =>
      rename_i a xs rs
      refine iteF ⟨_, rfl, a, rfl, ⟨_, hS⟩, fun D nD => lc_items (fun r => match r with | none => false | some l => decide (1 ≤ l.length) && decide (l.length ≤ bi)) hS hi hz nD (fun _ => rfl) (fun x r H' hr hI s1 Q2 q2 => ?_) (fun H1 s1 hD => ?_)⟩
      · obtain ⟨n4, hn4, hl4⟩ := hI.pl
        refine ⟨_, rfl, _, _, _, _, _, rfl, .ty _, hn4.ty, kit_str hn4, _, rfl, ?_⟩
        rw [hl4]
        cases hI with
        | no h hn => exact iteF (q2 _ (Same.refl _))
        | str l hz =>
          refine iteT ⟨_, rfl, l, rfl, by omega, _, _, rfl, rfl, _, rfl, iteD (fun e1 => ⟨_, rfl, _, _, rfl, rfl, ?_⟩) (fun e1 => ?_)⟩
          · have := q2 _ (Same.refl _)
            dsimp only at this
            rw [decide_eq_true (show 1 ≤ l.length by omega), Bool.true_and, show decide (l.length ≤ bi) = decide ((l.length : Int) ≤ (bi : Int)) from decide_eq_decide.mpr (by omega)] at this
            exact this
          · have := q2 _ (Same.refl _)
            dsimp only at this
            rw [decide_eq_false (show ¬ 1 ≤ l.length by omega), Bool.false_and] at this
            exact this
      · refine ⟨_, _, rfl, SqL.of hD, _, rfl, ?_⟩
        rw [show ((rs.map _).all id) = okBlks bi (some rs) by rw [List.all_map]; rfl]
        refine iteNB (fun e => k3 e _ s1) (fun e => ?_)
        obtain ⟨ls, hrs, hmany, k5, k6⟩ := k4 e
        have hrs' : rs = ls.map some := Option.some.inj hrs
        subst hrs'
        have hxs := hi.txt
        subst hxs
        have hlb : ∀ l ∈ ls, l.length ≤ bi := fun l hl => by
          have e' : (ls.map some).all (fun r => match r with | none => false | some l => decide (1 ≤ l.length) && decide (l.length ≤ bi)) = true := e
          have := List.all_eq_true.mp e' (some l) (List.mem_map.mpr ⟨l, hl, rfl⟩)
          dsimp only at this
          rw [Bool.and_eq_true, decide_eq_true_eq, decide_eq_true_eq] at this
          exact this.2
        have hcap : (pcsF f si ls).length < 1000000 := by
          have := pcs_cap (f := f) hs1 (m := 60) (ls := ls) fun l hl => by have := hlb l hl; omega
          omega
        have hpl : ∀ p ∈ pcsF f si ls, p.2.length ≤ 60 := fun p hp => by
          obtain ⟨ps, hps, hp⟩ := List.mem_flatten.mp hp
          obtain ⟨l, hl, rfl⟩ := List.mem_map.mp hps
          have h2 := hlb l hl
          cases e5 : partsOf f si l with
          | none => rw [e5] at hp; cases hp
          | some ps =>
            rw [e5] at hp
            have h1 := partsF_len f si _ l _ e5 p hp
            omega
        refine ⟨sz (by decide), fun q nq => ?_⟩
        have s2 := s1.trans (same_new (o := .lst []) nq)
        have nqH := s1.free nq
        refine ⟨_, rfl, a, rfl, ⟨_, sql_same hS s2⟩, fun D2 nD2 => lc2_pairsR (i := 9) (j := 10) (partsOf f si) (sql_same hS s2) nD2 (by show (pcsF f si ls).length < 16777216; omega) (fun _ => rfl) (fun _ _ => rfl) (fun _ _ => rfl) (fun l H2 hl s3 Q1 q1 => ?_) (fun zs H2 hall s3 hD2 hP => ?_)⟩
        · have := hlb l hl
          exact ⟨_, rfl, _, rfl, _, rfl, l, f, si, rfl, by omega, hs1, by omega, fun ps hps q2 xs2 H4 nq2 s4 hq2 hP2 => ⟨q2, rfl, ⟨_, SqL.of hq2⟩, q1 ps q2 xs2 H4 hps s4 nq2 hq2 hP2⟩, fun hn H5 s5 => k6 (if_neg fun h => by
            have := List.all_eq_true.mp h l hl
            rw [hn] at this
            cases this) _ ((s2.trans s3).trans s5)⟩
        · have hqD : q ≠ D2 := fun h => by rw [← h, upd_same] at nD2; cases nD2
          have zl := hP.len
          have hu : unbF f si ls = stitch si none (pcsF f si ls) := if_pos (List.all_eq_true.mpr hall)
          rw [hu] at k5 k6
          have hP : Prs H2 zs (pcsF f si ls) := hP
          have zl : zs.length = (pcsF f si ls).length := zl
          clear hu
          generalize pcsF f si ls = PS at hP k5 k6 hcap hpl zl
          refine ⟨D2, rfl, ⟨_, SqL.of hD2⟩, for_it (walk_list (xs := zs)) (fun i σ H' => ∃ (o : Option (List Nat)) (recs : List (List Nat)) (o6 o7 o8 : Option V), σ = [some (.ref a), some (.str (S f)), some (.int bi), some (.int si), some (.ref q), some (openV o), o6, o7, o8, none, none] ∧ Grow H q H' (txs recs) ∧ H' D2 = some (.lst zs) ∧ Prs H' zs PS ∧
            stitch si none PS = (stitch si o (PS.drop i)).map (recs ++ ·) ∧ recs.length ≤ i ∧ (∀ l, o = some l → l.length ≤ 200)) ⟨none, [], none, none, none, rfl, ⟨nqH, s2.trans s3, s3 _ _ upd_same⟩, hD2, hP, ?_, Nat.le_refl _, fun l h => by cases h⟩ (fun i σ H' _ h => by obtain ⟨o, recs, o6, o7, o8, _, _, hD, _⟩ := h; exact SqL.of hD) ?_ ?_⟩
          · rw [List.drop_zero]
            cases stitch si none PS <;> rfl
          · rintro i x σ H3 H4 hlt ⟨o, recs, o6, o7, o8, rfl, g, hD, hP3, hst, hrl, hol⟩ ⟨rfl, hx⟩
            obtain ⟨pa, p, rfl, hp, hpa⟩ := hP3.get hx
            obtain ⟨p1, p2⟩ := p
            have hpa : H4 pa = some (.tup [.str (S [p1]), .str (S p2)]) := hpa
            have pl := hpl _ (List.mem_of_getElem? hp)
            have hdr : PS.drop i = (p1, p2) :: PS.drop (i + 1) := by
              obtain ⟨hi', e⟩ := List.getElem?_eq_some_iff.mp hp
              rw [List.drop_eq_getElem_cons hi', e]
            rw [hdr, stitch_cons] at hst
            have hgl : (o.getD [] ++ p2).length ≤ 260 := by
              rw [List.length_append]
              dsimp only at pl
              cases o with
              | none => show 0 + p2.length ≤ 260; omega
              | some l => have := hol l rfl; show l.length + p2.length ≤ 260; omega
            refine ⟨pa, _, rfl, .inl (.inl hpa), rfl, _, _, rfl, _, _, rfl, rfl, ?_⟩
            refine ⟨_, rfl, _, _, rfl, rfl, _, rfl, rfl, rfl, _, rfl, ?_⟩
            show if (!decide (V.bl (decide (p1 ∈ ([48, 49] : List Nat))) = V.bl (decide (openV o = .non)))) = true then _ else _
            rw [openV_non, bl_dec]
            refine iteN (fun e1 => ?_) (fun e1 => ?_)
            · rw [if_neg e1] at hst
              exact k6 hst _ g.2.1
            · rw [if_pos e1] at hst
              refine te_whole rfl rfl (by omega) ?_
              refine ⟨_, rfl, _, rfl, by omega, _, rfl, _, _, rfl, rfl, _, rfl, iteD (fun e2 => ?_) (fun e2 => ?_)⟩
              · rw [if_pos e2] at hst
                exact k6 hst _ g.2.1
              · rw [if_neg e2] at hst
                refine ⟨_, rfl, _, _, rfl, rfl, decide (p1 ∈ ([48, 50] : List Nat)), rfl, iteD (fun e3 => ?_) (fun e3 => ?_)⟩
                · rw [if_pos e3] at hst
                  refine ⟨_, rfl, rfl, _, rfl, iteD (fun _ => ?_) (fun h => absurd rfl h)⟩
                  refine ⟨_, rfl, .inl ⟨rfl, _, SqL.of g.2.2⟩, _, rfl, q, _, _, rfl, rfl, g.2.2, szl (by rw [strs_len]; omega), ?_⟩
                  refine ⟨none, recs ++ [o.getD [] ++ p2], _, _, _, rfl, ?_, by rw [upd_ne hqD.symm]; exact hD, hP3.upd g.2.2, ?_, by rw [List.length_append, List.length_singleton]; omega, fun l h => by cases h⟩
                  · rw [strs_app]; exact g.set
                  · rw [hst]
                    cases stitch si none (PS.drop (i + 1)) with
                    | none => rfl
                    | some rs =>
                      show some (recs ++ ((o.getD [] ++ p2) :: rs)) = some (recs ++ [o.getD [] ++ p2] ++ rs)
                      rw [List.append_assoc recs]
                      rfl
                · rw [if_neg e3] at hst
                  refine ⟨_, rfl, ?_⟩
                  refine ⟨_, rfl, rfl, _, rfl, iteD (fun h => by cases h) (fun _ => ?_)⟩
                  refine ⟨some (o.getD [] ++ p2), recs, _, _, _, rfl, g, hD, hP3, hst, by omega, fun l h => ?_⟩
                  cases h
                  omega
          · rintro σ H3 ⟨o, recs, o6, o7, o8, rfl, g, hD, hP3, hst, hrl, hol⟩
            rw [zl, List.drop_length] at hst
            refine ⟨_, rfl, rfl, _, rfl, ?_⟩
            cases o with
            | none =>
              refine iteN (fun h => absurd rfl h) (fun _ => ?_)
              refine ⟨_, rfl, k5 recs ?_ q H3 g⟩
              rw [hst]
              show some (recs ++ []) = _
              rw [List.append_nil]
            | some l => exact iteN (fun _ => k6 hst _ g.2.1) (fun h => by cases h)
end
end R
set_option maxRecDepth 100000
set_option maxHeartbeats 4000000
namespace R
open PySem PySem.Spec PyProof.Rows L2 RZ
open PySem.W (Datum)
/-! ### what is read of the blocks that records made -/
theorem lenIn_fig {n : Nat} (h : n < 1000) (t : List Nat) : lenIn (fig n 3 ++ t) = some n := by
  have l3 : (fig n 3).length = 3 := fig_len (by decide) h
  have e : (fig n 3 ++ t).take 3 = fig n 3 := by rw [List.take_append_of_le_length (by omega), List.take_of_length_le (by omega)]
  unfold lenIn
  rw [e, if_pos ⟨l3, List.all_eq_true.mpr fun c hc => (isDig_iff c).mpr (fig_all n 3 c hc)⟩, fig_val]
def encV (p : Pc) : List Nat := fig p.2.length 3 ++ p.2
theorem part_F {s n : Nat} {r t : List Nat} (h : r.length = s) (hs : 1 ≤ s) : partsF [70] s (n + 1) (r ++ t) = (partsF [70] s n t).map ((48, r) :: ·) := by
  have e1 : (r ++ t).take s = r := by rw [List.take_append_of_le_length (by omega), List.take_of_length_le (by omega)]
  have e2 : (r ++ t).drop s = t := by rw [List.drop_append_of_le_length (by omega), List.drop_eq_nil_of_le (by omega), List.nil_append]
  have ne : r ++ t ≠ [] := fun e => by
    have := congrArg List.length e
    rw [List.length_append, List.length_nil] at this
    omega
  conv => lhs; unfold partsF
  rw [if_neg ne, if_pos rfl, e1, e2, if_neg (by omega)]
theorem part_len {n : Nat} {r t : List Nat} (h : n = r.length) (hr : n < 1000) : ((fig n 3 ++ r ++ t).take (3 + n)).drop 3 = r ∧ (fig n 3 ++ r ++ t).drop (3 + n) = t ∧ lenIn (fig n 3 ++ r ++ t) = some n := by
  have l3 : (fig n 3).length = 3 := fig_len (by decide) hr
  have ll : (fig n 3 ++ r).length = 3 + n := by rw [List.length_append]; omega
  refine ⟨?_, ?_, ?_⟩
  · rw [List.take_append_of_le_length (by omega), List.take_of_length_le (by omega), List.drop_append_of_le_length (by omega), List.drop_eq_nil_of_le (by omega), List.nil_append]
  · rw [List.drop_append_of_le_length (by omega), List.drop_eq_nil_of_le (by omega), List.nil_append]
  · rw [List.append_assoc]; exact lenIn_fig hr _
theorem part_V {s n : Nat} {r t : List Nat} (h : r.length < 1000) : partsF [86] s (n + 1) (fig r.length 3 ++ r ++ t) = (partsF [86] s n t).map ((48, r) :: ·) := by
  obtain ⟨e1, e2, e3⟩ := part_len (t := t) rfl h
  have ne : fig r.length 3 ++ r ++ t ≠ [] := fun e => by
    have := congrArg List.length e
    rw [List.length_append, List.length_append, fig_len (by decide) h, List.length_nil] at this
    omega
  conv => lhs; unfold partsF
  rw [if_neg ne, if_neg (by decide)]
  rw [if_pos rfl, if_pos rfl, e3]
  dsimp only
  rw [e1, e2, if_neg (fun h => h.elim (fun h => absurd h (Nat.lt_irrefl _)) (fun h => h (by decide)))]
theorem part_S {s n g : Nat} {r t : List Nat} (hg : g ∈ ([48, 49, 50, 51] : List Nat)) (h : r.length < 1000) : partsF [83] s (n + 1) ([g] ++ fig r.length 3 ++ r ++ t) = (partsF [83] s n t).map ((g, r) :: ·) := by
  obtain ⟨e1, e2, e3⟩ := part_len (t := t) rfl h
  have ec : [g] ++ fig r.length 3 ++ r ++ t = g :: (fig r.length 3 ++ r ++ t) := by rw [List.append_assoc, List.append_assoc, List.append_assoc]; rfl
  rw [ec]
  have ne : g :: (fig r.length 3 ++ r ++ t) ≠ [] := fun e => by cases e
  conv => lhs; unfold partsF
  rw [if_neg ne, if_neg (by decide)]
  rw [if_neg (by decide), if_neg (by decide)]
  rw [show (g :: (fig r.length 3 ++ r ++ t)).drop 1 = fig r.length 3 ++ r ++ t from rfl, e3]
  dsimp only
  rw [e1, e2, if_neg (fun h => h.elim (fun h => absurd h (Nat.lt_irrefl _)) (fun h => h hg))]
  rfl
theorem parse_all {f : List Nat} {s : Nat} {e : Pc → List Nat} {ok : Pc → Prop} (h : ∀ p n t, ok p → partsF f s (n + 1) (e p ++ t) = (partsF f s n t).map (p :: ·)) (hne : ∀ p, ok p → 1 ≤ (e p).length) :
    ∀ (gr : List Pc) (n : Nat), (∀ p ∈ gr, ok p) → (gr.map e).flatten.length < n → partsF f s n (gr.map e).flatten = some gr
  | [], 0, _, hl => absurd hl (Nat.not_lt_zero _)
  | [], n + 1, _, _ => rfl
  | p :: gr, 0, _, hl => absurd hl (Nat.not_lt_zero _)
  | p :: gr, n + 1, hok, hl => by
    have hp := hok p List.mem_cons_self
    rw [List.map_cons, List.flatten_cons] at hl ⊢
    rw [List.length_append] at hl
    have := hne p hp
    rw [h p n _ hp, parse_all h hne gr n (fun q hq => hok q (List.mem_cons_of_mem _ hq)) (by omega)]
    rfl
theorem fold_groups (b : Int) (e : Pc → List Nat) : ∀ (ps : List Pc) (G0 : List (List Pc)), ∃ G : List (List Pc), (ps.map e).foldl (fillStep b) (G0.map fun gr => (gr.map e).flatten) = (G.map fun gr => (gr.map e).flatten) ∧ G.flatten = G0.flatten ++ ps
  | [], G0 => ⟨G0, rfl, by simp⟩
  | p :: ps, G0 => by
    obtain ⟨G1, h1, h2⟩ : ∃ G1 : List (List Pc), fillStep b (G0.map fun gr => (gr.map e).flatten) (e p) = (G1.map fun gr => (gr.map e).flatten) ∧ G1.flatten = G0.flatten ++ [p] := by
      rcases snoc_cases G0 with rfl | ⟨G, gr, rfl⟩
      · exact ⟨[[p]], by rw [List.map_nil, fillStep_nil]; simp, by simp⟩
      · rw [List.map_append, List.map_singleton, fillStep_snoc]
        split
        · refine ⟨G ++ [gr ++ [p]], ?_, by simp⟩
          rw [List.map_append, List.map_singleton, List.map_append, List.flatten_append, List.map_singleton, List.flatten_singleton]
        · refine ⟨G ++ [gr] ++ [[p]], ?_, by simp⟩
          rw [List.map_append, List.map_append, List.map_singleton, List.map_singleton, List.map_singleton, List.flatten_singleton]
    obtain ⟨G, h3, h4⟩ := fold_groups b e ps G1
    refine ⟨G, ?_, ?_⟩
    · rw [List.map_cons, List.foldl_cons, h1, h3]
    · rw [h4, h2, List.append_assoc]
      rfl
theorem fill_bounds {b : Int} : ∀ (ps acc : List (List Nat)), (∀ p ∈ ps, 1 ≤ p.length ∧ (p.length : Int) ≤ b) → (∀ l ∈ acc, 1 ≤ l.length ∧ (l.length : Int) ≤ b) → ∀ l ∈ ps.foldl (fillStep b) acc, 1 ≤ l.length ∧ (l.length : Int) ≤ b
  | [], acc, _, h2, l, hl => h2 l hl
  | p :: ps, acc, h1, h2, l, hl => by
    rw [List.foldl_cons] at hl
    refine fill_bounds ps _ (fun q hq => h1 q (List.mem_cons_of_mem _ hq)) (fun m hm => ?_) l hl
    have hp := h1 p List.mem_cons_self
    rcases snoc_cases acc with rfl | ⟨G, gr, rfl⟩
    · rw [fillStep_nil] at hm
      rw [List.mem_singleton.mp hm]
      exact hp
    · rw [fillStep_snoc] at hm
      split at hm
      · rcases List.mem_append.mp hm with hm | hm
        · exact h2 m (List.mem_append_left _ hm)
        · rw [List.mem_singleton.mp hm, List.length_append]; omega
      · rcases List.mem_append.mp hm with hm | hm
        · exact h2 m hm
        · rw [List.mem_singleton.mp hm]; exact hp
theorem stitch_whole (size : Int) : ∀ rs : List (List Nat), (∀ r ∈ rs, (r.length : Int) ≤ size) → stitch size none (rs.map fun r => (48, r)) = some rs
  | [], _ => rfl
  | r :: rs, h => by
    have hr := h r List.mem_cons_self
    rw [List.map_cons, stitch_cons, if_pos (by rfl), if_neg (by show ¬ size < (([] ++ r).length : Int); rw [List.nil_append]; omega), if_pos (by decide), stitch_whole size rs fun q hq => h q (List.mem_cons_of_mem _ hq)]
    rfl
/-- the blocks of records -/
def blocksOf (f : List Nat) (b : Nat) (rs : List (List Nat)) : List (List Nat) :=
  if f = [70] then fill b rs else if f = [86] then fill b (rs.map fun r => fig r.length 3 ++ r) else (spAll b rs).map gtxt
/-- records of a form, by length -/
def fitF (f : List Nat) (s : Nat) (r : List Nat) : Prop := r.length ≤ s ∧ (f = [70] → r.length = s)
theorem okRec_fit {f : List Nat} {s : Nat} {l : List Nat} (h : okRec f s (some l) = true) : fitF f s l := by
  have h' : (prnt l && !(decide ((s : Int) < (l.length : Int)) || (decide (f = [70]) && decide ((l.length : Int) < s)))) = true := h
  rw [Bool.and_eq_true, Bool.not_eq_true', Bool.or_eq_false_iff, decide_eq_false_iff_not] at h'
  refine ⟨by omega, fun e => ?_⟩
  have := h'.2.2
  rw [decide_eq_true e, Bool.true_and, decide_eq_false_iff_not] at this
  omega
theorem okRecs_ls {f : List Nat} {s : Int} {r : Option (List (Option (List Nat)))} (h : okRecs f s r = true) : ∃ ls : List (List Nat), r = some (ls.map some) ∧ ∀ l ∈ ls, okRec f s (some l) = true := by
  cases r with
  | none => cases h
  | some rs =>
    have h' : rs.all (okRec f s) = true := h
    clear h
    induction rs with
    | nil => exact ⟨[], rfl, fun l hl => by cases hl⟩
    | cons x rs ih =>
      rw [List.all_cons, Bool.and_eq_true] at h'
      obtain ⟨ls, e, hl⟩ := ih h'.2
      have e' := Option.some.inj e
      cases x with
      | none => cases h'.1
      | some l =>
        refine ⟨l :: ls, by rw [e']; rfl, fun m hm => ?_⟩
        rcases List.mem_cons.mp hm with rfl | hm
        · exact h'.1
        · exact hl m hm
/-- every block is read as its parts; the parts tell the records; the blocks fit -/
theorem blocks_read {f : List Nat} {b s : Nat} (hf : isForm f = true) (hb : 5 ≤ b) (hb2 : b ≤ 60) (hs : 1 ≤ s) (hs2 : s ≤ 200) (hz : okSizes f b s = true) {rs : List (List Nat)} (h : ∀ r ∈ rs, fitF f s r) :
    (∀ t ∈ blocksOf f b rs, 1 ≤ t.length ∧ t.length ≤ b) ∧ ∃ G : List (List Pc), ∃ e : List Pc → List Nat, blocksOf f b rs = G.map e ∧ (∀ gr ∈ G, partsOf f s (e gr) = some gr) ∧ stitch s none G.flatten = some rs ∧ (f ≠ [83] → G.flatten.length = rs.length) ∧ (f = [83] → G = spAll b rs) := by
  have hz' : (decide (f = [70]) && decide ((b : Int) < s)) = false ∧ (decide (f = [86]) && decide ((b : Int) < (s : Int) + 3)) = false := by
    unfold okSizes at hz
    rw [Bool.not_eq_true', Bool.or_eq_false_iff] at hz
    exact hz
  by_cases hF : f = [70]
  · subst hF
    have hsb : s ≤ b := by
      have := hz'.1
      rw [decide_eq_true rfl, Bool.true_and, decide_eq_false_iff_not] at this
      omega
    have eb : blocksOf [70] b rs = fill b rs := if_pos rfl
    rw [eb]
    refine ⟨fun t ht => ?_, ?_⟩
    · have := fill_bounds (b := b) rs [] (fun p hp => by have := (h p hp).2 rfl; omega) (fun l hl => by cases hl) t ht
      omega
    · obtain ⟨G, h1, h2⟩ := fold_groups b (fun p => p.2) (rs.map fun r => (48, r)) []
      rw [List.map_map] at h1
      have er : rs.map ((fun p : Pc => p.2) ∘ fun r => (48, r)) = rs := by
        have : ((fun p : Pc => p.2) ∘ fun r => ((48 : Nat), r)) = id := rfl
        rw [this, List.map_id]
      rw [er] at h1
      rw [List.flatten_nil, List.nil_append] at h2
      refine ⟨G, _, h1, fun gr hg => ?_, ?_, fun _ => by rw [h2, List.length_map], fun e => by cases e⟩
      · refine parse_all (e := fun p => p.2) (ok := fun p => p.1 = 48 ∧ p.2.length = s) (fun p n t hp => ?_) (fun p hp => by show 1 ≤ p.2.length; omega) gr _ (fun p hp => ?_) (Nat.lt_succ_self _)
        · obtain ⟨p1, p2⟩ := p
          obtain ⟨rfl, hp⟩ := hp
          exact part_F hp hs
        · have : p ∈ G.flatten := List.mem_flatten.mpr ⟨gr, hg, hp⟩
          rw [h2] at this
          obtain ⟨r, hr, rfl⟩ := List.mem_map.mp this
          exact ⟨rfl, (h r hr).2 rfl⟩
      · rw [h2]
        exact stitch_whole s rs fun r hr => by have := (h r hr).1; omega
  · by_cases hV : f = [86]
    · subst hV
      have hsb : s + 3 ≤ b := by
        have := hz'.2
        rw [decide_eq_true rfl, Bool.true_and, decide_eq_false_iff_not] at this
        omega
      have eb : blocksOf [86] b rs = fill b (rs.map fun r => fig r.length 3 ++ r) := by
        unfold blocksOf
        rw [if_neg (by decide), if_pos rfl]
      rw [eb]
      have hl3 : ∀ r ∈ rs, (fig r.length 3 ++ r).length = 3 + r.length := fun r hr => by
        have := (h r hr).1
        rw [List.length_append, fig_len (by decide) (show r.length < 1000 by omega)]
      refine ⟨fun t ht => ?_, ?_⟩
      · have := fill_bounds (b := b) _ [] (fun p hp => by
          obtain ⟨r, hr, rfl⟩ := List.mem_map.mp hp
          have h1 := hl3 r hr
          have h2 := (h r hr).1
          omega) (fun l hl => by cases hl) t ht
        omega
      · obtain ⟨G, h1, h2⟩ := fold_groups b encV (rs.map fun r => (48, r)) []
        rw [List.map_map] at h1
        have er : rs.map (encV ∘ fun r => (48, r)) = rs.map fun r => fig r.length 3 ++ r := rfl
        rw [er] at h1
        rw [List.flatten_nil, List.nil_append] at h2
        refine ⟨G, _, h1, fun gr hg => ?_, ?_, fun _ => by rw [h2, List.length_map], fun e => by cases e⟩
        · refine parse_all (e := encV) (ok := fun p => p.1 = 48 ∧ p.2.length < 1000) (fun p n t hp => ?_) (fun p hp => ?_) gr _ (fun p hp => ?_) (Nat.lt_succ_self _)
          · obtain ⟨p1, p2⟩ := p
            obtain ⟨rfl, hp⟩ := hp
            exact part_V hp
          · unfold encV
            rw [List.length_append, fig_len (by decide) hp.2]
            omega
          · have : p ∈ G.flatten := List.mem_flatten.mpr ⟨gr, hg, hp⟩
            rw [h2] at this
            obtain ⟨r, hr, rfl⟩ := List.mem_map.mp this
            have := (h r hr).1
            exact ⟨rfl, by show r.length < 1000; omega⟩
        · rw [h2]
          exact stitch_whole s rs fun r hr => by have := (h r hr).1; omega
    · have hS : f = [83] := by
        unfold isForm at hf
        rw [decide_eq_false hF, decide_eq_false hV, Bool.false_or, Bool.false_or, decide_eq_true_eq] at hf
        exact hf
      subst hS
      have eb : blocksOf [83] b rs = (spAll b rs).map gtxt := by
        unfold blocksOf
        rw [if_neg (by decide), if_neg (by decide)]
      have hg := spAll_gr hb (by omega) rs
      rw [eb]
      refine ⟨fun t ht => ?_, spAll b rs, gtxt, rfl, fun gr hgr => ?_, spAll_stitch b s hb (by omega) rs fun r hr => by have := (h r hr).1; omega, fun e => absurd rfl e, fun _ => rfl⟩
      · obtain ⟨gr, hgr, rfl⟩ := List.mem_map.mp ht
        have h1 := hg.txt gr hgr
        have h2 := (hg gr hgr).2.1
        exact ⟨List.length_pos_iff.mpr h1, h2⟩
      · refine parse_all (e := pc) (ok := fun p => p.1 ∈ ([48, 49, 50, 51] : List Nat) ∧ p.2.length < 1000) (fun p n t hp => ?_) (fun p hp => ?_) gr _ (hg gr hgr).2.2 (Nat.lt_succ_self _)
        · exact part_S hp.1 hp.2
        · rw [pc_len hp.2]; omega
theorem Grow.older {H H1 H' : Hp} {q : Addr} {xs : List V} (s : Same H H1) (g : Grow H1 q H' xs) : Grow H q H' xs := ⟨s.free g.1, s.trans g.2.1, g.2.2⟩
section
variable {P : Program} {w : World} {K : PySem.W.Frag} {mg : Str → Option Value} {base : Heap}
def sp_blocked (K : PySem.W.Frag) (CF CR : Addr) : Sp := fun vs H Q E => ∃ (v x b s : V) (r : Option (List (Option (List Nat)))) (n1 n2 n3 : String), vs = [v, x, b, s] ∧ Recs K H v r ∧ Pl K H x n1 ∧ Pl K H b n2 ∧ Pl K H s n3 ∧
  (okForm x b s = false → E (.ref CF) none H) ∧ (okForm x b s = true → ∀ (f : List Nat) (bi si : Nat), x = .str (S f) → b = .int bi → s = .int si →
    (okRecs f si r = false → ∀ H', Same H H' → E (.ref CR) none H') ∧ (∀ ls : List (List Nat), r = some (ls.map some) → (∀ l ∈ ls, okRec f si (some l) = true) → ls.length ≤ 10000 ∧ ∀ q H', Grow H q H' (txs (blocksOf f bi ls)) → Q (.ref q) H'))
theorem ok_blocked (T : Txt K mg) : FnOk P w K mg base (L2.CX P w) 3 T.blocked.a T.blocked.d ["records", "form", "block", "size"] (sp_blocked K T.BadForm.C T.BadRecord.C) := by
  refine T.blocked.F.okX sc_blocked (fun vs H Q E h => ?_) (fun cdv A outer s0 H vs Q E hr h => ?_)
  · obtain ⟨v, x, b, s, r, n1, n2, n3, rfl, _⟩ := h
    rfl
  · obtain ⟨v, x, b, s, r, n1, n2, n3, rfl, hR, hx, hb, hs, k1, k2⟩ := h
    refine ⟨_, (pss_cons (ps_expr (pe_call (ok_look_form T) (hr.mono (by decide)) (by rfl) T.look_form.g T.look_form.F.kp T.look_form.b .nil (passes_call (takes_of rfl rfl rfl rfl) (fun _ _ _ _ h => h)) (pa_cons (pv 1) (pa_cons (pv 2) (pa_cons (pv 3) pa_nil)))))
    (pss_cons (ps_expr (pe_call (ok_look_records T) (hr.mono (by decide)) (by rfl) T.look_records.g T.look_records.F.kp T.look_records.b .nil (passes_call (takes_of rfl rfl rfl rfl) (fun _ _ _ _ h => h)) (pa_cons (pv 0) (pa_cons (pv 1) (pa_cons (pv 3) pa_nil)))))
    (pss_cons (ps_if (pt_cmpR op_eqS (pv 1) (pe_glob (v := .str (S [70])) rfl T.FIXED.g ⟨_, rfl⟩) (nomark _))
      (pss_one (ps_ret (pe_call (ok_filled T) (hr.mono (by decide)) (by rfl) T.filled.g T.filled.F.kp T.filled.b .nil (passes_call (takes_of rfl rfl rfl rfl) (fun _ _ _ _ h => h)) (pa_cons (pv 0) (pa_cons (pv 2) pa_nil)))))
      pss_nil)
    (pss_cons (ps_if (pt_cmpR op_eqS (pv 1) (pe_glob (v := .str (S [86])) rfl T.VARIED.g ⟨_, rfl⟩) (nomark _))
      (pss_one (ps_ret (pe_call (ok_filled T) (hr.mono (by decide)) (by rfl) T.filled.g T.filled.F.kp T.filled.b .nil (passes_call (takes_of rfl rfl rfl rfl) (fun _ _ _ _ h => h)) (pa_cons (pe_lc (own := [("record", 4)]) (g := gName 4) rfl sc_blocked.nd (pi_listC (K := K) rfl (pv 0)) (blkOk_by (N := N_blocked) (sc := defScope s_blocked) (by decide +kernel)) (fun _ _ _ _ _ => (pg_name (i := 4) sc_blocked.nd rfl (.inl rfl))) (fun _ _ _ _ _ => pts_nil) (fun _ _ _ _ _ => (pe_op op_addS (pe_call (ok_figures T) (hr.mono (by decide)) (by rfl) T.figures.g T.figures.F.kp T.figures.b .nil passL (pa_cons (pe_callB call_lenS (by rfl) T.z_len PySem.boot_len (pa_cons (pv 4) pa_nil)) (pa_cons pe_int pa_nil))) (pv 4)))) (pa_cons (pv 2) pa_nil)))))
      pss_nil)
    (pss_one (ps_ret (pe_call (ok_spanned T) (hr.mono (by decide)) (by rfl) T.spanned.g T.spanned.F.kp T.spanned.b .nil (passes_call (takes_of rfl rfl rfl rfl) (fun _ _ _ _ h => h)) (pa_cons (pv 0) (pa_cons (pv 2) pa_nil))))))))), ?_⟩
    refine ⟨_, rfl, _, rfl, _, rfl, x, b, s, n1, n2, n3, rfl, hx, hb, hs, fun ok => ?_, fun no => k1 no⟩
    obtain ⟨f, bi, si, rfl, rfl, rfl, hf1, hb1, hb2, hs1, hs2, hf2⟩ := okForm_iff ok
    obtain ⟨k3, k4⟩ := k2 ok f bi si rfl rfl rfl
    refine ⟨_, rfl, _, rfl, _, rfl, v, r, f, si, rfl, hR, fun okr H1 s1 => ?_, fun no => k3 no⟩
    obtain ⟨ls, hls, hl⟩ := okRecs_ls okr
    obtain ⟨hn, k5⟩ := k4 ls hls hl
    subst hls
    have hfit : ∀ l ∈ ls, fitF f si l := fun l h => okRec_fit (hl l h)
    cases hR with
    | lst hS hi hz =>
      rename_i a xs
      have hxs := hi.txt
      subst hxs
      have hS1 := sql_same hS s1
      refine ⟨_, rfl, f, [70], rfl, rfl, _, rfl, iteD (fun e => ?_) (fun e => ?_)⟩
      · refine ⟨_, rfl, _, rfl, a, ls, bi, rfl, hS1, by omega, fun p hp => by have := (hfit p hp).1; omega, by omega, fun q H' g => k5 q H' ?_⟩
        unfold blocksOf
        rw [if_pos e]
        exact g.older s1
      · refine ⟨_, rfl, f, [86], rfl, rfl, _, rfl, iteD (fun e2 => ?_) (fun e2 => ?_)⟩
        · refine ⟨_, rfl, a, rfl, ⟨_, hS1⟩, fun D nD => lc_strs (i := 4) (fun r => fig r.length 3 ++ r) hS1 (by omega) nD (fun _ => rfl) (fun l H2 hl2 s2 Q2 q2 => ?_) (fun H2 s2 hD => ?_)⟩
          · have := (hfit l hl2).1
            refine ⟨_, rfl, l, rfl, by omega, l.length, 3, rfl, Nat.lt_of_le_of_lt this (show si < 10 ^ 10 by omega), by decide, _, rfl, _, _, rfl, rfl, ?_, q2 _ (Same.refl _)⟩
            rw [fig_len (by decide) (show l.length < 1000 by omega)]
            omega
          · refine ⟨_, rfl, D, _, bi, rfl, SqL.of hD, by rw [List.length_map]; omega, fun p hp => ?_, by omega, fun q H' g => k5 q H' ?_⟩
            · obtain ⟨l, hl2, rfl⟩ := List.mem_map.mp hp
              have := (hfit l hl2).1
              rw [List.length_append, fig_len (by decide) (show l.length < 1000 by omega)]
              omega
            · unfold blocksOf
              rw [if_neg e, if_pos e2]
              exact g.older (s1.trans s2)
        · refine ⟨_, rfl, _, rfl, a, ls, bi, rfl, hS1, hn, fun p hp => by have := (hfit p hp).1; omega, hb1, by omega, fun q H' g => k5 q H' ?_⟩
          unfold blocksOf
          rw [if_neg e, if_neg e2]
          exact g.older s1
end
end R
set_option maxRecDepth 100000
set_option maxHeartbeats 8000000
namespace R
open PySem PySem.Spec PyProof.Rows L2 RZ
open PySem.W (Datum)
section
variable {P : Program} {w : World} {K : PySem.W.Frag} {mg : Str → Option Value} {base : Heap}
def sp__law_text (K : PySem.W.Frag) : Sp := fun vs H Q _ => ∃ (t r : Addr) (m : Int), vs = [.ref t, .int m] ∧ Town H t r ∧ 0 ≤ m ∧ m < 1000000 ∧
  ∀ (l : List Nat) H', (l.length : Int) ≤ m → (∀ c ∈ l, 32 ≤ c ∧ c ≤ 126) → But2 t r H H' → Town H' t r → Q (.str (S l)) H'
theorem ok__law_text (T : Txt K mg) : FnOk P w K mg base (L2.CX P w) 3 T._law_text.a T._law_text.d ["_law_town_here", "_law_most"] (sp__law_text K) := by
  refine T._law_text.F.okX sc__law_text (fun vs H Q E h => ?_) (fun cdv A outer s0 H vs Q E hr h => ?_)
  · obtain ⟨t, r, m, rfl, _⟩ := h
    rfl
  · obtain ⟨t, r, m, rfl, hT, hm0, hm, k⟩ := h
    refine ⟨_, (pss_one (ps_ret (pe_joinS (pe_strS (l := []) (by decide +kernel)) (pe_lc (own := [("_law_k", 2)]) (g := gName 2) rfl sc__law_text.nd (pi_range1 (by rfl) T.z_range (pa_cons (pe_call (ok__law_draw T) (hr.mono (by decide)) (by rfl) T._law_draw.g T._law_draw.F.kp T._law_draw.b .nil passL (pa_cons (pv 0) (pa_cons (pe_op op_add (pv 1) pe_int) pa_nil))) pa_nil)) (blkOk_by (N := N__law_text) (sc := defScope s__law_text) (by decide +kernel)) (fun _ _ _ _ _ => (pg_name (i := 2) sc__law_text.nd rfl (.inl rfl))) (fun _ _ _ _ _ => pts_nil) (fun _ _ _ _ _ => (pe_call (ok__law_pick T) (hr.mono (by decide)) (by rfl) T._law_pick.g T._law_pick.F.kp T._law_pick.b .nil passL (pa_cons (pv 0) (pa_cons (pe_lst (pa_cons (pe_strS (l := [97]) (by decide +kernel)) (pa_cons (pe_strS (l := [98]) (by decide +kernel)) (pa_cons (pe_strS (l := [32]) (by decide +kernel)) (pa_cons (pe_strS (l := [126]) (by decide +kernel)) (pa_cons (pe_strS (l := [48]) (by decide +kernel)) (pa_cons (pe_strS (l := [57]) (by decide +kernel)) pa_nil))))))) pa_nil)))))))), ?_⟩
    refine ⟨⟨_, rfl⟩, _, rfl, _, rfl, _, _, rfl, rfl, t, r, m + 1, rfl, hT, by omega, by omega, fun z H2 z0 z1 b2 T2 => ⟨_, rfl, by omega, by omega, fun D nD => ?_⟩⟩
    refine lc_draw walk_range (fun _ y => ∃ c, y = V.str (S [c]) ∧ (32 ≤ c ∧ c ≤ 126)) (by omega) nD T2 yfn_same (fun _ _ => trivial) (fun i x H H' hi bb tt hY q qk => ⟨rfl, ?_⟩) (fun xs H3 hl hx b3 T3 hD => ?_) gName_mono
    · refine ⟨_, rfl, sz (by decide), fun p np => ?_⟩
      have n1 := tt.ne np
      refine ⟨t, r, p, _, rfl, town_new tt np, SqL.of upd_same, n1.1, n1.2, by decide, by decide, fun j v H4 hj b4 t4 => qk v H4 ?_ ((But2.of_same (same_new np)).trans b4) t4⟩
      have := List.mem_of_getElem? hj
      simp only [List.mem_cons, List.not_mem_nil, or_false] at this
      rcases this with rfl | rfl | rfl | rfl | rfl | rfl
      · exact ⟨97, rfl, by decide⟩
      · exact ⟨98, rfl, by decide⟩
      · exact ⟨32, rfl, by decide⟩
      · exact ⟨126, rfl, by decide⟩
      · exact ⟨48, rfl, by decide⟩
      · exact ⟨57, rfl, by decide⟩
    obtain ⟨nm, rfl, lnm, hnm⟩ := chars_of fun i x hxi => hx i x hxi
    refine ⟨D, nm.map fun c => [c], rfl, rfl, SqL.of hD, by rw [flat_chars]; omega, ?_⟩
    rw [flat_chars]
    exact k nm H3 (by omega) hnm (b2.trans b3) T3
def sp__law_records (K : PySem.W.Frag) : Sp := fun vs H Q _ => ∃ (t r pa : Addr) (f : List Nat) (b s : Nat) (n : Nat), vs = [.ref t, .ref pa, .int n] ∧ Town H t r ∧ H pa = some (.tup [.str (S f), .int b, .int s]) ∧ 1 ≤ s ∧ s ≤ 200 ∧ n ≤ 1000 ∧
  ∀ (ls : List (List Nat)) q H', (∀ l ∈ ls, okRec f s (some l) = true) → ls.length = n → H q = none → But2 t r H H' → Town H' t r → H' q = some (.lst (txs ls)) → q ≠ t → q ≠ r → Q (.ref q) H'
theorem prnt_of {l : List Nat} (h : ∀ c ∈ l, 32 ≤ c ∧ c ≤ 126) : prnt l = true := List.all_eq_true.mpr fun c hc => by
  rw [decide_eq_true (h c hc).1, decide_eq_true (h c hc).2]; rfl
theorem okRec_of {f : List Nat} {s : Nat} {l : List Nat} (h1 : prnt l = true) (h2 : l.length ≤ s) (h3 : f = [70] → l.length = s) : okRec f s (some l) = true := by
  show (prnt l && !(decide ((s : Int) < (l.length : Int)) || (decide (f = [70]) && decide ((l.length : Int) < s)))) = true
  rw [h1, decide_eq_false (by omega)]
  by_cases e : f = [70]
  · rw [decide_eq_true e, decide_eq_false (by have := h3 e; omega)]; rfl
  · rw [decide_eq_false e]; rfl
theorem ok__law_records (T : Txt K mg) : FnOk P w K mg base (L2.CX P w) 4 T._law_records.a T._law_records.d ["_law_town_here", "_law_shape_here", "_law_many"] (sp__law_records K) := by
  refine T._law_records.F.okX sc__law_records (fun vs H Q E h => ?_) (fun cdv A outer s0 H vs Q E hr h => ?_)
  · obtain ⟨t, r, pa, f, b, s, n, rfl, _⟩ := h
    rfl
  · obtain ⟨t, r, pa, f, b, s, n, rfl, hT, hpa, hs1, hs2, hn, k⟩ := h
    refine ⟨_, (pss_cons (ps_asg (pv 1) (pg_tup rfl (pgs_cons (pg_name (i := 3) sc__law_records.nd rfl (.inl rfl)) (pgs_cons (pg_name (i := 4) sc__law_records.nd rfl (.inl rfl)) (pgs_cons (pg_name (i := 5) sc__law_records.nd rfl (.inl rfl)) pgs_nil)))))
    (pss_cons (ps_set (i := 6) sc__law_records.nd rfl (.inl rfl) (pe_lst pa_nil))
    (pss_cons (ps_for (passes_of rfl) rfl
      (pi_range1 (by rfl) T.z_range (pa_cons (pv 2) pa_nil)) (pg_name (i := 7) sc__law_records.nd rfl (.inl rfl))
      (pss_cons (ps_set (i := 8) sc__law_records.nd rfl (.inl rfl) (pe_call (ok__law_text T) (hr.mono (by decide)) (by rfl) T._law_text.g T._law_text.F.kp T._law_text.b .nil passL (pa_cons (pv 0) (pa_cons (pe_callB (call_min2 rfl) (by rfl) T.z_min (by decide +kernel) (pa_cons (pv 5) (pa_cons (pe_call (ok__law_pick T) (hr.mono (by decide)) (by rfl) T._law_pick.g T._law_pick.F.kp T._law_pick.b .nil passL (pa_cons (pv 0) (pa_cons (pe_lst (pa_cons pe_int (pa_cons pe_int (pa_cons (pv 5) pa_nil)))) pa_nil))) pa_nil))) pa_nil))))
      (pss_one (ps_expr (pe_bm PySem.F.plainAttrs_list PySem.F.slot_list_append PySem.F.type_list_append mt_append (pv 6) (pa_cons (pe_ifExp (pt_cmpR op_eqS (pv 3) (pe_strS (l := [70]) (by decide +kernel)) (nomark _)) (pe_op op_addS (pv 8) (pe_op op_mulS (pe_strS (l := [98]) (by decide +kernel)) (pe_op op_sub (pv 5) (pe_callB call_lenS (by rfl) T.z_len PySem.boot_len (pa_cons (pv 8) pa_nil))))) (pv 8)) pa_nil))))))
    (pss_one (ps_ret (pv 6)))))), ?_⟩
    refine ⟨_, rfl, pa, _, rfl, .inl (.inl hpa), rfl, _, _, rfl, _, _, rfl, _, _, rfl, rfl, ?_⟩
    refine ⟨sz (by decide), fun q nq => ?_⟩
    have nn := hT.ne nq
    refine ⟨_, rfl, _, rfl, by omega, by omega, for_it walk_range (fun i σ H' => ∃ (ls : List (List Nat)) (o7 o8 : Option V), σ = [some (.ref t), some (.ref pa), some (.int n), some (.str (S f)), some (.int b), some (.int s), some (.ref q), o7, o8] ∧ But2 t r H H' ∧ Town H' t r ∧ H' q = some (.lst (txs ls)) ∧ ls.length = i ∧ ∀ l ∈ ls, okRec f s (some l) = true) ⟨[], none, none, rfl, But2.of_same (same_new nq), town_new hT nq, upd_same, rfl, fun l h => by cases h⟩ (fun _ _ _ _ _ => trivial) ?_ ?_⟩
    · rintro i x σ H1 H2 hi ⟨ls, o7, o8, rfl, b1, T1, hq, hl, hok⟩ ⟨rfl, rfl⟩
      refine ⟨_, rfl, _, rfl, _, rfl, _, rfl, sz (show 3 ≤ 16777216 by decide), fun p np => ?_⟩
      have n1 := T1.ne np
      refine ⟨t, r, p, _, rfl, town_new T1 np, SqL.of upd_same, n1.1, n1.2, (show 0 < 3 by decide), (show 3 < 1000 by decide), fun j v H3 hj b3 T3 => ?_⟩
      obtain ⟨m, rfl, hm⟩ : ∃ m : Nat, v = .int m ∧ m ≤ 200 := by
        have := List.mem_of_getElem? hj
        simp only [List.mem_cons, List.not_mem_nil, or_false] at this
        rcases this with rfl | rfl | rfl
        · exact ⟨3, rfl, by decide⟩
        · exact ⟨20, rfl, by decide⟩
        · exact ⟨s, rfl, hs2⟩
      have hb := (But2.of_same (t := t) (r := r) (same_new (o := .lst [.int 3, .int 20, .int s]) np)).trans b3
      refine ⟨_, _, rfl, t, r, if (m : Int) < (s : Int) then (m : Int) else (s : Int), rfl, T3, by split <;> omega, by split <;> omega, fun l H4 hll hlc b4 T4 => ?_⟩
      have hll2 : l.length ≤ s := by split at hll <;> omega
      have b14 := b1.trans (hb.trans b4)
      have hq4 : H4 q = some (.lst (txs ls)) := b4 _ _ (hb _ _ hq nn.1 nn.2) nn.1 nn.2
      have fin : ∀ x : List Nat, okRec f s (some x) = true → ∃ (ls' : List (List Nat)) (o7 o8 : Option V), [some (V.ref t), some (.ref pa), some (.int (n : Nat)), some (.str (S f)), some (.int (b : Nat)), some (.int (s : Nat)), some (.ref q), some (.int ((0 : Int) + (i : Nat))), some (.str (S l))] = [some (.ref t), some (.ref pa), some (.int n), some (.str (S f)), some (.int b), some (.int s), some (.ref q), o7, o8] ∧ But2 t r H (upd H4 q (.lst (txs ls ++ [.str (S x)]))) ∧ Town (upd H4 q (.lst (txs ls ++ [.str (S x)]))) t r ∧ (upd H4 q (.lst (txs ls ++ [.str (S x)]))) q = some (.lst (txs ls')) ∧ ls'.length = i + 1 ∧ ∀ l ∈ ls', okRec f s (some l) = true := by
        intro x hx
        refine ⟨ls ++ [x], _, _, rfl, ?_, ?_, by rw [upd_same, strs_app]; rfl, by rw [List.length_append, hl]; rfl, fun y hy => ?_⟩
        · intro a o ha h1 h2
          rw [upd_ne (ne_of_none ha nq)]
          exact b14 a o ha h1 h2
        · obtain ⟨c, ns, g1, g2, g3, g4⟩ := T4
          exact ⟨c, ns, by rw [upd_ne nn.1.symm]; exact g1, by rw [upd_ne nn.2.symm]; exact g2, g3, g4⟩
        · rcases List.mem_append.mp hy with hy | hy
          · exact hok y hy
          · rw [List.mem_singleton.mp hy]; exact hx
      have pl := prnt_of hlc
      refine ⟨_, rfl, .inl ⟨rfl, _, SqL.of hq4⟩, _, rfl, f, [70], rfl, rfl, _, rfl, iteD (fun e => ?_) (fun e => ?_)⟩
      · have en : ((s : Int) - (l.length : Nat)).toNat = s - l.length := by omega
        refine ⟨_, rfl, _, rfl, _, rfl, _, rfl, by omega, _, _, rfl, rfl, 98, _, rfl, rfl, by omega, by omega, _, _, rfl, rfl, by rw [List.length_replicate]; omega, q, _, _, rfl, rfl, hq4, szl (by rw [strs_len]; omega), fin _ ?_⟩
        refine okRec_of ?_ ?_ ?_
        · refine prnt_of fun c hc => ?_
          rcases List.mem_append.mp hc with hc | hc
          · exact hlc c hc
          · rw [List.eq_of_mem_replicate hc]; decide
        · rw [List.length_append, List.length_replicate]; omega
        · intro _
          rw [List.length_append, List.length_replicate]; omega
      · exact ⟨_, rfl, q, _, _, rfl, rfl, hq4, szl (by rw [strs_len]; omega), fin l (okRec_of pl hll2 fun h => absurd h e)⟩
    · rintro σ H1 ⟨ls, o7, o8, rfl, b1, T1, hq, hl, hok⟩
      exact ⟨_, rfl, k ls q H1 hok (by rw [hl]; omega) nq b1 T1 hq nn.1 nn.2⟩
end
end R
set_option maxRecDepth 100000
set_option maxHeartbeats 8000000
set_option pp.maxSteps 1500
set_option pp.deepTerms false
namespace R
open PySem PySem.Spec PyProof.Rows L2 RZ
open PySem.W (Datum)
/-- [sign for sign in a text if ..] -/
theorem lc_sfil {z : List Nat} {tt : TT} {vs : List Nat} {σ : L2.St} {H1 : Hp} {D : Addr} {Qd : Hp → Prop} {i : Nat} (f : Nat → Bool) (hz : z.length < 16777216) (nD : H1 D = none)
    (hw : ∀ c, wipe ((wipe σ vs).set i (some (.str (S [c])))) vs = wipe σ vs) (hg : ∀ c, ((wipe σ vs).set i (some (.str (S [c]))))[i]? = some (some (.str (S [c]))))
    (hs : ∀ c H, c ∈ z → Same H1 H → ∀ Q : Bool → Hp → Prop, (∀ H2, Same H H2 → Q (f c) H2) → tt ((wipe σ vs).set i (some (.str (S [c])))) H Q)
    (hd : ∀ H, Same H1 H → H D = some (.lst (txs ((z.filter f).map fun c => [c]))) → Qd H) :
    ∃ W : Nat → Nat → Hp → Prop, (∃ m, W 0 m (upd H1 D (.lst []))) ∧ ∀ i' m H, W i' m H →
      ((Its (S z)).stop i' H ∧ Qd H) ∨ ((Its (S z)).go i' H ∧ ∃ Nx : Hp → Prop, (∀ H', Nx H' → ∃ m', m' < m ∧ W (i' + 1) m' H') ∧ ∀ x H', (Its (S z)).yld i' H x H' → (gName i) x (wipe σ vs) H' fun σ2 H2 => wipe σ2 vs = wipe σ vs ∧ tt σ2 H2 fun b H3 =>
        if b = true then tVar i σ2 H3 fun y H4 => ∃ acc, H4 D = some (.lst acc) ∧ acc.length < sizeLine ∧ Nx (upd H4 D (.lst (acc ++ [y]))) else Nx H3) := by
  refine lc_it walk_str (fun i H => Same H1 H ∧ H D = some (.lst (txs (((z.take i).filter f).map fun c => [c])))) ⟨same_new nD, upd_same⟩ (fun _ _ _ _ => trivial) (fun j x H H' hj p y => ?_) (fun H p => ?_)
  · obtain ⟨rfl, c, hc, rfl⟩ := y
    have hc2 : z[j]? = some c := by
      have : (S z).cps.toList[j]? = some c := by rw [← hc]; simp
      rw [S_cps] at this
      exact this
    have ht : (z.take (j + 1)).filter f = (z.take j).filter f ++ (if f c = true then [c] else []) := by
      rw [List.take_add_one, hc2, Option.toList_some, List.filter_append]
      cases hb : f c with
      | true => rw [List.filter_cons_of_pos hb]; rfl
      | false => rw [List.filter_cons_of_neg (by rw [hb]; exact Bool.false_ne_true)]; rfl
    refine ⟨hw _, hs c H' (List.mem_of_getElem? hc2) p.1 _ fun H2 s2 => ?_⟩
    have hD2 := s2 _ _ p.2
    cases hb : f c with
    | true =>
      rw [hb, if_pos rfl] at ht
      refine iteT ⟨_, hg _, _, hD2, szl ?_, ?_, ?_⟩
      · rw [strs_len, List.length_map]
        have := List.length_filter_le f (z.take j)
        rw [List.length_take] at this
        omega
      · intro b o hbo
        rw [upd_ne (ne_of_none hbo nD)]
        exact s2 _ _ (p.1 _ _ hbo)
      · rw [upd_same, ht, List.map_append, strs_app]
        rfl
    | false =>
      rw [hb, if_neg Bool.false_ne_true, List.append_nil] at ht
      refine iteF ⟨p.1.trans s2, ?_⟩
      rw [ht]
      exact hD2
  · refine hd H p.1 ?_
    have := p.2
    have e : (S z).cps.size = z.length := S_len z
    rw [e, List.take_length] at this
    exact this
def lenV (t : List Nat) : Int := match lenIn t with
  | some n => (n : Nat)
  | none => -1
/-- what blocks tell by the law: none if they could not stand so -/
def okAll (f : List Nat) (s b : Nat) (ls : List (List Nat)) : Bool := ls.all fun l => (partsOf f s l).isSome && (decide (1 ≤ l.length) && decide (l.length ≤ b))
def dueF (f : List Nat) (s b : Nat) (ls : List (List Nat)) : Option (List (List Nat)) := if okAll f s b ls = true then stitch s none (pcsF f s ls) else none
theorem dueF_unb {f : List Nat} {s b : Nat} {ls : List (List Nat)} (h : okBlks b (some (ls.map some)) = true) : dueF f s b ls = unbF f s ls := by
  have e : okAll f s b ls = allP f s ls := by
    have h' : (ls.map some).all (fun r => match r with | none => false | some l => decide (1 ≤ l.length) && decide (l.length ≤ b)) = true := h
    unfold okAll allP
    rw [Bool.eq_iff_iff, List.all_eq_true, List.all_eq_true]
    refine ⟨fun k l hl => ?_, fun k l hl => ?_⟩
    · have := k l hl
      rw [Bool.and_eq_true] at this
      exact this.1
    · have := List.all_eq_true.mp h' (some l) (List.mem_map.mpr ⟨l, hl, rfl⟩)
      rw [k l hl, Bool.true_and]
      exact this
  unfold dueF unbF
  rw [e]
theorem dueF_no {f : List Nat} {s b : Nat} {ls : List (List Nat)} (h : okBlks b (some (ls.map some)) = false) : dueF f s b ls = none := by
  refine if_neg fun k => ?_
  have : okBlks b (some (ls.map some)) = true := by
    show (ls.map some).all _ = true
    rw [List.all_eq_true]
    intro r hr
    obtain ⟨l, hl, rfl⟩ := List.mem_map.mp hr
    have := List.all_eq_true.mp k l hl
    rw [Bool.and_eq_true] at this
    exact this.2
  rw [h] at this
  cases this
theorem partsF_sign {f : List Nat} {s : Nat} : ∀ (n : Nat) (t : List Nat) (ps : List Pc), partsF f s n t = some ps → ∀ p ∈ ps, p.1 ∈ ([48, 49, 50, 51] : List Nat)
  | 0, t, ps, h, p, hp => by cases h; cases hp
  | n + 1, t, ps, h, p, hp => by
    have ih := partsF_sign (f := f) (s := s) n
    unfold partsF at h
    split at h
    · cases h; cases hp
    split at h
    · split at h
      · cases h
      · cases e : partsF f s n (t.drop s) with
        | none => rw [e] at h; cases h
        | some qs =>
          rw [e] at h
          cases h
          rcases List.mem_cons.mp hp with rfl | hp
          · exact (by decide : 48 ∈ ([48, 49, 50, 51] : List Nat))
          · exact ih _ _ e p hp
    · generalize (if f = [86] then t else t.drop 1) = u at h
      generalize (if f = [86] then 48 else t.headD 0) = g0 at h
      split at h
      · cases h
      · rename_i k hk
        split at h
        · cases h
        · rename_i hg
          cases e : partsF f s n (u.drop (3 + k)) with
          | none => rw [e] at h; cases h
          | some qs =>
            rw [e] at h
            cases h
            rcases List.mem_cons.mp hp with rfl | hp
            · exact Decidable.not_not.mp fun q => hg (.inr q)
            · exact ih _ _ e p hp
section
variable {P : Program} {w : World} {K : PySem.W.Frag} {mg : Str → Option Value} {base : Heap}
def sp__law_length : Sp := fun vs H Q _ => ∃ t : List Nat, vs = [.str (S t)] ∧ t.length < 16777216 ∧ ∀ H', Same H H' → Q (.int (lenV t)) H'
theorem ok__law_length (T : Txt K mg) : FnOk P w K mg base (L2.CX P w) 1 T._law_length.a T._law_length.d ["_law_text_here"] sp__law_length := by
  refine T._law_length.F.okX sc__law_length (fun vs H Q E h => ?_) (fun cdv A outer s0 H vs Q E hr h => ?_)
  · obtain ⟨t, rfl, _⟩ := h
    rfl
  · obtain ⟨t, rfl, hz, k⟩ := h
    refine ⟨_, (pss_cons (ps_set (i := 1) sc__law_length.nd rfl (.inl rfl) (pe_slice sl_strS (pv 0) po_none (po_some pe_int)))
    (pss_cons (ps_if (PW.pt (pw_or (pt_cmpR op_lt (pe_callB call_lenS (by rfl) T.z_len PySem.boot_len (pa_cons (pv 1) pa_nil)) pe_int (nomark _)) (pw_or1 (pt_cmpR (op_neP hr.units) (pe_lc (own := [("_law_sign", 2)]) (g := gName 2) rfl sc__law_length.nd (pi_str (pv 1)) (blkOk_by (N := N__law_length) (sc := defScope s__law_length) (by decide +kernel)) (fun _ _ _ _ _ => (pg_name (i := 2) sc__law_length.nd rfl (.inl rfl))) (fun _ _ _ _ _ => (pts_one (pt_cmpR op_notInS2 (pv 2) (pe_strS (l := [48, 49, 50, 51, 52, 53, 54, 55, 56, 57]) (by decide +kernel)) (by rfl)))) (fun _ _ _ _ _ => (pv 2))) (pe_lst pa_nil) (nomark _)))))
      (pss_one (ps_ret (pe_op op_sub pe_int pe_int)))
      pss_nil)
    (pss_one (ps_ret (pe_callTy call_intS (by rfl) T.z_int (by decide +kernel) (pa_cons (pv 1) pa_nil)))))), ?_⟩
    refine ⟨_, rfl, _, rfl, t, rfl, by omega, ?_⟩
    rw [show sl t none (some (3 : Int)) = t.take 3 from sl_to t 3]
    have l3 : (t.take 3).length ≤ 3 := List.length_take_le _ _
    refine ⟨_, rfl, _, rfl, by omega, _, _, rfl, rfl, _, rfl, iteD (fun e => ?_) (fun e => ?_)⟩
    · refine iteT ⟨_, _, rfl, rfl, ?_⟩
      have := k _ (Same.refl _)
      unfold lenV lenIn at this
      rw [if_neg (fun h => by omega)] at this
      exact this
    · refine ⟨_, rfl, _, rfl, fun D nD => lc_sfil (i := 2) (fun c => !isDig c) (by omega) nD (fun _ => rfl) (fun _ => rfl) (fun c H' hc s1 Q2 q2 => ⟨_, rfl, c, _, rfl, rfl, _, rfl, q2 _ (Same.refl _)⟩) (fun H' s1 hD => ?_)⟩
      refine ⟨sz (by decide), fun p np => ne_strs (ms := []) (SqL.of (same_new np _ _ hD)) (SqL.of upd_same) ⟨_, rfl, iteN (fun e2 => ?_) (fun e2 => ?_)⟩⟩
      · refine ⟨_, _, rfl, rfl, ?_⟩
        have := k _ (s1.trans (same_new (o := .lst []) np))
        unfold lenV lenIn at this
        rw [if_neg (fun h => e2 ?_)] at this
        · exact this
        · rw [List.filter_eq_nil_iff.mpr fun c hc => by rw [List.all_eq_true.mp h.2 c hc]; decide]
          rfl
      · have hall : (t.take 3).all isDig = true := by
          rw [List.all_eq_true]
          intro c hc
          have e3 := List.filter_eq_nil_iff.mp (List.map_eq_nil_iff.mp e2) c hc
          simpa using e3
        refine ⟨_, rfl, _, rfl, allDig hall, ?_, by omega, ?_⟩
        · intro h0
          rw [h0] at e
          exact e (by decide)
        · have := k _ (s1.trans (same_new (o := .lst []) np))
          unfold lenV lenIn at this
          rw [if_pos ⟨by omega, hall⟩] at this
          exact this
def sp__law_parts : Sp := fun vs H Q _ => ∃ (t f : List Nat) (b s : Nat) (pa : Addr), vs = [.str (S t), .ref pa] ∧ H pa = some (.tup [.str (S f), .int (b : Nat), .int (s : Nat)]) ∧ t.length < 1000000 ∧ 1 ≤ s ∧ s < 1000 ∧
  (∀ ps, partsOf f s t = some ps → ∀ q xs H', H q = none → Same H H' → H' q = some (.lst xs) → Prs H' xs ps → Q (.ref q) H') ∧ (partsOf f s t = none → ∀ H', Same H H' → Q .non H')
theorem ok__law_parts (T : Txt K mg) : FnOk P w K mg base (L2.CX P w) 2 T._law_parts.a T._law_parts.d ["_law_one", "_law_shape_here"] sp__law_parts := by
  refine T._law_parts.F.okX sc__law_parts (fun vs H Q E h => ?_) (fun cdv A outer s0 H vs Q E hr h => ?_)
  · obtain ⟨t, f, b, s, pa, rfl, _⟩ := h
    rfl
  · obtain ⟨t0, f, b, s, pa, rfl, hpa, hz, hs1, hs2, k1, k2⟩ := h
    refine ⟨_, (pss_cons (ps_asg (pv 1) (pg_tup rfl (pgs_cons (pg_name (i := 2) sc__law_parts.nd rfl (.inl rfl)) (pgs_cons (pg_name (i := 3) sc__law_parts.nd rfl (.inl rfl)) (pgs_cons (pg_name (i := 4) sc__law_parts.nd rfl (.inl rfl)) pgs_nil)))))
    (pss_cons (ps_set (i := 5) sc__law_parts.nd rfl (.inl rfl) (pe_lst pa_nil))
    (pss_cons (ps_set (i := 6) sc__law_parts.nd rfl (.inl rfl) (pv 0))
    (pss_cons (ps_while (passes_of rfl) (pt_cmpR op_neS (pv 6) (pe_strS (l := []) (by decide +kernel)) (nomark _))
      (pss_one (ps_if (pt_cmpR op_eqS (pv 2) (pe_strS (l := [70]) (by decide +kernel)) (nomark _))
        (pss_cons (ps_if (pt_cmpR op_lt (pe_callB call_lenS (by rfl) T.z_len PySem.boot_len (pa_cons (pv 6) pa_nil)) (pv 4) (nomark _))
          (pss_one (ps_ret pe_non))
          pss_nil)
        (pss_cons (ps_expr (pe_bm PySem.F.plainAttrs_list PySem.F.slot_list_append PySem.F.type_list_append mt_append (pv 5) (pa_cons (pe_tup (pa_cons (pe_strS (l := [48]) (by decide +kernel)) (pa_cons (pe_slice sl_strS (pv 6) po_none (po_some (pv 4))) pa_nil))) pa_nil)))
        (pss_one (ps_set (i := 6) sc__law_parts.nd rfl (.inl rfl) (pe_slice sl_strS (pv 6) (po_some (pv 4)) po_none)))))
        (pss_cons (ps_set (i := 7) sc__law_parts.nd rfl (.inl rfl) (pe_ifExp (pt_cmpR op_eqS (pv 2) (pe_strS (l := [86]) (by decide +kernel)) (nomark _)) (pe_strS (l := [48]) (by decide +kernel)) (pe_ix ix_strS (pv 6) pe_int (fun _ _ => rfl))))
        (pss_cons (ps_set (i := 6) sc__law_parts.nd rfl (.inl rfl) (pe_ifExp (pt_cmpR op_eqS (pv 2) (pe_strS (l := [86]) (by decide +kernel)) (nomark _)) (pv 6) (pe_slice sl_strS (pv 6) (po_some pe_int) po_none)))
        (pss_cons (ps_set (i := 8) sc__law_parts.nd rfl (.inl rfl) (pe_call (ok__law_length T) (hr.mono (by decide)) (by rfl) T._law_length.g T._law_length.F.kp T._law_length.b .nil passL (pa_cons (pv 6) pa_nil)))
        (pss_cons (ps_if (PW.pt (pw_or (pt_cmpR op_lt (pv 8) pe_int (nomark _)) (pw_or (pt_cmpR op_lt (pe_callB call_lenS (by rfl) T.z_len PySem.boot_len (pa_cons (pv 6) pa_nil)) (pe_op op_add pe_int (pv 8)) (nomark _)) (pw_or1 (pt_cmpR op_notInS2 (pv 7) (pe_strS (l := [48, 49, 50, 51]) (by decide +kernel)) (by rfl))))))
          (pss_one (ps_ret pe_non))
          pss_nil)
        (pss_cons (ps_expr (pe_bm PySem.F.plainAttrs_list PySem.F.slot_list_append PySem.F.type_list_append mt_append (pv 5) (pa_cons (pe_tup (pa_cons (pv 7) (pa_cons (pe_slice sl_strS (pv 6) (po_some pe_int) (po_some (pe_op op_add pe_int (pv 8)))) pa_nil))) pa_nil)))
        (pss_one (ps_set (i := 6) sc__law_parts.nd rfl (.inl rfl) (pe_slice sl_strS (pv 6) (po_some (pe_op op_add pe_int (pv 8))) po_none)))))))))))
    (pss_one (ps_ret (pv 5))))))), ?_⟩
    refine ⟨_, rfl, pa, _, rfl, .inl (.inl hpa), rfl, _, _, rfl, _, _, rfl, _, _, rfl, rfl, ?_⟩
    refine ⟨sz (by decide), fun q nq => ?_⟩
    refine ⟨_, rfl, ?_⟩
    refine ⟨fun m σ H' => ∃ (t : List Nat) (done : List Pc) (xs : List V) (o7 o8 : Option V), σ = [some (.str (S t0)), some (.ref pa), some (.str (S f)), some (.int (b : Nat)), some (.int (s : Nat)), some (.ref q), some (.str (S t)), o7, o8] ∧ Grow H q H' xs ∧ Prs H' xs done ∧ partsOf f s t0 = (partsF f s m t).map (done ++ ·) ∧ t.length < m ∧ done.length + m ≤ 1000001, ⟨t0.length + 1, t0, [], [], none, none, rfl, .start nq, .nil, ?_, by omega, by rw [List.length_nil]; omega⟩, fun m σ H' w => ?_⟩
    · unfold partsOf
      cases partsF f s (t0.length + 1) t0 <;> rfl
    obtain ⟨t, done, xs, o7, o8, rfl, g, hP, hrd, htm, hcap⟩ := w
    obtain ⟨n, rfl⟩ : ∃ n, m = n + 1 := ⟨m - 1, by omega⟩
    have dl := hP.len
    refine ⟨_, rfl, _, _, rfl, rfl, _, rfl, iteN (fun e0 => ?_) (fun e0 => ?_)⟩
    · have tl : 0 < t.length := List.length_pos_iff.mpr e0
      have rd : partsF f s (n + 1) t = if t = [] then some [] else if f = [70] then (if (t.take s).length < s then none else (partsF f s n (t.drop s)).map ((48, t.take s) :: ·)) else match lenIn (if f = [86] then t else t.drop 1) with
        | none => none
        | some k => if (((if f = [86] then t else t.drop 1).take (3 + k)).drop 3).length < k ∨ (if f = [86] then 48 else t.headD 0) ∉ ([48, 49, 50, 51] : List Nat) then none
          else (partsF f s n ((if f = [86] then t else t.drop 1).drop (3 + k))).map (((if f = [86] then 48 else t.headD 0), ((if f = [86] then t else t.drop 1).take (3 + k)).drop 3) :: ·) := rfl
      rw [if_neg e0] at rd
      have next : ∀ (u p : List Nat) (g0 : Nat) (H2 : Hp) (e : Addr) (o7' o8' : Option V), Same H' H2 → H2 e = none → partsF f s (n + 1) t = (partsF f s n u).map ((g0, p) :: ·) → u.length < t.length →
          ∃ m', m' < n + 1 ∧ ∃ (t : List Nat) (done : List Pc) (xs' : List V) (o7 o8 : Option V), [some (.str (S t0)), some (.ref pa), some (.str (S f)), some (.int (b : Nat)), some (.int (s : Nat)), some (.ref q), some (.str (S u)), o7', o8'] = [some (.str (S t0)), some (.ref pa), some (.str (S f)), some (.int (b : Nat)), some (.int (s : Nat)), some (.ref q), some (.str (S t)), o7, o8] ∧ Grow H q (upd (upd H2 e (.tup [.str (S [g0]), .str (S p)])) q (.lst (xs ++ [.ref e]))) xs' ∧ Prs (upd (upd H2 e (.tup [.str (S [g0]), .str (S p)])) q (.lst (xs ++ [.ref e]))) xs' done ∧ partsOf f s t0 = (partsF f s m' t).map (done ++ ·) ∧ t.length < m' ∧ done.length + m' ≤ 1000001 := by
        intro u p g0 H2 e o7' o8' s2 ne hr hu
        have g2 := (g.same s2).new (o := .tup [.str (S [g0]), .str (S p)]) ne
        refine ⟨n, Nat.lt_succ_self _, u, done ++ [(g0, p)], xs ++ [.ref e], _, _, rfl, g2.set, ?_, ?_, by omega, by rw [List.length_append, List.length_singleton]; omega⟩
        · refine (((hP.same s2).same (same_new ne)).upd g2.2.2).app (.cons ?_ .nil)
          rw [upd_ne (fun h => by rw [h] at ne; rw [(g.same s2).2.2] at ne; cases ne)]
          exact upd_same
        · rw [hrd, hr]
          cases partsF f s n u with
          | none => rfl
          | some ps =>
            show some (done ++ ((g0, p) :: ps)) = some (done ++ [(g0, p)] ++ ps)
            rw [List.append_assoc]
            rfl
      refine ⟨_, fun _ _ h => h, ?_⟩
      refine ⟨_, rfl, _, _, rfl, rfl, _, rfl, iteD (fun ef => ?_) (fun ef => ?_)⟩
      · rw [if_pos ef] at rd
        refine ⟨_, rfl, _, rfl, by omega, _, rfl, _, _, rfl, rfl, _, rfl, iteD (fun e1 => ?_) (fun e1 => ?_)⟩
        · rw [if_pos (by rw [List.length_take]; omega)] at rd
          exact k2 (by rw [hrd, rd]; rfl) _ g.2.1
        · rw [if_neg (by rw [List.length_take]; omega)] at rd
          refine ⟨_, rfl, .inl ⟨rfl, _, SqL.of g.2.2⟩, _, rfl, _, rfl, _, rfl, t, rfl, by omega, sz (show 2 ≤ 16777216 by decide), fun e ne => ?_⟩
          rw [show sl t none (some ((s : Nat) : Int)) = t.take s from sl_to t s] at *
          have g2 := g.new (o := .tup [.str (S [48]), .str (S (t.take s))]) ne
          refine ⟨q, _, _, rfl, rfl, g2.2.2, szl (by omega), _, rfl, _, rfl, _, rfl, t, rfl, by omega, ?_⟩
          rw [show sl t (some ((s : Nat) : Int)) none = t.drop s from sl_from t s]
          exact next (t.drop s) (t.take s) 48 H' e o7 o8 (Same.refl _) ne rd (by rw [List.length_drop]; omega)
      · rw [if_neg ef] at rd
        obtain ⟨u, g0, hu, hg, hul⟩ : ∃ (u : List Nat) (g0 : Nat), (if f = [86] then t else t.drop 1) = u ∧ (if f = [86] then 48 else t.headD 0) = g0 ∧ u.length ≤ t.length := by
          refine ⟨_, _, rfl, rfl, ?_⟩
          split
          · exact Nat.le_refl _
          · rw [List.length_drop]; omega
        rw [hu, hg] at rd
        by_cases hv : f = [86]
        · rw [if_pos hv] at hu hg
          subst hu hg
          refine ⟨_, rfl, _, _, rfl, rfl, _, rfl, iteD (fun _ => ?_) (fun h => absurd hv h)⟩
          refine ⟨_, rfl, _, _, rfl, rfl, _, rfl, iteD (fun _ => ⟨_, rfl, ?_⟩) (fun h => absurd hv h)⟩
          refine ⟨_, rfl, t, rfl, by omega, fun H2 s2 => ?_⟩
          cases hk : lenIn t with
          | none =>
            rw [hk] at rd
            rw [show lenV t = -1 by unfold lenV; rw [hk]]
            refine ⟨_, rfl, _, _, rfl, rfl, _, rfl, iteD (fun _ => iteT ?_) (fun h => absurd (by decide : (-1 : Int) < 0) h)⟩
            exact k2 (by rw [hrd, rd]; rfl) _ (g.2.1.trans s2)
          | some k =>
            rw [hk] at rd
            dsimp only at rd
            rw [show lenV t = (k : Nat) by unfold lenV; rw [hk]]
            have e1 : sl t (some (3 : Int)) (some ((3 : Int) + ((k : Nat) : Int))) = (t.take (3 + k)).drop 3 := by
              rw [show (3 : Int) + ((k : Nat) : Int) = ((3 + k : Nat) : Int) by omega]
              exact sl_mid t 3 (3 + k)
            have e2 : sl t (some ((3 : Int) + ((k : Nat) : Int))) none = t.drop (3 + k) := by
              rw [show (3 : Int) + ((k : Nat) : Int) = ((3 + k : Nat) : Int) by omega]
              exact sl_from t (3 + k)
            have l3 : 3 ≤ t.length := by
              unfold lenIn at hk
              split at hk
              · rename_i h
                have := h.1
                rw [List.length_take] at this
                omega
              · cases hk
            have tk : ((t.take (3 + k)).drop 3).length ≤ t.length := by rw [List.length_drop, List.length_take]; omega
            have lk : ((t.take (3 + k)).drop 3).length < k ↔ t.length < 3 + k := by rw [List.length_drop, List.length_take]; omega
            refine ⟨_, rfl, _, _, rfl, rfl, _, rfl, iteD (fun h => absurd h (by omega)) (fun _ => ?_)⟩
            refine ⟨_, rfl, _, rfl, by omega, _, rfl, _, _, rfl, rfl, _, _, rfl, rfl, _, rfl, iteD (fun e3 => iteT ?_) (fun e3 => ⟨_, rfl, 48, [48, 49, 50, 51], rfl, rfl, !decide (48 ∈ ([48, 49, 50, 51] : List Nat)), rfl, iteN (fun e4 => ?_) (fun e4 => ?_)⟩)⟩
            · rw [if_pos (.inl (lk.mpr (by omega)))] at rd
              exact k2 (by rw [hrd, rd]; rfl) _ (g.2.1.trans s2)
            · rw [if_pos (.inr e4)] at rd
              exact k2 (by rw [hrd, rd]; rfl) _ (g.2.1.trans s2)
            · rw [if_neg (fun h => h.elim (fun h => e3 (by have := lk.mp h; omega)) (fun h => h e4))] at rd
              refine ⟨_, rfl, .inl ⟨rfl, _, SqL.of (s2 _ _ g.2.2)⟩, _, rfl, _, rfl, _, rfl, _, rfl, _, _, rfl, rfl, _, rfl, t, rfl, by omega, sz (show 2 ≤ 16777216 by decide), fun e ne => ?_⟩
              rw [e1] at *
              have g2 := (g.same s2).new (o := .tup [.str (S [48]), .str (S ((t.take (3 + k)).drop 3))]) ne
              refine ⟨q, _, _, rfl, rfl, g2.2.2, szl (by omega), _, rfl, _, rfl, _, _, rfl, rfl, _, rfl, t, rfl, by omega, ?_⟩
              rw [e2]
              refine next (t.drop (3 + k)) ((t.take (3 + k)).drop 3) 48 H2 e _ _ s2 ne rd ?_
              rw [List.length_drop]
              (try rw [List.length_cons])
              omega
        · rw [if_neg hv] at hu hg
          obtain ⟨c, r, rfl⟩ : ∃ c r, t = c :: r := by
            cases t with
            | nil => exact absurd rfl e0
            | cons c r => exact ⟨c, r, rfl⟩
          have hu' : r = u := hu
          have hg' : c = g0 := hg
          subst hu' hg'
          refine ⟨_, rfl, _, _, rfl, rfl, _, rfl, iteD (fun h => absurd h hv) (fun _ => ?_)⟩
          refine ⟨_, rfl, c :: r, 0, c, rfl, rfl, by omega, (show atI (c :: r) ((0 : Nat) : Int) = some c from atI_nat rfl), ?_⟩
          refine ⟨_, rfl, _, _, rfl, rfl, _, rfl, iteD (fun h => absurd h hv) (fun _ => ⟨_, rfl, _, rfl, c :: r, rfl, by omega, ?_⟩)⟩
          rw [show sl (c :: r) (some (1 : Int)) none = r from sl_from (c :: r) 1]
          refine ⟨_, rfl, r, rfl, by omega, fun H2 s2 => ?_⟩
          cases hk : lenIn r with
          | none =>
            rw [hk] at rd
            rw [show lenV r = -1 by unfold lenV; rw [hk]]
            refine ⟨_, rfl, _, _, rfl, rfl, _, rfl, iteD (fun _ => iteT ?_) (fun h => absurd (by decide : (-1 : Int) < 0) h)⟩
            exact k2 (by rw [hrd, rd]; rfl) _ (g.2.1.trans s2)
          | some k =>
            rw [hk] at rd
            dsimp only at rd
            rw [show lenV r = (k : Nat) by unfold lenV; rw [hk]]
            have e1 : sl r (some (3 : Int)) (some ((3 : Int) + ((k : Nat) : Int))) = (r.take (3 + k)).drop 3 := by
              rw [show (3 : Int) + ((k : Nat) : Int) = ((3 + k : Nat) : Int) by omega]
              exact sl_mid r 3 (3 + k)
            have e2 : sl r (some ((3 : Int) + ((k : Nat) : Int))) none = r.drop (3 + k) := by
              rw [show (3 : Int) + ((k : Nat) : Int) = ((3 + k : Nat) : Int) by omega]
              exact sl_from r (3 + k)
            have l3 : 3 ≤ r.length := by
              unfold lenIn at hk
              split at hk
              · rename_i h
                have := h.1
                rw [List.length_take] at this
                omega
              · cases hk
            have tk : ((r.take (3 + k)).drop 3).length ≤ r.length := by rw [List.length_drop, List.length_take]; omega
            have lk : ((r.take (3 + k)).drop 3).length < k ↔ r.length < 3 + k := by rw [List.length_drop, List.length_take]; omega
            refine ⟨_, rfl, _, _, rfl, rfl, _, rfl, iteD (fun h => absurd h (by omega)) (fun _ => ?_)⟩
            refine ⟨_, rfl, _, rfl, by omega, _, rfl, _, _, rfl, rfl, _, _, rfl, rfl, _, rfl, iteD (fun e3 => iteT ?_) (fun e3 => ⟨_, rfl, c, [48, 49, 50, 51], rfl, rfl, !decide (c ∈ ([48, 49, 50, 51] : List Nat)), rfl, iteN (fun e4 => ?_) (fun e4 => ?_)⟩)⟩
            · rw [if_pos (.inl (lk.mpr (by omega)))] at rd
              exact k2 (by rw [hrd, rd]; rfl) _ (g.2.1.trans s2)
            · rw [if_pos (.inr e4)] at rd
              exact k2 (by rw [hrd, rd]; rfl) _ (g.2.1.trans s2)
            · rw [if_neg (fun h => h.elim (fun h => e3 (by have := lk.mp h; omega)) (fun h => h e4))] at rd
              refine ⟨_, rfl, .inl ⟨rfl, _, SqL.of (s2 _ _ g.2.2)⟩, _, rfl, _, rfl, _, rfl, _, rfl, _, _, rfl, rfl, _, rfl, r, rfl, by omega, sz (show 2 ≤ 16777216 by decide), fun e ne => ?_⟩
              rw [e1] at *
              have g2 := (g.same s2).new (o := .tup [.str (S [c]), .str (S ((r.take (3 + k)).drop 3))]) ne
              refine ⟨q, _, _, rfl, rfl, g2.2.2, szl (by omega), _, rfl, _, rfl, _, _, rfl, rfl, _, rfl, r, rfl, by omega, ?_⟩
              rw [e2]
              refine next (r.drop (3 + k)) ((r.take (3 + k)).drop 3) c H2 e _ _ s2 ne rd ?_
              rw [List.length_drop]
              (try rw [List.length_cons])
              omega
    · subst e0
      have : partsF f s (n + 1) [] = some [] := rfl
      rw [this] at hrd
      refine ⟨_, rfl, k1 _ hrd q xs H' g.1 g.2.1 g.2.2 ?_⟩
      show Prs H' xs (done ++ [])
      rw [List.append_nil]
      exact hP
end
end R
set_option maxRecDepth 100000
set_option maxHeartbeats 8000000
set_option pp.maxSteps 1500
set_option pp.deepTerms false
namespace R
open PySem PySem.Spec PyProof.Rows L2 RZ
open PySem.W (Datum)
theorem pcsF_drop {f : List Nat} {s i : Nat} {ls : List (List Nat)} {l : List Nat} (h : ls[i]? = some l) : pcsF f s (ls.drop i) = (partsOf f s l).getD [] ++ pcsF f s (ls.drop (i + 1)) := by
  obtain ⟨hi, e⟩ := List.getElem?_eq_some_iff.mp h
  rw [List.drop_eq_getElem_cons hi, e]
  rfl
theorem okAll_at {f : List Nat} {s b : Nat} {ls : List (List Nat)} {l : List Nat} (h : l ∈ ls) (k : okAll f s b ls = true) : (partsOf f s l).isSome = true ∧ 1 ≤ l.length ∧ l.length ≤ b := by
  have := List.all_eq_true.mp k l h
  rw [Bool.and_eq_true, Bool.and_eq_true, decide_eq_true_eq, decide_eq_true_eq] at this
  exact this
theorem dueF_not {f : List Nat} {s b : Nat} {ls : List (List Nat)} (h : okAll f s b ls = true → stitch s none (pcsF f s ls) = none) : dueF f s b ls = none := by
  unfold dueF
  split
  · rename_i k
    exact h k
  · rfl
def blockW : V := .str (S [98, 108, 111, 99, 107])
section
variable {P : Program} {w : World} {K : PySem.W.Frag} {mg : Str → Option Value} {base : Heap}
def sp__law_due (K : PySem.W.Frag) : Sp := fun vs H Q _ => ∃ (a pa : Addr) (f : List Nat) (b s : Nat) (ls : List (List Nat)), vs = [.ref a, .ref pa] ∧ SqL K H a (txs ls) ∧ H pa = some (.tup [.str (S f), .int (b : Nat), .int (s : Nat)]) ∧ (∀ l ∈ ls, l.length ≤ 100) ∧ ls.length ≤ 100000 ∧ 1 ≤ s ∧ s ≤ 200 ∧
  (∀ rs, dueF f s b ls = some rs → ∀ q H', Same H H' → H' q = some (.lst (txs rs)) → Q (.ref q) H') ∧ (dueF f s b ls = none → ∀ H', Same H H' → Q blockW H')
theorem ok__law_due (T : Txt K mg) : FnOk P w K mg base (L2.CX P w) 3 T._law_due.a T._law_due.d ["_law_blocks", "_law_shape_here"] (sp__law_due K) := by
  refine T._law_due.F.okX sc__law_due (fun vs H Q E h => ?_) (fun cdv A outer s0 H vs Q E hr h => ?_)
  · obtain ⟨a, pa, f, b, s, ls, rfl, _⟩ := h
    rfl
  · obtain ⟨a, pa, f, b, s, ls, rfl, hS, hpa, hl100, hmany, hs1, hs2, k1, k2⟩ := h
    refine ⟨_, (pss_cons (ps_set (i := 2) sc__law_due.nd rfl (.inl rfl) (pe_lst pa_nil))
    (pss_cons (ps_set (i := 3) sc__law_due.nd rfl (.inl rfl) pe_non)
    (pss_cons (ps_for (passes_of rfl) rfl
      (pi_list (pv 0)) (pg_name (i := 4) sc__law_due.nd rfl (.inl rfl))
      (pss_cons (ps_set (i := 5) sc__law_due.nd rfl (.inl rfl) (pe_call (ok__law_parts T) (hr.mono (by decide)) (by rfl) T._law_parts.g T._law_parts.F.kp T._law_parts.b .nil passL (pa_cons (pv 4) (pa_cons (pv 1) pa_nil))))
      (pss_cons (ps_if (PW.pt (pw_or (pt_cmpR op_isN (pv 5) pe_non (nomark _)) (pw_or1 (pt_not (pt_chain op_le op_le pe_int (pe_callB call_lenS (by rfl) T.z_len PySem.boot_len (pa_cons (pv 4) pa_nil)) (pe_ix ix_tup (pv 1) pe_int (fun _ _ => rfl)))))))
        (pss_one (ps_ret (pe_strS (l := [98, 108, 111, 99, 107]) (by decide +kernel))))
        pss_nil)
      (pss_one (ps_for (passes_of rfl) rfl
        (pi_list (pv 5)) (pg_tup rfl (pgs_cons (pg_name (i := 6) sc__law_due.nd rfl (.inl rfl)) (pgs_cons (pg_name (i := 7) sc__law_due.nd rfl (.inl rfl)) pgs_nil)))
        (pss_cons (ps_if (pt_cmpR op_ne (pe_cmpR op_inS2 (pv 6) (pe_strS (l := [48, 49]) (by decide +kernel)) (by rfl)) (pe_cmpR op_isN (pv 3) pe_non (nomark _)) (nomark _))
          (pss_one (ps_ret (pe_strS (l := [98, 108, 111, 99, 107]) (by decide +kernel))))
          pss_nil)
        (pss_cons (ps_set (i := 8) sc__law_due.nd rfl (.inl rfl) (pe_ifExp (pt_cmpR op_isN (pv 3) pe_non (nomark _)) (pv 7) (pe_op op_addS (pv 3) (pv 7))))
        (pss_cons (ps_if (pt_cmpR op_gt (pe_callB call_lenS (by rfl) T.z_len PySem.boot_len (pa_cons (pv 8) pa_nil)) (pe_ix ix_tup (pv 1) pe_int (fun _ _ => rfl)) (nomark _))
          (pss_one (ps_ret (pe_strS (l := [98, 108, 111, 99, 107]) (by decide +kernel))))
          pss_nil)
        (pss_cons (ps_set (i := 3) sc__law_due.nd rfl (.inl rfl) (pe_ifExp (pt_cmpR op_inS2 (pv 6) (pe_strS (l := [49, 51]) (by decide +kernel)) (by rfl)) (pv 8) pe_non))
        (pss_one (ps_set (i := 2) sc__law_due.nd rfl (.inl rfl) (pe_op op_cat (pv 2) (pe_ifExp (pt_cmpR op_isN (pv 3) pe_non (nomark _)) (pe_lst (pa_cons (pv 8) pa_nil)) (pe_lst pa_nil))))))))))))))
    (pss_one (ps_ret (pe_ifExp (pt_cmpR op_isN (pv 3) pe_non (nomark _)) (pv 2) (pe_strS (l := [98, 108, 111, 99, 107]) (by decide +kernel)))))))), ?_⟩
    refine ⟨sz (by decide), fun q0 nq => ?_⟩
    have sq := same_new (o := .lst []) nq
    refine ⟨_, rfl, a, rfl, ⟨_, sql_same hS sq⟩, for_it (walk_list (xs := txs ls)) (fun i σ H' => ∃ (o : Option (List Nat)) (recs : List (List Nat)) (q : Addr) (o4 o5 o6 o7 o8 : Option V), σ = [some (.ref a), some (.ref pa), some (.ref q), some (openV o), o4, o5, o6, o7, o8] ∧ Same H H' ∧ H' q = some (.lst (txs recs)) ∧
      (okAll f s b ls = true → stitch s none (pcsF f s ls) = (stitch s o (pcsF f s (ls.drop i))).map (recs ++ ·)) ∧ recs.length ≤ 100 * i ∧ (∀ l, o = some l → l.length ≤ 200) ∧ ∀ m ∈ ls.take i, (partsOf f s m).isSome = true ∧ 1 ≤ m.length ∧ m.length ≤ b) ⟨none, [], q0, none, none, none, none, none, rfl, sq, upd_same, ?_, Nat.zero_le _, (fun l h => by cases h), (fun m h => by rw [List.take_zero] at h; cases h)⟩ (fun i σ H' _ h => by obtain ⟨o, recs, q, o4, o5, o6, o7, o8, _, sm, _⟩ := h; exact sql_same hS sm) ?_ ?_⟩
    · intro _
      rw [List.drop_zero]
      cases stitch s none (pcsF f s ls) <;> rfl
    · rintro i x σ H1 H2 hi ⟨o, recs, q, o4, o5, o6, o7, o8, rfl, sm, hq, hst, hrl, hol, hdone⟩ ⟨rfl, hx⟩
      obtain ⟨l, hl, rfl⟩ := strs_get hx
      have hlm := List.mem_of_getElem? hl
      have hll := hl100 l hlm
      rw [strs_len] at hi
      refine ⟨_, rfl, _, rfl, l, f, b, s, pa, rfl, sm _ _ hpa, by omega, hs1, by omega, fun ps hps q2 zs H3 nq2 s3 hq2 hP => ?_, fun hno H3 s3 => ?_⟩
      · have sm3 := sm.trans s3
        have hlen : (¬ (1 ≤ l.length ∧ l.length ≤ b)) → ∀ H', Same H H' → Q blockW H' := fun hn H' s' => k2 (dueF_not fun k => absurd (okAll_at hlm k).2 hn) _ s'
        have hpcs := pcsF_drop (f := f) (s := s) hl
        rw [hps] at hpcs
        have hpcs : pcsF f s (ls.drop i) = ps ++ pcsF f s (ls.drop (i + 1)) := hpcs
        have hcnt := partsF_count hs1 _ _ _ hps
        have hsgn := partsF_sign _ _ _ hps
        have hplen := partsF_len f s _ _ _ hps
        have zl := hP.len
        have body : 1 ≤ l.length → l.length ≤ b → True := fun _ _ => trivial
        refine ⟨_, rfl, rfl, _, rfl, iteD (fun h => by cases h) (fun _ => ?_)⟩
        refine ⟨_, rfl, l, rfl, by omega, _, _, rfl, rfl, _, rfl, iteD (fun e1 => ⟨_, rfl, pa, _, _, _, rfl, rfl, SqT.of (sm3 _ _ hpa), rfl, _, _, rfl, rfl, _, rfl, ?_⟩) (fun e1 => ?_)⟩
        · refine iteN (fun e2 => hlen (by omega) _ sm3) (fun e2 => ?_)
          refine ⟨_, rfl, q2, rfl, ⟨_, SqL.of hq2⟩, for_it (walk_list (xs := zs)) (fun j σ H' => ∃ (o : Option (List Nat)) (recs : List (List Nat)) (q : Addr) (o6 o7 o8 : Option V), σ = [some (.ref a), some (.ref pa), some (.ref q), some (openV o), some (.str (S l)), some (.ref q2), o6, o7, o8] ∧ Same H H' ∧ H' q = some (.lst (txs recs)) ∧ H' q2 = some (.lst zs) ∧ Prs H' zs ps ∧
            (okAll f s b ls = true → stitch s none (pcsF f s ls) = (stitch s o (ps.drop j ++ pcsF f s (ls.drop (i + 1)))).map (recs ++ ·)) ∧ recs.length ≤ 100 * i + j ∧ (∀ l, o = some l → l.length ≤ 200)) ⟨o, recs, q, o6, o7, o8, rfl, sm3, s3 _ _ hq, hq2, hP, ?_, by omega, hol⟩ (fun j σ H' _ h => by obtain ⟨o, recs, q, o6, o7, o8, _, _, _, hD, _⟩ := h; exact SqL.of hD) ?_ ?_⟩
          · intro k
            rw [List.drop_zero, ← hpcs]
            exact hst k
          · rintro j x σ H4 H5 hlt ⟨o, recs, q, o6, o7, o8, rfl, sm4, hq4, hD, hP4, hst4, hrl4, hol4⟩ ⟨rfl, hx2⟩
            obtain ⟨pr, p, rfl, hp, hpr⟩ := hP4.get hx2
            obtain ⟨p1, p2⟩ := p
            have hpr : H5 pr = some (.tup [.str (S [p1]), .str (S p2)]) := hpr
            have hpm := List.mem_of_getElem? hp
            have pl : p2.length ≤ 100 := Nat.le_trans (hplen _ hpm) hll
            have ps1 : p1 ∈ ([48, 49, 50, 51] : List Nat) := hsgn _ hpm
            have hj : j < ps.length := by rw [← zl]; exact hlt
            have hdr : ps.drop j = (p1, p2) :: ps.drop (j + 1) := by
              obtain ⟨hi', e⟩ := List.getElem?_eq_some_iff.mp hp
              rw [List.drop_eq_getElem_cons hi', e]
            rw [hdr, List.cons_append, stitch_cons] at hst4
            have hgl : (o.getD [] ++ p2).length ≤ 300 := by
              rw [List.length_append]
              cases o with
              | none => show 0 + p2.length ≤ 300; omega
              | some l => have := hol4 l rfl; show l.length + p2.length ≤ 300; omega
            refine ⟨pr, _, rfl, .inl (.inl hpr), rfl, _, _, rfl, _, _, rfl, rfl, ?_⟩
            refine ⟨_, rfl, _, _, rfl, rfl, _, rfl, rfl, rfl, _, rfl, ?_⟩
            show if (!decide (V.bl (decide (p1 ∈ ([48, 49] : List Nat))) = V.bl (decide (openV o = .non)))) = true then _ else _
            rw [openV_non, bl_dec]
            refine iteN (fun e1 => ?_) (fun e1 => ?_)
            · rw [if_neg e1] at hst4
              exact k2 (dueF_not hst4) _ sm4
            · rw [if_pos e1] at hst4
              refine te_whole rfl rfl (by omega) ?_
              refine ⟨_, rfl, _, rfl, by omega, _, rfl, pa, _, _, _, rfl, rfl, SqT.of (sm4 _ _ hpa), rfl, _, _, rfl, rfl, _, rfl, iteD (fun e2 => ?_) (fun e2 => ?_)⟩
              · rw [if_pos e2] at hst4
                exact k2 (dueF_not hst4) _ sm4
              · rw [if_neg e2] at hst4
                have hnot : p1 ∈ ([49, 51] : List Nat) ↔ ¬ p1 ∈ ([48, 50] : List Nat) := by
                  simp only [List.mem_cons, List.not_mem_nil, or_false] at ps1 ⊢
                  omega
                refine ⟨_, rfl, _, _, rfl, rfl, decide (p1 ∈ ([49, 51] : List Nat)), rfl, iteD (fun e3 => ?_) (fun e3 => ?_)⟩
                · rw [if_neg (hnot.mp e3)] at hst4
                  refine ⟨_, rfl, _, rfl, _, rfl, rfl, _, rfl, iteD (fun h => by cases h) (fun _ => ⟨sz (by decide), fun e ne => ⟨q, e, _, _, rfl, rfl, same_new ne _ _ hq4, upd_same, sz (show (txs recs).length + 0 ≤ 16777216 by rw [strs_len]; omega), fun pn npn => ?_⟩⟩)⟩
                  have sn := (same_new (o := .lst []) ne).trans (same_new (o := .lst (txs recs ++ [])) npn)
                  refine ⟨some (o.getD [] ++ p2), recs, pn, _, _, _, rfl, sm4.trans sn, ?_, sn _ _ hD, hP4.same sn, hst4, by omega, fun l hl => ?_⟩
                  · rw [upd_same, List.append_nil]
                  · cases hl
                    have : ((o.getD [] ++ p2).length : Int) ≤ s := by omega
                    omega
                · rw [if_pos (Decidable.not_not.mp fun h => e3 (hnot.mpr h))] at hst4
                  refine ⟨_, rfl, _, rfl, rfl, _, rfl, iteD (fun _ => ⟨_, rfl, sz (show 1 ≤ 16777216 by decide), fun e ne => ⟨q, e, _, _, rfl, rfl, same_new ne _ _ hq4, upd_same, sz (show (txs recs).length + 1 ≤ 16777216 by rw [strs_len]; omega), fun pn npn => ?_⟩⟩) (fun h => absurd rfl h)⟩
                  have sn := (same_new (o := .lst [.str (S (o.getD [] ++ p2))]) ne).trans (same_new (o := .lst (txs recs ++ [.str (S (o.getD [] ++ p2))])) npn)
                  refine ⟨none, recs ++ [o.getD [] ++ p2], pn, _, _, _, rfl, sm4.trans sn, ?_, sn _ _ hD, hP4.same sn, fun k => ?_, by rw [List.length_append, List.length_singleton]; omega, fun l hl => by cases hl⟩
                  · rw [upd_same, strs_app]; rfl
                  · rw [hst4 k]
                    cases stitch s none (ps.drop (j + 1) ++ pcsF f s (ls.drop (i + 1))) with
                    | none => rfl
                    | some rs =>
                      show some (recs ++ ((o.getD [] ++ p2) :: rs)) = some (recs ++ [o.getD [] ++ p2] ++ rs)
                      rw [List.append_assoc]
                      rfl
          · rintro σ H4 ⟨o, recs, q, o6, o7, o8, rfl, sm4, hq4, hD, hP4, hst4, hrl4, hol4⟩
            refine ⟨o, recs, q, _, _, _, _, _, rfl, sm4, hq4, fun k => ?_, by rw [zl] at hrl4; omega, hol4, fun m hm => ?_⟩
            · have := hst4 k
              rw [zl, List.drop_length, List.nil_append] at this
              exact this
            · rw [List.take_add_one, hl, Option.toList_some] at hm
              rcases List.mem_append.mp hm with hm | hm
              · exact hdone m hm
              · rw [List.mem_singleton.mp hm, hps]
                exact ⟨rfl, by omega, by omega⟩
        · exact ⟨_, rfl, iteT (hlen (by omega) _ sm3)⟩
      · refine ⟨_, rfl, rfl, _, rfl, iteD (fun _ => iteT ?_) (fun h => absurd rfl h)⟩
        refine k2 (dueF_not fun k => ?_) _ (sm.trans s3)
        have := (okAll_at hlm k).1
        rw [hno] at this
        cases this
    · rintro σ H1 ⟨o, recs, q, o4, o5, o6, o7, o8, rfl, sm, hq, hst, hrl, hol, hdone⟩
      rw [strs_len, List.drop_length] at hst
      refine ⟨_, rfl, rfl, _, rfl, ?_⟩
      rw [openV_non]
      cases o with
      | none =>
        refine iteT ⟨_, rfl, ?_⟩
        by_cases k : okAll f s b ls = true
        · have := hst k
          refine k1 recs ?_ q H1 sm hq
          unfold dueF
          rw [if_pos k, this]
          show some (recs ++ []) = _
          rw [List.append_nil]
        · refine absurd (List.all_eq_true.mpr fun m hm => ?_) k
          rw [strs_len, List.take_length] at hdone
          have := hdone m hm
          rw [this.1, decide_eq_true this.2.1, decide_eq_true this.2.2]
          rfl
      | some l =>
        refine iteF (k2 (dueF_not fun k => hst k) _ sm)
end
end R
set_option maxRecDepth 100000
set_option maxHeartbeats 8000000
set_option pp.maxSteps 1500
set_option pp.deepTerms false
namespace R
open PySem PySem.Spec PyProof.Rows L2 RZ
open PySem.W (Datum)
theorem okBlks_of {b : Nat} {ls : List (List Nat)} (h : ∀ t ∈ ls, 1 ≤ t.length ∧ t.length ≤ b) : okBlks b (some (ls.map some)) = true := by
  show (ls.map some).all _ = true
  rw [List.all_eq_true]
  intro r hr
  obtain ⟨l, hl, rfl⟩ := List.mem_map.mp hr
  dsimp only
  rw [decide_eq_true (h l hl).1, decide_eq_true (h l hl).2]
  rfl
theorem blocksOf_len (f : List Nat) (b : Nat) (rs : List (List Nat)) (h : ∀ r ∈ rs, r.length ≤ 1000) : (blocksOf f b rs).length ≤ rs.length * 1001 := by
  unfold blocksOf
  split
  · have := fold_len b rs []
    rw [List.length_nil] at this
    unfold fill
    omega
  · split
    · have := fold_len b (rs.map fun r => fig r.length 3 ++ r) []
      rw [List.length_nil, List.length_map] at this
      unfold fill
      omega
    · rw [List.length_map]
      exact spAll_len b rs h
section
variable {P : Program} {w : World} {K : PySem.W.Frag} {mg : Str → Option Value} {base : Heap}
def sp__law_read (K : PySem.W.Frag) : Sp := fun vs H Q _ => ∃ (a pa : Addr) (f : List Nat) (b s : Nat) (ls : List (List Nat)), vs = [.ref a, .ref pa] ∧ SqL K H a (txs ls) ∧ H pa = some (.tup [.str (S f), .int (b : Nat), .int (s : Nat)]) ∧ okForm (.str (S f)) (.int b) (.int s) = true ∧ (∀ l ∈ ls, l.length ≤ 100) ∧ ls.length ≤ 16200 ∧
  (∀ rs, dueF f s b ls = some rs → ∀ q H', Same H H' → H' q = some (.lst (txs rs)) → Q (.ref q) H') ∧ (dueF f s b ls = none → ∀ H', Same H H' → Q blockW H')
theorem ok__law_read (T : Txt K mg) : FnOk P w K mg base (L2.CX P w) 4 T._law_read.a T._law_read.d ["_law_blocks", "_law_shape_here"] (sp__law_read K) := by
  refine T._law_read.F.okX sc__law_read (fun vs H Q E h => ?_) (fun cdv A outer s0 H vs Q E hr h => ?_)
  · obtain ⟨a, pa, f, b, s, ls, rfl, _⟩ := h
    rfl
  · obtain ⟨a, pa, f, b, s, ls, rfl, hS, hpa, ok, hl, hmany, k1, k2⟩ := h
    refine ⟨_, (pss_cons (ps_set (i := 2) sc__law_read.nd rfl (.inl rfl) pe_non)
    (pss_cons (ps_set (i := 3) sc__law_read.nd rfl (.inl rfl) pe_non)
    (pss_cons (ps_try_keep (i := 4) rfl rfl sc__law_read.nd rfl rfl ⟨rfl, by decide, .inl T.ReelError.g⟩ rfl (fun W pn xe tk _ => (pss_one (ps_set (i := 3) sc__law_read.nd rfl (.inl rfl) (pe_callNS (ok_unblocked T) (hr.mono (by decide)) (by rfl) T.unblocked.g T.unblocked.F.kp T.kb_unblocked_form_block_size tk (pa_cons (pv 0) pa_nil) (pk_cons (pe_ix (ix_tupC (K := K) rfl) (pv 1) pe_int (fun _ _ => rfl)) (pk_cons (pe_ix (ix_tupC (K := K) rfl) (pv 1) pe_int (fun _ _ => rfl)) (pk_cons (pe_ix (ix_tupC (K := K) rfl) (pv 1) pe_int (fun _ _ => rfl)) pk_nil))))))) (fun a pn => (pss_one (ps_set (i := 2) sc__law_read.nd rfl (.inl rfl) (pv 4)))))
    (pss_one (ps_ret (pe_ifExp (pt_cmpR op_isN (pv 2) pe_non (nomark _)) (pv 3) (pe_call (ok__law_refusal T) (hr.mono (by decide)) (by rfl) T._law_refusal.g T._law_refusal.F.kp T._law_refusal.b .nil passL (pa_cons (pv 2) pa_nil)))))))), ?_⟩
    refine ⟨_, rfl, _, rfl, pa, _, 0, _, rfl, rfl, SqT.of hpa, rfl, _, rfl, pa, _, 1, _, rfl, rfl, SqT.of hpa, rfl, _, rfl, pa, _, 2, _, rfl, rfl, SqT.of hpa, rfl, rfl, rfl, ?_⟩
    have refuse : ∀ H1, Same H H1 → dueF f s b ls = none → True := fun _ _ _ => trivial
    refine ⟨.ref a, .str (S f), .int b, .int s, some (ls.map some), "str", "int", "int", rfl, .ofs hS (by omega) (fun l h => by have := hl l h; omega), .str _, .int _, .int _, fun no => (by rw [ok] at no; cases no), fun _ f' bi si ex eb es => ?_⟩
    obtain rfl : f = f' := S_inj.mp (V.str.inj ex)
    obtain rfl : b = bi := by have := V.int.inj eb; omega
    obtain rfl : s = si := by have := V.int.inj es; omega
    refine ⟨fun no H1 s1 => ?_, fun yes => ⟨ls, rfl, hmany, fun rs hrs q H1 g => ?_, fun hn H1 s1 => ?_⟩⟩
    · exact ⟨_, rfl, rfl, (kind_BadBlock T).e, fun x nx => ⟨_, rfl, fun _ => ⟨_, rfl, rfl, _, rfl, iteF ⟨_, rfl, x, _, 9, rfl, upd_same, kind_BadBlock T, fun H9 s9 => k2 (dueF_no no) _ ((s1.trans (same_new nx)).trans s9)⟩⟩⟩⟩
    · rw [← dueF_unb yes] at hrs
      exact ⟨_, rfl, rfl, _, rfl, iteT ⟨_, rfl, k1 rs hrs q H1 g.2.1 g.2.2⟩⟩
    · rw [← dueF_unb yes] at hn
      exact ⟨_, rfl, rfl, (kind_BadBlock T).e, fun x nx => ⟨_, rfl, fun _ => ⟨_, rfl, rfl, _, rfl, iteF ⟨_, rfl, x, _, 9, rfl, upd_same, kind_BadBlock T, fun H9 s9 => k2 hn _ ((s1.trans (same_new nx)).trans s9)⟩⟩⟩⟩
theorem ixN_at {n j : Nat} (h : j < n) : ixN n ((j : Nat) : Int) = some j := by
  unfold ixN
  rw [if_pos (Int.natCast_nonneg j), if_pos (Int.ofNat_lt.mpr h), Int.toNat_natCast]
theorem cut_txs (l : List (List Nat)) (lo hi : Option Int) : ∃ m : List (List Nat), cutV (txs l) lo hi = txs m ∧ (∀ x ∈ m, x ∈ l) ∧ m.length ≤ l.length := by
  refine ⟨(l.drop (HT.sIx (txs l).length 0 lo)).take (HT.sIx (txs l).length (txs l).length hi - HT.sIx (txs l).length 0 lo), ?_, fun x hx => List.mem_of_mem_drop (List.mem_of_mem_take hx), ?_⟩
  · unfold cutV
    show ((l.map fun l => V.str (S l)).drop _).take _ = ((l.drop _).take _).map _
    rw [List.map_take, List.map_drop]
  · rw [List.length_take, List.length_drop]; omega
def MidW : TS := fun D σ H => ∃ (a t pf q wq : Addr) (o4 o6 o7 o8 : Option V) (f : List Nat) (b s : Nat) (ls : List (List Nat)), σ = [some (.ref a), some (.ref t), some (.ref pf), some (.ref q), o4, some (.ref wq), o6, o7, o8] ∧ H wq = some (.lst (txs ls)) ∧ H pf = some (.tup [.str (S f), .int (b : Nat), .int (s : Nat)]) ∧ okForm (.str (S f)) (.int b) (.int s) = true ∧ (∀ l ∈ ls, l.length ≤ 100) ∧ ls.length ≤ 16200 ∧
  ∀ H', Same H H' → D.nx σ H'
def spLaw (K : PySem.W.Frag) : Sp := fun vs H Q _ => ∃ (a : Addr) (ns : List Int), vs = [.ref a] ∧ SqL K H a (ns.map V.int) ∧ ns.length ≤ 63 ∧ ∀ H', Q (.bl true) H'
theorem ok_law (T : Txt K mg) : FnOk P w K mg base (L2.CX P w) 5 T.law.a T.law.d ["_law_script"] (spLaw K) := by
  refine T.law.F.okX sc_law (fun vs H Q E h => ?_) (fun cdv A outer s0 H0 vs Q E hr h => ?_)
  · obtain ⟨a, ns, rfl, _⟩ := h
    rfl
  · obtain ⟨a, ns0, rfl, hS, hlen, kk⟩ := h
    refine ⟨_, (pss_cons (ps_set (i := 1) sc_law.nd rfl (.inl rfl) (pe_call (ok__law_town T) (hr.mono (by decide)) (by rfl) T._law_town.g T._law_town.F.kp T._law_town.b .nil passL (pa_cons (pv 0) pa_nil)))
    (pss_cons (ps_set (i := 2) sc_law.nd rfl (.inl rfl) (pe_call (ok__law_shape T) (hr.mono (by decide)) (by rfl) T._law_shape.g T._law_shape.F.kp T._law_shape.b .nil passL (pa_cons (pv 1) pa_nil)))
    (pss_cons (ps_set (i := 3) sc_law.nd rfl (.inl rfl) (pe_callN (ok_blocked T) (hr.mono (by decide)) (by rfl) T.blocked.g T.blocked.F.kp T.kb_blocked_form_block_size passL (pa_cons (pe_call (ok__law_records T) (hr.mono (by decide)) (by rfl) T._law_records.g T._law_records.F.kp T._law_records.b .nil passL (pa_cons (pv 1) (pa_cons (pv 2) (pa_cons (pe_op op_add pe_int (pe_call (ok__law_draw T) (hr.mono (by decide)) (by rfl) T._law_draw.g T._law_draw.F.kp T._law_draw.b .nil passL (pa_cons (pv 1) (pa_cons pe_int pa_nil)))) pa_nil)))) pa_nil) (pk_cons (pe_ix ix_tup (pv 2) pe_int (fun _ _ => rfl)) (pk_cons (pe_ix ix_tup (pv 2) pe_int (fun _ _ => rfl)) (pk_cons (pe_ix ix_tup (pv 2) pe_int (fun _ _ => rfl)) pk_nil)))))
    (pss_cons (ps_for (passes_of rfl) rfl
      (pi_range1 (by rfl) T.z_range (pa_cons pe_int pa_nil)) (pg_name (i := 4) sc_law.nd rfl (.inl rfl))
      (pss_cons (ps_set (i := 5) sc_law.nd rfl (.inl rfl) (pe_callTy call_list_of (by rfl) T.z_list (by decide +kernel) (pa_cons (pv 3) pa_nil)))
      (pss_cons (ps_if (pt_cmpR (op_neP hr.units) (pv 5) (pe_lst pa_nil) (nomark _))
        (pss_cons (ps_set (i := 6) sc_law.nd rfl (.inl rfl) (pe_call (ok__law_draw T) (hr.mono (by decide)) (by rfl) T._law_draw.g T._law_draw.F.kp T._law_draw.b .nil passL (pa_cons (pv 1) (pa_cons (pe_callB call_len_seq (by rfl) T.z_len PySem.boot_len (pa_cons (pv 5) pa_nil)) pa_nil))))
        (pss_cons (ps_set (i := 7) sc_law.nd rfl (.inl rfl) (pe_call (ok__law_draw T) (hr.mono (by decide)) (by rfl) T._law_draw.g T._law_draw.F.kp T._law_draw.b .nil passL (pa_cons (pv 1) (pa_cons (pe_op op_add (pe_callB call_lenS (by rfl) T.z_len PySem.boot_len (pa_cons (pe_ix ix_list (pv 5) (pv 6) (fun _ _ => rfl)) pa_nil)) pe_int) pa_nil))))
        (pss_cons (ps_set (i := 8) sc_law.nd rfl (.inl rfl) (pe_call (ok__law_pick T) (hr.mono (by decide)) (by rfl) T._law_pick.g T._law_pick.F.kp T._law_pick.b .nil passL (pa_cons (pv 1) (pa_cons (pe_lst (pa_cons (pe_strS (l := [48]) (by decide +kernel)) (pa_cons (pe_strS (l := [49]) (by decide +kernel)) (pa_cons (pe_strS (l := [50]) (by decide +kernel)) (pa_cons (pe_strS (l := [51]) (by decide +kernel)) (pa_cons (pe_strS (l := [120]) (by decide +kernel)) (pa_cons (pe_strS (l := [57]) (by decide +kernel)) (pa_cons (pe_strS (l := []) (by decide +kernel)) pa_nil)))))))) pa_nil))))
        (pss_cons (ps_asg (pe_call (ok__law_pick T) (hr.mono (by decide)) (by rfl) T._law_pick.g T._law_pick.F.kp T._law_pick.b .nil passL (pa_cons (pv 1) (pa_cons (pe_lst (pa_cons (pe_op op_addS (pe_op op_addS (pe_slice sl_strS (pe_ix ix_list (pv 5) (pv 6) (fun _ _ => rfl)) po_none (po_some (pv 7))) (pv 8)) (pe_slice sl_strS (pe_ix ix_list (pv 5) (pv 6) (fun _ _ => rfl)) (po_some (pe_op op_add (pv 7) pe_int)) po_none)) (pa_cons (pe_op op_addS (pe_op op_addS (pe_slice sl_strS (pe_ix ix_list (pv 5) (pv 6) (fun _ _ => rfl)) po_none (po_some (pv 7))) (pv 8)) (pe_slice sl_strS (pe_ix ix_list (pv 5) (pv 6) (fun _ _ => rfl)) (po_some (pv 7)) po_none)) pa_nil))) pa_nil))) (pg_sub (pv 5) (pv 6) set_list))
        (pss_one (ps_set (i := 5) sc_law.nd rfl (.inl rfl) (pe_call (ok__law_pick T) (hr.mono (by decide)) (by rfl) T._law_pick.g T._law_pick.F.kp T._law_pick.b .nil passL (pa_cons (pv 1) (pa_cons (pe_lst (pa_cons (pv 5) (pa_cons (pe_revL (pv 5)) (pa_cons (pe_op op_cat (pe_slice sl_list (pv 5) po_none (po_some (pv 6))) (pe_slice sl_list (pv 5) (po_some (pe_op op_add (pv 6) pe_int)) po_none)) (pa_cons (pe_op op_cat (pv 5) (pe_slice sl_list (pv 5) (po_some (pv 6)) (po_some (pe_op op_add (pv 6) pe_int)))) pa_nil))))) pa_nil)))))))))
        pss_nil)
      (PSs.mid (t' := MidW) (pss_one (ps_if (pt_cmpR (op_neP hr.units) (pe_call (ok__law_read T) (hr.mono (by decide)) (by rfl) T._law_read.g T._law_read.F.kp T._law_read.b .nil passL (pa_cons (pv 5) (pa_cons (pv 2) pa_nil))) (pe_call (ok__law_due T) (hr.mono (by decide)) (by rfl) T._law_due.g T._law_due.F.kp T._law_due.b .nil passL (pa_cons (pv 5) (pa_cons (pv 2) pa_nil))) (nomark _))
        (pss_one (ps_ret pe_bl))
        pss_nil)) ?m1))))
    (pss_one (ps_ret pe_bl)))))), ?_⟩
    case m1 =>
      rintro D σ H ⟨a, t, pf, q, wq, o4, o6, o7, o8, f, b, s, ls, rfl, hw, hp, ok, hl, hn, kD⟩
      obtain ⟨f', b', s', e1, e2, e3, hf1, hb1, hb2, hs1, hs2, hf2⟩ := okForm_iff ok
      obtain rfl : f = f' := S_inj.mp (V.str.inj e1)
      obtain rfl : b = b' := by have := V.int.inj e2; omega
      obtain rfl : s = s' := by have := V.int.inj e3; omega
      refine ⟨_, rfl, _, rfl, wq, pf, f, b, s, ls, rfl, SqL.of hw, hp, ok, hl, hn, fun rs e q1 H1 s1 hq1 => ⟨_, rfl, _, rfl, wq, pf, f, b, s, ls, rfl, SqL.of (s1 _ _ hw), s1 _ _ hp, hl, by omega, hs1, hs2, fun rs2 ee q2 H2 s2 hq2 => ?_, fun no => (by rw [e] at no; cases no)⟩, fun e H1 s1 => ⟨_, rfl, _, rfl, wq, pf, f, b, s, ls, rfl, SqL.of (s1 _ _ hw), s1 _ _ hp, hl, by omega, hs1, hs2, fun rs2 ee => (by rw [e] at ee; cases ee), fun _ H2 s2 => ?_⟩⟩
      · rw [e] at ee
        cases ee
        exact ne_strs (SqL.of (s2 _ _ hq1)) (SqL.of hq2) ⟨_, rfl, iteN (fun h => absurd rfl h) (fun _ => kD _ (s1.trans s2))⟩
      · exact rNeP_of (a := S [98, 108, 111, 99, 107]) (b := S [98, 108, 111, 99, 107]) (.str _) (.str _) ⟨_, rfl, iteN (fun h => absurd rfl h) (fun _ => kD _ (s1.trans s2))⟩
    -- the town, the shape
    refine ⟨_, rfl, a, ns0, rfl, hS, hlen, fun t r H1 s1 nt nr T1 => ?_⟩
    refine ⟨_, rfl, t, r, rfl, T1, fun f b s pf H2 ok b2 T2 npf hpf => ?_⟩
    obtain ⟨f', b', s', e1, e2, e3, hf1, hb1, hb2, hs1, hs2, hf2⟩ := okForm_iff ok
    obtain rfl : f = f' := S_inj.mp (V.str.inj e1)
    obtain rfl : b = b' := by have := V.int.inj e2; omega
    obtain rfl : s = s' := by have := V.int.inj e3; omega
    have n2 : pf ≠ t ∧ pf ≠ r := by
      obtain ⟨c, ns, g1, g2, _⟩ := T2
      exact ⟨fun e => (by rw [e, g1] at hpf; cases hpf), fun e => (by rw [e, g2] at hpf; cases hpf)⟩
    -- the records, the blocks
    refine ⟨_, rfl, _, rfl, _, rfl, t, r, 8, rfl, T2, by decide, by decide, fun z H3 z0 z1 b3 T3 => ?_⟩
    obtain ⟨zn, rfl⟩ : ∃ zn : Nat, z = zn := ⟨z.toNat, by omega⟩
    have hpf3 := b3 _ _ hpf n2.1 n2.2
    refine ⟨_, _, rfl, rfl, t, r, pf, f, b, s, 1 + zn, rfl, T3, hpf3, hs1, hs2, by omega, fun ls q H4 hok hl nq b4 T4 hq qt qr => ?_⟩
    have hpf4 := b4 _ _ hpf3 n2.1 n2.2
    have hfit : ∀ l ∈ ls, fitF f s l := fun l h => okRec_fit (hok l h)
    obtain ⟨hbl, _⟩ := blocks_read hf1 hb1 hb2 hs1 hs2 hf2 hfit
    have hbn : (blocksOf f b ls).length ≤ 8 * 1001 := by
      have := blocksOf_len f b ls fun r hr => by have := (hfit r hr).1; omega
      omega
    refine ⟨_, rfl, pf, _, 0, _, rfl, rfl, SqT.of hpf4, rfl, _, rfl, pf, _, 1, _, rfl, rfl, SqT.of hpf4, rfl, _, rfl, pf, _, 2, _, rfl, rfl, SqT.of hpf4, rfl, rfl, rfl, ?_⟩
    refine ⟨.ref q, .str (S f), .int b, .int s, some (ls.map some), "str", "int", "int", rfl, .ofs (SqL.of hq) (by omega) (fun l h => by have := (hfit l h).1; omega), .str _, .int _, .int _, fun no => (by rw [ok] at no; cases no), fun _ f' bi si ex eb es => ?_⟩
    obtain rfl : f = f' := S_inj.mp (V.str.inj ex)
    obtain rfl : b = bi := by have := V.int.inj eb; omega
    obtain rfl : s = si := by have := V.int.inj es; omega
    refine ⟨fun no => ?_, fun ls2 e2 _ => ⟨?_, fun q5 H5 g5 => ?_⟩⟩
    · have : okRecs f s (some (ls.map some)) = true := by
        show (ls.map some).all _ = true
        rw [List.all_eq_true]
        intro o ho
        obtain ⟨l, hl, rfl⟩ := List.mem_map.mp ho
        exact hok l hl
      rw [this] at no
      cases no
    · have := congrArg (fun o => (o.map List.length).getD 0) e2
      simp only [Option.map_some, Option.getD_some, List.length_map] at this
      omega
    have e3 : ls = ls2 := by
      have : ∀ {a b : List (List Nat)}, a.map some = b.map some → a = b := fun {a} => by
        induction a with
        | nil => intro b h; cases b with
          | nil => rfl
          | cons _ _ => cases h
        | cons x r ih => intro b h; cases b with
          | nil => cases h
          | cons y r2 =>
            injection h with h1 h2
            cases h1
            rw [ih h2]
      exact this (Option.some.inj e2)
    subst e3
    have hpf5 := g5.2.1 _ _ hpf4
    have T5 := T4.same g5.2.1
    have q5n : q5 ≠ t ∧ q5 ≠ r := T4.ne g5.1
    have hq5 := g5.2.2
    generalize hbl2 : blocksOf f b ls = bl at hbl hbn hq5
    -- the turns
    refine ⟨_, rfl, by decide, by decide, for_it walk_range (fun i σ H' => ∃ o4 o5 o6 o7 o8 : Option V, σ = [some (.ref a), some (.ref t), some (.ref pf), some (.ref q5), o4, o5, o6, o7, o8] ∧ Town H' t r ∧ H' pf = some (.tup [.str (S f), .int (b : Nat), .int (s : Nat)]) ∧ H' q5 = some (.lst (txs bl))) ⟨none, none, none, none, none, rfl, T5, hpf5, hq5⟩ (fun _ _ _ _ _ => trivial) ?_ ?_⟩
    · rintro i x σ Hz H6 hi ⟨o4, o5, o6, o7, o8, rfl, T6, hp6, hq6⟩ ⟨rfl, rfl⟩
      refine ⟨_, rfl, q5, _, rfl, .inl (SqL.of hq6), fun wq nw => ?_⟩
      have wn := T6.ne nw
      have hw7 : upd H6 wq (.lst (txs bl)) wq = some (.lst (txs bl)) := upd_same
      have T7 := town_new (o := .lst (txs bl)) T6 nw
      have hp7 := same_new (o := .lst (txs bl)) nw _ _ hp6
      have hq7 := same_new (o := .lst (txs bl)) nw _ _ hq6
      have wq5 : wq ≠ q5 := (ne_of_none hq6 nw).symm
      have wpf : wq ≠ pf := (ne_of_none hp6 nw).symm
      generalize upd H6 wq (.lst (txs bl)) = H7 at *
      refine ⟨_, rfl, sz (by decide), fun p np => ne_strs (ms := []) (SqL.of (same_new np _ _ hw7)) (SqL.of upd_same) ⟨_, rfl, iteN (fun hne => ?_) (fun heq => ?_)⟩⟩
      · have T8 := town_new (o := .lst []) T7 np
        have hw8 := same_new (o := .lst []) np _ _ hw7
        have hp8 := same_new (o := .lst []) np _ _ hp7
        have hq8 := same_new (o := .lst []) np _ _ hq7
        generalize upd H7 p (.lst []) = H8 at *
        have lpos : 0 < bl.length := List.length_pos_iff.mpr hne
        refine ⟨_, rfl, _, rfl, _, _, rfl, .inl (SqL.of hw8), t, r, _, rfl, T8, by rw [strs_len]; omega, by rw [strs_len]; omega, fun z9 H9 y0 y1 b9 T9 => ?_⟩
        rw [strs_len] at y1
        obtain ⟨kn, rfl⟩ : ∃ kn : Nat, z9 = kn := ⟨z9.toNat, by omega⟩
        have hw9 := b9 _ _ hw8 wn.1 wn.2
        have hp9 := b9 _ _ hp8 n2.1 n2.2
        have hq9 := b9 _ _ hq8 q5n.1 q5n.2
        have hkn : kn < bl.length := by omega
        obtain ⟨l, hlk⟩ : ∃ l, bl[kn]? = some l := ⟨_, List.getElem?_eq_getElem hkn⟩
        have hlb := hbl l (List.mem_of_getElem? hlk)
        have hat : ∀ {xs : List (List Nat)}, xs[kn]? = some l → atI (txs xs) ((kn : Nat) : Int) = some (.str (S l)) := fun {xs} e => atI_nat (by
          show (xs.map fun l => V.str (S l))[kn]? = _
          rw [List.getElem?_map, e]; rfl)
        refine ⟨_, rfl, _, rfl, _, rfl, wq, _, _, .str (S l), rfl, rfl, SqL.of hw9, hat hlk, _, rfl, by omega, _, _, rfl, rfl, t, r, _, rfl, T9, by omega, by omega, fun z10 H10 v0 v1 b10 T10 => ?_⟩
        obtain ⟨at_, rfl⟩ : ∃ n : Nat, z10 = n := ⟨z10.toNat, by omega⟩
        have hw10 := b10 _ _ hw9 wn.1 wn.2
        have hp10 := b10 _ _ hp9 n2.1 n2.2
        have hq10 := b10 _ _ hq9 q5n.1 q5n.2
        refine ⟨_, rfl, sz (show 7 ≤ 16777216 by decide), fun p11 np11 => ?_⟩
        have n11 := T10.ne np11
        refine ⟨t, r, p11, _, rfl, town_new T10 np11, SqL.of upd_same, n11.1, n11.2, (show 0 < 7 by decide), (show 7 < 1000 by decide), fun j v H12 hj b12 T12 => ?_⟩
        obtain ⟨sg, rfl, hsg⟩ : ∃ sg : List Nat, v = .str (S sg) ∧ sg.length ≤ 1 := by
          have := List.mem_of_getElem? hj
          simp only [List.mem_cons, List.not_mem_nil, or_false] at this
          rcases this with rfl | rfl | rfl | rfl | rfl | rfl | rfl
          · exact ⟨[48], rfl, by decide⟩
          · exact ⟨[49], rfl, by decide⟩
          · exact ⟨[50], rfl, by decide⟩
          · exact ⟨[51], rfl, by decide⟩
          · exact ⟨[120], rfl, by decide⟩
          · exact ⟨[57], rfl, by decide⟩
          · exact ⟨[], rfl, by decide⟩
        have s11 := same_new (o := .lst [.str (S [48]), .str (S [49]), .str (S [50]), .str (S [51]), .str (S [120]), .str (S [57]), .str (S [])]) np11
        have hw12 := b12 _ _ (s11 _ _ hw10) wn.1 wn.2
        have hp12 := b12 _ _ (s11 _ _ hp10) n2.1 n2.2
        have hq12 := b12 _ _ (s11 _ _ hq10) q5n.1 q5n.2
        refine ⟨_, rfl, _, rfl, _, rfl, wq, _, _, .str (S l), rfl, rfl, SqL.of hw12, hat hlk, _, rfl, _, rfl, l, rfl, by omega, ?_⟩
        rw [show sl l none (some ((at_ : Nat) : Int)) = l.take at_ from sl_to l at_]
        have la : (l.take at_).length ≤ 60 := by rw [List.length_take]; omega
        refine ⟨_, rfl, _, _, rfl, rfl, by omega, _, rfl, _, rfl, wq, _, _, .str (S l), rfl, rfl, SqL.of hw12, hat hlk, _, rfl, _, _, rfl, rfl, _, rfl, l, rfl, by omega, ?_⟩
        rw [show sl l (some (((at_ : Nat) : Int) + 1)) none = l.drop (at_ + 1) from sl_from l (at_ + 1)]
        have lb : (l.drop (at_ + 1)).length ≤ 60 := by rw [List.length_drop]; omega
        refine ⟨_, _, rfl, rfl, by rw [List.length_append]; omega, _, rfl, _, rfl, wq, _, _, .str (S l), rfl, rfl, SqL.of hw12, hat hlk, _, rfl, _, rfl, l, rfl, by omega, ?_⟩
        rw [show sl l none (some ((at_ : Nat) : Int)) = l.take at_ from sl_to l at_]
        refine ⟨_, rfl, _, _, rfl, rfl, by omega, _, rfl, _, rfl, wq, _, _, .str (S l), rfl, rfl, SqL.of hw12, hat hlk, _, rfl, _, rfl, l, rfl, by omega, ?_⟩
        rw [show sl l (some ((at_ : Nat) : Int)) none = l.drop at_ from sl_from l at_]
        have lc : (l.drop at_).length ≤ 60 := by rw [List.length_drop]; omega
        refine ⟨_, _, rfl, rfl, by rw [List.length_append]; omega, sz (show 2 ≤ 16777216 by decide), fun p13 np13 => ?_⟩
        have n13 := T12.ne np13
        refine ⟨t, r, p13, _, rfl, town_new T12 np13, SqL.of upd_same, n13.1, n13.2, (show 0 < 2 by decide), (show 2 < 1000 by decide), fun j2 v2 H14 hj2 b14 T14 => ?_⟩
        obtain ⟨l2, rfl, hl2⟩ : ∃ l2 : List Nat, v2 = .str (S l2) ∧ l2.length ≤ 100 := by
          have h61 : ∀ x : List Nat, x.length ≤ 60 → x.length ≤ 60 := fun _ h => h
          have hlt : (l.take at_).length + (l.drop at_).length = l.length := by rw [← List.length_append, List.take_append_drop]
          have hlt2 : (l.take at_).length + (l.drop (at_ + 1)).length ≤ l.length := by rw [List.length_take, List.length_drop]; omega
          have := List.mem_of_getElem? hj2
          simp only [List.mem_cons, List.not_mem_nil, or_false] at this
          rcases this with rfl | rfl
          · exact ⟨_, rfl, by rw [List.length_append, List.length_append]; omega⟩
          · exact ⟨_, rfl, by rw [List.length_append, List.length_append]; omega⟩
        have hw14 := b14 _ _ (same_new np13 _ _ hw12) wn.1 wn.2
        have hp14 := b14 _ _ (same_new np13 _ _ hp12) n2.1 n2.2
        have hq14 := b14 _ _ (same_new np13 _ _ hq12) q5n.1 q5n.2
        refine ⟨_, rfl, _, rfl, wq, _, _, kn, rfl, rfl, hw14, ixN_at (by rw [strs_len]; exact hkn), ?_⟩
        rw [show (txs bl).set kn (.str (S l2)) = txs (bl.set kn l2) from List.map_set.symm]
        have hw15 : upd H14 wq (.lst (txs (bl.set kn l2))) wq = some (.lst (txs (bl.set kn l2))) := upd_same
        have hp15 : upd H14 wq (.lst (txs (bl.set kn l2))) pf = some (.tup [.str (S f), .int (b : Nat), .int (s : Nat)]) := by rw [upd_ne wpf.symm]; exact hp14
        have hq15 : upd H14 wq (.lst (txs (bl.set kn l2))) q5 = some (.lst (txs bl)) := by rw [upd_ne wq5.symm]; exact hq14
        have T15 : Town (upd H14 wq (.lst (txs (bl.set kn l2)))) t r := by
          obtain ⟨c, ns, g1, g2, g3, g4⟩ := T14
          exact ⟨c, ns, by rw [upd_ne wn.1.symm]; exact g1, by rw [upd_ne wn.2.symm]; exact g2, g3, g4⟩
        have hbs : ∀ x ∈ bl.set kn l2, x.length ≤ 100 := fun x hx => by
          rcases List.mem_or_eq_of_mem_set hx with h | rfl
          · have := hbl x h; omega
          · exact hl2
        have hsl : (bl.set kn l2).length ≤ 8 * 1001 := by rw [List.length_set]; exact hbn
        generalize upd H14 wq (.lst (txs (bl.set kn l2))) = H15 at *
        generalize bl.set kn l2 = ws at *
        refine ⟨_, rfl, _, rfl, _, rfl, wq, _, rfl, SqL.of hw15, fun p16 np16 => ?_⟩
        have s16 := same_new (o := .lst (txs ws).reverse) np16
        have h16 : upd H15 p16 (.lst (txs ws).reverse) p16 = some (.lst (txs ws.reverse)) := by rw [upd_same]; exact congrArg (fun x => some (HO.lst x)) List.map_reverse.symm
        have T16 := T15.same s16
        obtain ⟨H16, e16⟩ : ∃ G, G = upd H15 p16 (.lst (txs ws).reverse) := ⟨_, rfl⟩
        rw [← e16] at s16 h16 T16 ⊢
        refine ⟨_, rfl, _, rfl, _, rfl, wq, _, rfl, SqL.of (s16 _ _ hw15), fun p17 np17 => ?_⟩
        obtain ⟨m17, c17, i17, l17⟩ := cut_txs ws none (some ((kn : Nat) : Int))
        rw [c17]
        have s17 := same_new (o := .lst (txs m17)) np17
        have h17 : upd H16 p17 (.lst (txs m17)) p17 = some (.lst (txs m17)) := upd_same
        obtain ⟨H17, e17⟩ : ∃ G, G = upd H16 p17 (.lst (txs m17)) := ⟨_, rfl⟩
        rw [← e17] at s17 h17 ⊢
        refine ⟨_, rfl, _, rfl, _, _, rfl, rfl, _, rfl, wq, _, rfl, SqL.of (s17 _ _ (s16 _ _ hw15)), fun p18 np18 => ?_⟩
        obtain ⟨m18, c18, i18, l18⟩ := cut_txs ws (some (((kn : Nat) : Int) + 1)) none
        rw [c18]
        have s18 := same_new (o := .lst (txs m18)) np18
        have h18 : upd H17 p18 (.lst (txs m18)) p18 = some (.lst (txs m18)) := upd_same
        obtain ⟨H18, e18⟩ : ∃ G, G = upd H17 p18 (.lst (txs m18)) := ⟨_, rfl⟩
        rw [← e18] at s18 h18 ⊢
        refine ⟨p17, p18, _, _, rfl, rfl, s18 _ _ h17, h18, sz (by rw [strs_len, strs_len]; omega), fun p19 np19 => ?_⟩
        rw [← strs_app]
        have s19 := same_new (o := .lst (txs (m17 ++ m18))) np19
        have h19 : upd H18 p19 (.lst (txs (m17 ++ m18))) p19 = some (.lst (txs (m17 ++ m18))) := upd_same
        obtain ⟨H19, e19⟩ : ∃ G, G = upd H18 p19 (.lst (txs (m17 ++ m18))) := ⟨_, rfl⟩
        rw [← e19] at s19 h19 ⊢
        have hw19 := s19 _ _ (s18 _ _ (s17 _ _ (s16 _ _ hw15)))
        refine ⟨_, rfl, _, rfl, _, rfl, _, rfl, _, rfl, _, _, rfl, rfl, _, rfl, wq, _, rfl, SqL.of hw19, fun p20 np20 => ?_⟩
        obtain ⟨m20, c20, i20, l20⟩ := cut_txs ws (some ((kn : Nat) : Int)) (some (((kn : Nat) : Int) + 1))
        rw [c20]
        have s20 := same_new (o := .lst (txs m20)) np20
        have h20 : upd H19 p20 (.lst (txs m20)) p20 = some (.lst (txs m20)) := upd_same
        obtain ⟨H20, e20⟩ : ∃ G, G = upd H19 p20 (.lst (txs m20)) := ⟨_, rfl⟩
        rw [← e20] at s20 h20 ⊢
        refine ⟨wq, p20, _, _, rfl, rfl, s20 _ _ hw19, h20, sz (by rw [strs_len, strs_len]; omega), fun p21 np21 => ?_⟩
        rw [← strs_app]
        have s21 := same_new (o := .lst (txs (ws ++ m20))) np21
        have h21 : upd H20 p21 (.lst (txs (ws ++ m20))) p21 = some (.lst (txs (ws ++ m20))) := upd_same
        obtain ⟨H21, e21⟩ : ∃ G, G = upd H20 p21 (.lst (txs (ws ++ m20))) := ⟨_, rfl⟩
        rw [← e21] at s21 h21 ⊢
        refine ⟨sz (show 4 ≤ 16777216 by decide), fun p22 np22 => ?_⟩
        have s22 := same_new (o := .lst [.ref wq, .ref p16, .ref p19, .ref p21]) np22
        have s1521 := ((((s16.trans s17).trans s18).trans s19).trans s20).trans s21
        have s1522 := s1521.trans s22
        have T21 := T15.same s1521
        have n22 := T21.ne np22
        have g16 := s22 _ _ (s21 _ _ (s20 _ _ (s19 _ _ (s18 _ _ (s17 _ _ h16)))))
        have g19 := s22 _ _ (s21 _ _ (s20 _ _ h19))
        have g21 := s22 _ _ h21
        have ne16 := T15.ne np16
        have ne19 := (T15.same ((s16.trans s17).trans s18)).ne np19
        have ne21 := (T15.same ((((s16.trans s17).trans s18).trans s19).trans s20)).ne np21
        refine ⟨t, r, p22, _, rfl, T15.same s1522, SqL.of upd_same, n22.1, n22.2, (show 0 < 4 by decide), (show 4 < 1000 by decide), fun j3 v3 H23 hj3 b23 T23 => ?_⟩
        have hp23 := b23 _ _ (s1522 _ _ hp15) n2.1 n2.2
        have hq23 := b23 _ _ (s1522 _ _ hq15) q5n.1 q5n.2
        obtain ⟨pv, us, rfl, hpv, hu1, hu2⟩ : ∃ (pv : Addr) (us : List (List Nat)), v3 = .ref pv ∧ H23 pv = some (.lst (txs us)) ∧ (∀ l ∈ us, l.length ≤ 100) ∧ us.length ≤ 16200 := by
          have := List.mem_of_getElem? hj3
          simp only [List.mem_cons, List.not_mem_nil, or_false] at this
          rcases this with rfl | rfl | rfl | rfl
          · exact ⟨wq, ws, rfl, b23 _ _ (s1522 _ _ hw15) wn.1 wn.2, hbs, by omega⟩
          · exact ⟨p16, ws.reverse, rfl, b23 _ _ g16 ne16.1 ne16.2, fun l hl => hbs l (List.mem_reverse.mp hl), by rw [List.length_reverse]; omega⟩
          · refine ⟨p19, m17 ++ m18, rfl, b23 _ _ g19 ne19.1 ne19.2, fun l hl => ?_, by rw [List.length_append]; omega⟩
            rcases List.mem_append.mp hl with h | h
            · exact hbs l (i17 l h)
            · exact hbs l (i18 l h)
          · refine ⟨p21, ws ++ m20, rfl, b23 _ _ g21 ne21.1 ne21.2, fun l hl => ?_, by rw [List.length_append]; omega⟩
            rcases List.mem_append.mp hl with h | h
            · exact hbs l h
            · exact hbs l (i20 l h)
        exact ⟨a, t, pf, q5, pv, _, _, _, _, f, b, s, us, rfl, hpv, hp23, ok, hu1, hu2, fun H' s' => ⟨_, _, _, _, _, rfl, T23.same s', s' _ _ hp23, s' _ _ hq23⟩⟩
      · have sp := same_new (o := .lst []) np
        exact ⟨a, t, pf, q5, wq, _, _, _, _, f, b, s, bl, rfl, sp _ _ hw7, sp _ _ hp7, ok, fun l hl => (by have := hbl l hl; omega), by omega, fun H' s' => ⟨_, _, _, _, _, rfl, (T7.same sp).same s', s' _ _ (sp _ _ hp7), s' _ _ (sp _ _ hq7)⟩⟩
    · rintro σ H6 ⟨o4, o5, o6, o7, o8, rfl, T6, hp6, hq6⟩
      exact kk _
end
end R
set_option maxRecDepth 100000
set_option maxHeartbeats 8000000
namespace R
open PySem PySem.Spec PyProof.Rows L2 RZ
theorem lit_70 : ("F" : Str) = S [70] := by decide +kernel
theorem lit_83 : ("S" : Str) = S [83] := by decide +kernel
theorem lit_86 : ("V" : Str) = S [86] := by decide +kernel
theorem txt_mk {K : PySem.W.Frag} {h : Heap} {mg : Str → Option Value} (X : K.In h) (G : h.Ns mainGlobals mg) {C_BadRecord C_NoReel C_AtStart C_TooLong C_NoRing C_BadName C_AtEnd C_BadReel C_ReelError C_BadBlock C_BadLabel C_NoFile C_BadNumber C_BadForm C_Kept f_is_whole f_look_form f_look_records f_figures f_filled f_spanned f_blocked f_length_in f_parts_of f_unblocked f__law_town f__law_draw f__law_pick f__law_refusal f__law_text f__law_shape f__law_records f__law_read f__law_length f__law_parts f__law_due f_law a_c_FORMS : Addr} {od_is_whole an_is_whole od_look_form an_look_form od_look_records an_look_records od_figures an_figures od_filled an_filled od_spanned an_spanned od_blocked an_blocked od_length_in an_length_in od_parts_of an_parts_of od_unblocked an_unblocked od__law_town an__law_town od__law_draw an__law_draw od__law_pick an__law_pick od__law_refusal an__law_refusal od__law_text an__law_text od__law_shape an__law_shape od__law_records an__law_records od__law_read an__law_read od__law_length an__law_length od__law_parts an__law_parts od__law_due an__law_due od_law an_law dd_FORMS : Option Addr} {oc_is_whole kV_is_whole dc_is_whole pm_is_whole cd_is_whole ct_is_whole oc_look_form kV_look_form dc_look_form pm_look_form cd_look_form ct_look_form oc_look_records kV_look_records dc_look_records pm_look_records cd_look_records ct_look_records oc_figures kV_figures dc_figures pm_figures cd_figures ct_figures oc_filled kV_filled dc_filled pm_filled cd_filled ct_filled oc_spanned kV_spanned dc_spanned pm_spanned cd_spanned ct_spanned oc_blocked kV_blocked dc_blocked pm_blocked cd_blocked ct_blocked oc_length_in kV_length_in dc_length_in pm_length_in cd_length_in ct_length_in oc_parts_of kV_parts_of dc_parts_of pm_parts_of cd_parts_of ct_parts_of oc_unblocked kV_unblocked dc_unblocked pm_unblocked cd_unblocked ct_unblocked oc__law_town kV__law_town dc__law_town pm__law_town cd__law_town ct__law_town oc__law_draw kV__law_draw dc__law_draw pm__law_draw cd__law_draw ct__law_draw oc__law_pick kV__law_pick dc__law_pick pm__law_pick cd__law_pick ct__law_pick oc__law_refusal kV__law_refusal dc__law_refusal pm__law_refusal cd__law_refusal ct__law_refusal oc__law_text kV__law_text dc__law_text pm__law_text cd__law_text ct__law_text oc__law_shape kV__law_shape dc__law_shape pm__law_shape cd__law_shape ct__law_shape oc__law_records kV__law_records dc__law_records pm__law_records cd__law_records ct__law_records oc__law_read kV__law_read dc__law_read pm__law_read cd__law_read ct__law_read oc__law_length kV__law_length dc__law_length pm__law_length cd__law_length ct__law_length oc__law_parts kV__law_parts dc__law_parts pm__law_parts cd__law_parts ct__law_parts oc__law_due kV__law_due dc__law_due pm__law_due cd__law_due ct__law_due oc_law kV_law dc_law pm_law cd_law ct_law : Value} {sl_is_whole sl_look_form sl_look_records sl_figures sl_filled sl_spanned sl_blocked sl_length_in sl_parts_of sl_unblocked sl__law_town sl__law_draw sl__law_pick sl__law_refusal sl__law_text sl__law_shape sl__law_records sl__law_read sl__law_length sl__law_parts sl__law_due sl_law sl_c_FORMS : Array (Option Value)} {tk_FIXED tk_FORMS_0 tk_FORMS_1 tk_FORMS_2 tk_MOST_BLOCK tk_MOST_SIZE tk_SPANNED tk_VARIED : Tok} {n_FORMS : Nat}
    (g_BadRecord : PySem.W.nsIn K mainGlobals "BadRecord" = some (some (.ref C_BadRecord)))
    (x_BadRecord : PySem.W.excIn K C_BadRecord [.type "ValueError", .type "Exception", .type "BaseException", .type "object"] "ValueError.__new__" = true)
    (k_BadRecord : PySem.W.keepIn K (.ref C_BadRecord) = true)
    (b_BadRecord : PySem.W.subIn K (.ref C_BadRecord) (.type "BaseException") = some true)
    (t_BadRecord : PySem.W.typeIn K (.ref C_BadRecord) = some (.type "type"))
    (g_NoReel : PySem.W.nsIn K mainGlobals "NoReel" = some (some (.ref C_NoReel)))
    (x_NoReel : PySem.W.excIn K C_NoReel [.type "ValueError", .type "Exception", .type "BaseException", .type "object"] "ValueError.__new__" = true)
    (k_NoReel : PySem.W.keepIn K (.ref C_NoReel) = true)
    (b_NoReel : PySem.W.subIn K (.ref C_NoReel) (.type "BaseException") = some true)
    (t_NoReel : PySem.W.typeIn K (.ref C_NoReel) = some (.type "type"))
    (g_AtStart : PySem.W.nsIn K mainGlobals "AtStart" = some (some (.ref C_AtStart)))
    (x_AtStart : PySem.W.excIn K C_AtStart [.type "ValueError", .type "Exception", .type "BaseException", .type "object"] "ValueError.__new__" = true)
    (k_AtStart : PySem.W.keepIn K (.ref C_AtStart) = true)
    (b_AtStart : PySem.W.subIn K (.ref C_AtStart) (.type "BaseException") = some true)
    (t_AtStart : PySem.W.typeIn K (.ref C_AtStart) = some (.type "type"))
    (g_TooLong : PySem.W.nsIn K mainGlobals "TooLong" = some (some (.ref C_TooLong)))
    (x_TooLong : PySem.W.excIn K C_TooLong [.type "ValueError", .type "Exception", .type "BaseException", .type "object"] "ValueError.__new__" = true)
    (k_TooLong : PySem.W.keepIn K (.ref C_TooLong) = true)
    (b_TooLong : PySem.W.subIn K (.ref C_TooLong) (.type "BaseException") = some true)
    (t_TooLong : PySem.W.typeIn K (.ref C_TooLong) = some (.type "type"))
    (g_NoRing : PySem.W.nsIn K mainGlobals "NoRing" = some (some (.ref C_NoRing)))
    (x_NoRing : PySem.W.excIn K C_NoRing [.type "ValueError", .type "Exception", .type "BaseException", .type "object"] "ValueError.__new__" = true)
    (k_NoRing : PySem.W.keepIn K (.ref C_NoRing) = true)
    (b_NoRing : PySem.W.subIn K (.ref C_NoRing) (.type "BaseException") = some true)
    (t_NoRing : PySem.W.typeIn K (.ref C_NoRing) = some (.type "type"))
    (g_BadName : PySem.W.nsIn K mainGlobals "BadName" = some (some (.ref C_BadName)))
    (x_BadName : PySem.W.excIn K C_BadName [.type "ValueError", .type "Exception", .type "BaseException", .type "object"] "ValueError.__new__" = true)
    (k_BadName : PySem.W.keepIn K (.ref C_BadName) = true)
    (b_BadName : PySem.W.subIn K (.ref C_BadName) (.type "BaseException") = some true)
    (t_BadName : PySem.W.typeIn K (.ref C_BadName) = some (.type "type"))
    (g_AtEnd : PySem.W.nsIn K mainGlobals "AtEnd" = some (some (.ref C_AtEnd)))
    (x_AtEnd : PySem.W.excIn K C_AtEnd [.type "ValueError", .type "Exception", .type "BaseException", .type "object"] "ValueError.__new__" = true)
    (k_AtEnd : PySem.W.keepIn K (.ref C_AtEnd) = true)
    (b_AtEnd : PySem.W.subIn K (.ref C_AtEnd) (.type "BaseException") = some true)
    (t_AtEnd : PySem.W.typeIn K (.ref C_AtEnd) = some (.type "type"))
    (g_BadReel : PySem.W.nsIn K mainGlobals "BadReel" = some (some (.ref C_BadReel)))
    (x_BadReel : PySem.W.excIn K C_BadReel [.type "ValueError", .type "Exception", .type "BaseException", .type "object"] "ValueError.__new__" = true)
    (k_BadReel : PySem.W.keepIn K (.ref C_BadReel) = true)
    (b_BadReel : PySem.W.subIn K (.ref C_BadReel) (.type "BaseException") = some true)
    (t_BadReel : PySem.W.typeIn K (.ref C_BadReel) = some (.type "type"))
    (g_ReelError : PySem.W.nsIn K mainGlobals "ReelError" = some (some (.ref C_ReelError)))
    (x_ReelError : PySem.W.excIn K C_ReelError [.type "ValueError", .type "Exception", .type "BaseException", .type "object"] "ValueError.__new__" = true)
    (k_ReelError : PySem.W.keepIn K (.ref C_ReelError) = true)
    (b_ReelError : PySem.W.subIn K (.ref C_ReelError) (.type "BaseException") = some true)
    (t_ReelError : PySem.W.typeIn K (.ref C_ReelError) = some (.type "type"))
    (g_BadBlock : PySem.W.nsIn K mainGlobals "BadBlock" = some (some (.ref C_BadBlock)))
    (x_BadBlock : PySem.W.excIn K C_BadBlock [.type "ValueError", .type "Exception", .type "BaseException", .type "object"] "ValueError.__new__" = true)
    (k_BadBlock : PySem.W.keepIn K (.ref C_BadBlock) = true)
    (b_BadBlock : PySem.W.subIn K (.ref C_BadBlock) (.type "BaseException") = some true)
    (t_BadBlock : PySem.W.typeIn K (.ref C_BadBlock) = some (.type "type"))
    (g_BadLabel : PySem.W.nsIn K mainGlobals "BadLabel" = some (some (.ref C_BadLabel)))
    (x_BadLabel : PySem.W.excIn K C_BadLabel [.type "ValueError", .type "Exception", .type "BaseException", .type "object"] "ValueError.__new__" = true)
    (k_BadLabel : PySem.W.keepIn K (.ref C_BadLabel) = true)
    (b_BadLabel : PySem.W.subIn K (.ref C_BadLabel) (.type "BaseException") = some true)
    (t_BadLabel : PySem.W.typeIn K (.ref C_BadLabel) = some (.type "type"))
    (g_NoFile : PySem.W.nsIn K mainGlobals "NoFile" = some (some (.ref C_NoFile)))
    (g_BadNumber : PySem.W.nsIn K mainGlobals "BadNumber" = some (some (.ref C_BadNumber)))
    (x_BadNumber : PySem.W.excIn K C_BadNumber [.type "ValueError", .type "Exception", .type "BaseException", .type "object"] "ValueError.__new__" = true)
    (k_BadNumber : PySem.W.keepIn K (.ref C_BadNumber) = true)
    (b_BadNumber : PySem.W.subIn K (.ref C_BadNumber) (.type "BaseException") = some true)
    (t_BadNumber : PySem.W.typeIn K (.ref C_BadNumber) = some (.type "type"))
    (g_BadForm : PySem.W.nsIn K mainGlobals "BadForm" = some (some (.ref C_BadForm)))
    (x_BadForm : PySem.W.excIn K C_BadForm [.type "ValueError", .type "Exception", .type "BaseException", .type "object"] "ValueError.__new__" = true)
    (k_BadForm : PySem.W.keepIn K (.ref C_BadForm) = true)
    (b_BadForm : PySem.W.subIn K (.ref C_BadForm) (.type "BaseException") = some true)
    (t_BadForm : PySem.W.typeIn K (.ref C_BadForm) = some (.type "type"))
    (g_Kept : PySem.W.nsIn K mainGlobals "Kept" = some (some (.ref C_Kept)))
    (a_is_whole : PySem.W.nsIn K mainGlobals "is_whole" = some (some (.ref f_is_whole)))
    (l_is_whole : K.lookup f_is_whole = some ⟨oc_is_whole, od_is_whole, .func (PySem.W.fnOf "is_whole" "is_whole" (defArgs s_is_whole) (defBody s_is_whole) (defScope s_is_whole) .none kV_is_whole dc_is_whole pm_is_whole an_is_whole cd_is_whole ct_is_whole), sl_is_whole⟩)
    (c_is_whole : PySem.W.codeIn K cd_is_whole "is_whole" = true)
    (k_is_whole : PySem.W.keepIn K (.ref f_is_whole) = true)
    (a_look_form : PySem.W.nsIn K mainGlobals "look_form" = some (some (.ref f_look_form)))
    (l_look_form : K.lookup f_look_form = some ⟨oc_look_form, od_look_form, .func (PySem.W.fnOf "look_form" "look_form" (defArgs s_look_form) (defBody s_look_form) (defScope s_look_form) .none kV_look_form dc_look_form pm_look_form an_look_form cd_look_form ct_look_form), sl_look_form⟩)
    (c_look_form : PySem.W.codeIn K cd_look_form "look_form" = true)
    (k_look_form : PySem.W.keepIn K (.ref f_look_form) = true)
    (a_look_records : PySem.W.nsIn K mainGlobals "look_records" = some (some (.ref f_look_records)))
    (l_look_records : K.lookup f_look_records = some ⟨oc_look_records, od_look_records, .func (PySem.W.fnOf "look_records" "look_records" (defArgs s_look_records) (defBody s_look_records) (defScope s_look_records) .none kV_look_records dc_look_records pm_look_records an_look_records cd_look_records ct_look_records), sl_look_records⟩)
    (c_look_records : PySem.W.codeIn K cd_look_records "look_records" = true)
    (k_look_records : PySem.W.keepIn K (.ref f_look_records) = true)
    (a_figures : PySem.W.nsIn K mainGlobals "figures" = some (some (.ref f_figures)))
    (l_figures : K.lookup f_figures = some ⟨oc_figures, od_figures, .func (PySem.W.fnOf "figures" "figures" (defArgs s_figures) (defBody s_figures) (defScope s_figures) .none kV_figures dc_figures pm_figures an_figures cd_figures ct_figures), sl_figures⟩)
    (c_figures : PySem.W.codeIn K cd_figures "figures" = true)
    (k_figures : PySem.W.keepIn K (.ref f_figures) = true)
    (a_filled : PySem.W.nsIn K mainGlobals "filled" = some (some (.ref f_filled)))
    (l_filled : K.lookup f_filled = some ⟨oc_filled, od_filled, .func (PySem.W.fnOf "filled" "filled" (defArgs s_filled) (defBody s_filled) (defScope s_filled) .none kV_filled dc_filled pm_filled an_filled cd_filled ct_filled), sl_filled⟩)
    (c_filled : PySem.W.codeIn K cd_filled "filled" = true)
    (k_filled : PySem.W.keepIn K (.ref f_filled) = true)
    (a_spanned : PySem.W.nsIn K mainGlobals "spanned" = some (some (.ref f_spanned)))
    (l_spanned : K.lookup f_spanned = some ⟨oc_spanned, od_spanned, .func (PySem.W.fnOf "spanned" "spanned" (defArgs s_spanned) (defBody s_spanned) (defScope s_spanned) .none kV_spanned dc_spanned pm_spanned an_spanned cd_spanned ct_spanned), sl_spanned⟩)
    (c_spanned : PySem.W.codeIn K cd_spanned "spanned" = true)
    (k_spanned : PySem.W.keepIn K (.ref f_spanned) = true)
    (a_blocked : PySem.W.nsIn K mainGlobals "blocked" = some (some (.ref f_blocked)))
    (l_blocked : K.lookup f_blocked = some ⟨oc_blocked, od_blocked, .func (PySem.W.fnOf "blocked" "blocked" (defArgs s_blocked) (defBody s_blocked) (defScope s_blocked) .none kV_blocked dc_blocked pm_blocked an_blocked cd_blocked ct_blocked), sl_blocked⟩)
    (c_blocked : PySem.W.codeIn K cd_blocked "blocked" = true)
    (k_blocked : PySem.W.keepIn K (.ref f_blocked) = true)
    (a_length_in : PySem.W.nsIn K mainGlobals "length_in" = some (some (.ref f_length_in)))
    (l_length_in : K.lookup f_length_in = some ⟨oc_length_in, od_length_in, .func (PySem.W.fnOf "length_in" "length_in" (defArgs s_length_in) (defBody s_length_in) (defScope s_length_in) .none kV_length_in dc_length_in pm_length_in an_length_in cd_length_in ct_length_in), sl_length_in⟩)
    (c_length_in : PySem.W.codeIn K cd_length_in "length_in" = true)
    (k_length_in : PySem.W.keepIn K (.ref f_length_in) = true)
    (a_parts_of : PySem.W.nsIn K mainGlobals "parts_of" = some (some (.ref f_parts_of)))
    (l_parts_of : K.lookup f_parts_of = some ⟨oc_parts_of, od_parts_of, .func (PySem.W.fnOf "parts_of" "parts_of" (defArgs s_parts_of) (defBody s_parts_of) (defScope s_parts_of) .none kV_parts_of dc_parts_of pm_parts_of an_parts_of cd_parts_of ct_parts_of), sl_parts_of⟩)
    (c_parts_of : PySem.W.codeIn K cd_parts_of "parts_of" = true)
    (k_parts_of : PySem.W.keepIn K (.ref f_parts_of) = true)
    (a_unblocked : PySem.W.nsIn K mainGlobals "unblocked" = some (some (.ref f_unblocked)))
    (l_unblocked : K.lookup f_unblocked = some ⟨oc_unblocked, od_unblocked, .func (PySem.W.fnOf "unblocked" "unblocked" (defArgs s_unblocked) (defBody s_unblocked) (defScope s_unblocked) .none kV_unblocked dc_unblocked pm_unblocked an_unblocked cd_unblocked ct_unblocked), sl_unblocked⟩)
    (c_unblocked : PySem.W.codeIn K cd_unblocked "unblocked" = true)
    (k_unblocked : PySem.W.keepIn K (.ref f_unblocked) = true)
    (a__law_town : PySem.W.nsIn K mainGlobals "_law_town" = some (some (.ref f__law_town)))
    (l__law_town : K.lookup f__law_town = some ⟨oc__law_town, od__law_town, .func (PySem.W.fnOf "_law_town" "_law_town" (defArgs s__law_town) (defBody s__law_town) (defScope s__law_town) .none kV__law_town dc__law_town pm__law_town an__law_town cd__law_town ct__law_town), sl__law_town⟩)
    (c__law_town : PySem.W.codeIn K cd__law_town "_law_town" = true)
    (k__law_town : PySem.W.keepIn K (.ref f__law_town) = true)
    (a__law_draw : PySem.W.nsIn K mainGlobals "_law_draw" = some (some (.ref f__law_draw)))
    (l__law_draw : K.lookup f__law_draw = some ⟨oc__law_draw, od__law_draw, .func (PySem.W.fnOf "_law_draw" "_law_draw" (defArgs s__law_draw) (defBody s__law_draw) (defScope s__law_draw) .none kV__law_draw dc__law_draw pm__law_draw an__law_draw cd__law_draw ct__law_draw), sl__law_draw⟩)
    (c__law_draw : PySem.W.codeIn K cd__law_draw "_law_draw" = true)
    (k__law_draw : PySem.W.keepIn K (.ref f__law_draw) = true)
    (a__law_pick : PySem.W.nsIn K mainGlobals "_law_pick" = some (some (.ref f__law_pick)))
    (l__law_pick : K.lookup f__law_pick = some ⟨oc__law_pick, od__law_pick, .func (PySem.W.fnOf "_law_pick" "_law_pick" (defArgs s__law_pick) (defBody s__law_pick) (defScope s__law_pick) .none kV__law_pick dc__law_pick pm__law_pick an__law_pick cd__law_pick ct__law_pick), sl__law_pick⟩)
    (c__law_pick : PySem.W.codeIn K cd__law_pick "_law_pick" = true)
    (k__law_pick : PySem.W.keepIn K (.ref f__law_pick) = true)
    (a__law_refusal : PySem.W.nsIn K mainGlobals "_law_refusal" = some (some (.ref f__law_refusal)))
    (l__law_refusal : K.lookup f__law_refusal = some ⟨oc__law_refusal, od__law_refusal, .func (PySem.W.fnOf "_law_refusal" "_law_refusal" (defArgs s__law_refusal) (defBody s__law_refusal) (defScope s__law_refusal) .none kV__law_refusal dc__law_refusal pm__law_refusal an__law_refusal cd__law_refusal ct__law_refusal), sl__law_refusal⟩)
    (c__law_refusal : PySem.W.codeIn K cd__law_refusal "_law_refusal" = true)
    (k__law_refusal : PySem.W.keepIn K (.ref f__law_refusal) = true)
    (a__law_text : PySem.W.nsIn K mainGlobals "_law_text" = some (some (.ref f__law_text)))
    (l__law_text : K.lookup f__law_text = some ⟨oc__law_text, od__law_text, .func (PySem.W.fnOf "_law_text" "_law_text" (defArgs s__law_text) (defBody s__law_text) (defScope s__law_text) .none kV__law_text dc__law_text pm__law_text an__law_text cd__law_text ct__law_text), sl__law_text⟩)
    (c__law_text : PySem.W.codeIn K cd__law_text "_law_text" = true)
    (k__law_text : PySem.W.keepIn K (.ref f__law_text) = true)
    (a__law_shape : PySem.W.nsIn K mainGlobals "_law_shape" = some (some (.ref f__law_shape)))
    (l__law_shape : K.lookup f__law_shape = some ⟨oc__law_shape, od__law_shape, .func (PySem.W.fnOf "_law_shape" "_law_shape" (defArgs s__law_shape) (defBody s__law_shape) (defScope s__law_shape) .none kV__law_shape dc__law_shape pm__law_shape an__law_shape cd__law_shape ct__law_shape), sl__law_shape⟩)
    (c__law_shape : PySem.W.codeIn K cd__law_shape "_law_shape" = true)
    (k__law_shape : PySem.W.keepIn K (.ref f__law_shape) = true)
    (a__law_records : PySem.W.nsIn K mainGlobals "_law_records" = some (some (.ref f__law_records)))
    (l__law_records : K.lookup f__law_records = some ⟨oc__law_records, od__law_records, .func (PySem.W.fnOf "_law_records" "_law_records" (defArgs s__law_records) (defBody s__law_records) (defScope s__law_records) .none kV__law_records dc__law_records pm__law_records an__law_records cd__law_records ct__law_records), sl__law_records⟩)
    (c__law_records : PySem.W.codeIn K cd__law_records "_law_records" = true)
    (k__law_records : PySem.W.keepIn K (.ref f__law_records) = true)
    (a__law_read : PySem.W.nsIn K mainGlobals "_law_read" = some (some (.ref f__law_read)))
    (l__law_read : K.lookup f__law_read = some ⟨oc__law_read, od__law_read, .func (PySem.W.fnOf "_law_read" "_law_read" (defArgs s__law_read) (defBody s__law_read) (defScope s__law_read) .none kV__law_read dc__law_read pm__law_read an__law_read cd__law_read ct__law_read), sl__law_read⟩)
    (c__law_read : PySem.W.codeIn K cd__law_read "_law_read" = true)
    (k__law_read : PySem.W.keepIn K (.ref f__law_read) = true)
    (a__law_length : PySem.W.nsIn K mainGlobals "_law_length" = some (some (.ref f__law_length)))
    (l__law_length : K.lookup f__law_length = some ⟨oc__law_length, od__law_length, .func (PySem.W.fnOf "_law_length" "_law_length" (defArgs s__law_length) (defBody s__law_length) (defScope s__law_length) .none kV__law_length dc__law_length pm__law_length an__law_length cd__law_length ct__law_length), sl__law_length⟩)
    (c__law_length : PySem.W.codeIn K cd__law_length "_law_length" = true)
    (k__law_length : PySem.W.keepIn K (.ref f__law_length) = true)
    (a__law_parts : PySem.W.nsIn K mainGlobals "_law_parts" = some (some (.ref f__law_parts)))
    (l__law_parts : K.lookup f__law_parts = some ⟨oc__law_parts, od__law_parts, .func (PySem.W.fnOf "_law_parts" "_law_parts" (defArgs s__law_parts) (defBody s__law_parts) (defScope s__law_parts) .none kV__law_parts dc__law_parts pm__law_parts an__law_parts cd__law_parts ct__law_parts), sl__law_parts⟩)
    (c__law_parts : PySem.W.codeIn K cd__law_parts "_law_parts" = true)
    (k__law_parts : PySem.W.keepIn K (.ref f__law_parts) = true)
    (a__law_due : PySem.W.nsIn K mainGlobals "_law_due" = some (some (.ref f__law_due)))
    (l__law_due : K.lookup f__law_due = some ⟨oc__law_due, od__law_due, .func (PySem.W.fnOf "_law_due" "_law_due" (defArgs s__law_due) (defBody s__law_due) (defScope s__law_due) .none kV__law_due dc__law_due pm__law_due an__law_due cd__law_due ct__law_due), sl__law_due⟩)
    (c__law_due : PySem.W.codeIn K cd__law_due "_law_due" = true)
    (k__law_due : PySem.W.keepIn K (.ref f__law_due) = true)
    (a_law : PySem.W.nsIn K mainGlobals "law" = some (some (.ref f_law)))
    (l_law : K.lookup f_law = some ⟨oc_law, od_law, .func (PySem.W.fnOf "law" "law" (defArgs s_law) (defBody s_law) (defScope s_law) .none kV_law dc_law pm_law an_law cd_law ct_law), sl_law⟩)
    (c_law : PySem.W.codeIn K cd_law "law" = true)
    (k_law : PySem.W.keepIn K (.ref f_law) = true)
    (g_c_FIXED : PySem.W.nsIn K mainGlobals "FIXED" = some (some (.str "F" tk_FIXED)))
    (g_c_VARIED : PySem.W.nsIn K mainGlobals "VARIED" = some (some (.str "V" tk_VARIED)))
    (g_c_SPANNED : PySem.W.nsIn K mainGlobals "SPANNED" = some (some (.str "S" tk_SPANNED)))
    (g_c_FORMS : PySem.W.nsIn K mainGlobals "FORMS" = some (some (.ref a_c_FORMS)))
    (l_c_FORMS : K.lookup a_c_FORMS = some ⟨.type "tuple", dd_FORMS, .seq #[.str "F" tk_FORMS_0, .str "V" tk_FORMS_1, .str "S" tk_FORMS_2] n_FORMS, sl_c_FORMS⟩)
    (g_c_MOST_BLOCK : PySem.W.nsIn K mainGlobals "MOST_BLOCK" = some (some (.int 60 tk_MOST_BLOCK)))
    (g_c_MOST_SIZE : PySem.W.nsIn K mainGlobals "MOST_SIZE" = some (some (.int 200 tk_MOST_SIZE)))
    (z_isinstance : PySem.W.nsIn K mainGlobals "isinstance" = some none)
    (z_int : PySem.W.nsIn K mainGlobals "int" = some none)
    (z_bool : PySem.W.nsIn K mainGlobals "bool" = some none)
    (z_str : PySem.W.nsIn K mainGlobals "str" = some none)
    (z_list : PySem.W.nsIn K mainGlobals "list" = some none)
    (z_all : PySem.W.nsIn K mainGlobals "all" = some none)
    (z_len : PySem.W.nsIn K mainGlobals "len" = some none)
    (z_ValueError : PySem.W.nsIn K mainGlobals "ValueError" = some none)
    (z_range : PySem.W.nsIn K mainGlobals "range" = some none)
    (z_min : PySem.W.nsIn K mainGlobals "min" = some none)
    (hg_BadForm : PySem.W.findIn K (.ref C_BadForm) "__getattribute__" = some (some (.builtin "BaseException.__getattribute__")))
    (hk_BadForm : PySem.W.findIn K (.ref C_BadForm) "__getattr__" = some none)
    (hd_BadForm : PySem.W.hasDictIn K C_BadForm = true)
    (ha_BadForm : PySem.W.findIn K (.ref C_BadForm) "__class__" = some (some (.builtin "object.__class__")))
    (hm_BadForm : PySem.W.mroIn K C_BadForm (.type "object") = some true)
    (hn_X : PySem.W.specialIn K (.builtin "object.__class__") "__get__" = some (some (.builtin "getset_descriptor.__get__")))
    (ht_X : PySem.W.takesIn K (.builtin "object.__class__") = some true)
    (rd_X : PySem.W.hasDictIn K C_ReelError = true)
    (ic_ReelError : PySem.W.isClsIn K C_ReelError = true)
    (ic_BadNumber : PySem.W.isClsIn K C_BadNumber = true)
    (ic_BadName : PySem.W.isClsIn K C_BadName = true)
    (ic_BadReel : PySem.W.isClsIn K C_BadReel = true)
    (ic_NoRing : PySem.W.isClsIn K C_NoRing = true)
    (ic_AtEnd : PySem.W.isClsIn K C_AtEnd = true)
    (ic_AtStart : PySem.W.isClsIn K C_AtStart = true)
    (ic_TooLong : PySem.W.isClsIn K C_TooLong = true)
    (ic_BadForm : PySem.W.isClsIn K C_BadForm = true)
    (ic_BadRecord : PySem.W.isClsIn K C_BadRecord = true)
    (ic_BadBlock : PySem.W.isClsIn K C_BadBlock = true)
    (ic_BadLabel : PySem.W.isClsIn K C_BadLabel = true)
    (ic_NoReel : PySem.W.isClsIn K C_NoReel = true)
    (ic_NoFile : PySem.W.isClsIn K C_NoFile = true)
    (t_NoFile : PySem.W.typeIn K (.ref C_NoFile) = some (.type "type"))
    (ic_Kept : PySem.W.isClsIn K C_Kept = true)
    (t_Kept : PySem.W.typeIn K (.ref C_Kept) = some (.type "type"))
    (sv_BadForm : PySem.W.subIn K (.ref C_BadForm) (.type "ValueError") = some true)
    (sb_BadForm_ReelError : PySem.W.subIn K (.ref C_BadForm) (.ref C_ReelError) = some true)
    (sb_BadForm_BadNumber : PySem.W.subIn K (.ref C_BadForm) (.ref C_BadNumber) = some false)
    (sb_BadForm_BadName : PySem.W.subIn K (.ref C_BadForm) (.ref C_BadName) = some false)
    (sb_BadForm_BadReel : PySem.W.subIn K (.ref C_BadForm) (.ref C_BadReel) = some false)
    (sb_BadForm_NoRing : PySem.W.subIn K (.ref C_BadForm) (.ref C_NoRing) = some false)
    (sb_BadForm_AtEnd : PySem.W.subIn K (.ref C_BadForm) (.ref C_AtEnd) = some false)
    (sb_BadForm_AtStart : PySem.W.subIn K (.ref C_BadForm) (.ref C_AtStart) = some false)
    (sb_BadForm_TooLong : PySem.W.subIn K (.ref C_BadForm) (.ref C_TooLong) = some false)
    (sb_BadForm_BadForm : PySem.W.subIn K (.ref C_BadForm) (.ref C_BadForm) = some true)
    (sb_BadForm_BadRecord : PySem.W.subIn K (.ref C_BadForm) (.ref C_BadRecord) = some false)
    (sb_BadForm_BadBlock : PySem.W.subIn K (.ref C_BadForm) (.ref C_BadBlock) = some false)
    (sb_BadForm_BadLabel : PySem.W.subIn K (.ref C_BadForm) (.ref C_BadLabel) = some false)
    (sb_BadForm_NoReel : PySem.W.subIn K (.ref C_BadForm) (.ref C_NoReel) = some false)
    (sb_BadForm_NoFile : PySem.W.subIn K (.ref C_BadForm) (.ref C_NoFile) = some false)
    (sb_BadForm_Kept : PySem.W.subIn K (.ref C_BadForm) (.ref C_Kept) = some false)
    (hg_BadBlock : PySem.W.findIn K (.ref C_BadBlock) "__getattribute__" = some (some (.builtin "BaseException.__getattribute__")))
    (hk_BadBlock : PySem.W.findIn K (.ref C_BadBlock) "__getattr__" = some none)
    (hd_BadBlock : PySem.W.hasDictIn K C_BadBlock = true)
    (ha_BadBlock : PySem.W.findIn K (.ref C_BadBlock) "__class__" = some (some (.builtin "object.__class__")))
    (hm_BadBlock : PySem.W.mroIn K C_BadBlock (.type "object") = some true)
    (sv_BadBlock : PySem.W.subIn K (.ref C_BadBlock) (.type "ValueError") = some true)
    (sb_BadBlock_ReelError : PySem.W.subIn K (.ref C_BadBlock) (.ref C_ReelError) = some true)
    (sb_BadBlock_BadNumber : PySem.W.subIn K (.ref C_BadBlock) (.ref C_BadNumber) = some false)
    (sb_BadBlock_BadName : PySem.W.subIn K (.ref C_BadBlock) (.ref C_BadName) = some false)
    (sb_BadBlock_BadReel : PySem.W.subIn K (.ref C_BadBlock) (.ref C_BadReel) = some false)
    (sb_BadBlock_NoRing : PySem.W.subIn K (.ref C_BadBlock) (.ref C_NoRing) = some false)
    (sb_BadBlock_AtEnd : PySem.W.subIn K (.ref C_BadBlock) (.ref C_AtEnd) = some false)
    (sb_BadBlock_AtStart : PySem.W.subIn K (.ref C_BadBlock) (.ref C_AtStart) = some false)
    (sb_BadBlock_TooLong : PySem.W.subIn K (.ref C_BadBlock) (.ref C_TooLong) = some false)
    (sb_BadBlock_BadForm : PySem.W.subIn K (.ref C_BadBlock) (.ref C_BadForm) = some false)
    (sb_BadBlock_BadRecord : PySem.W.subIn K (.ref C_BadBlock) (.ref C_BadRecord) = some false)
    (sb_BadBlock_BadBlock : PySem.W.subIn K (.ref C_BadBlock) (.ref C_BadBlock) = some true)
    (sb_BadBlock_BadLabel : PySem.W.subIn K (.ref C_BadBlock) (.ref C_BadLabel) = some false)
    (sb_BadBlock_NoReel : PySem.W.subIn K (.ref C_BadBlock) (.ref C_NoReel) = some false)
    (sb_BadBlock_NoFile : PySem.W.subIn K (.ref C_BadBlock) (.ref C_NoFile) = some false)
    (sb_BadBlock_Kept : PySem.W.subIn K (.ref C_BadBlock) (.ref C_Kept) = some false)
    : ∃ T : Txt K mg, T.law.a = f_law ∧ T.law.d = PySem.W.fnOf "law" "law" (defArgs s_law) (defBody s_law) (defScope s_law) .none kV_law dc_law pm_law an_law cd_law ct_law := by
  have F_is_whole := fun_mk (st := s_is_whole) l_is_whole c_is_whole k_is_whole
  have F_look_form := fun_mk (st := s_look_form) l_look_form c_look_form k_look_form
  have F_look_records := fun_mk (st := s_look_records) l_look_records c_look_records k_look_records
  have F_figures := fun_mk (st := s_figures) l_figures c_figures k_figures
  have F_filled := fun_mk (st := s_filled) l_filled c_filled k_filled
  have F_spanned := fun_mk (st := s_spanned) l_spanned c_spanned k_spanned
  have F_blocked := fun_mk (st := s_blocked) l_blocked c_blocked k_blocked
  have F_length_in := fun_mk (st := s_length_in) l_length_in c_length_in k_length_in
  have F_parts_of := fun_mk (st := s_parts_of) l_parts_of c_parts_of k_parts_of
  have F_unblocked := fun_mk (st := s_unblocked) l_unblocked c_unblocked k_unblocked
  have F__law_town := fun_mk (st := s__law_town) l__law_town c__law_town k__law_town
  have F__law_draw := fun_mk (st := s__law_draw) l__law_draw c__law_draw k__law_draw
  have F__law_pick := fun_mk (st := s__law_pick) l__law_pick c__law_pick k__law_pick
  have F__law_refusal := fun_mk (st := s__law_refusal) l__law_refusal c__law_refusal k__law_refusal
  have F__law_text := fun_mk (st := s__law_text) l__law_text c__law_text k__law_text
  have F__law_shape := fun_mk (st := s__law_shape) l__law_shape c__law_shape k__law_shape
  have F__law_records := fun_mk (st := s__law_records) l__law_records c__law_records k__law_records
  have F__law_read := fun_mk (st := s__law_read) l__law_read c__law_read k__law_read
  have F__law_length := fun_mk (st := s__law_length) l__law_length c__law_length k__law_length
  have F__law_parts := fun_mk (st := s__law_parts) l__law_parts c__law_parts k__law_parts
  have F__law_due := fun_mk (st := s__law_due) l__law_due c__law_due k__law_due
  have F_law := fun_mk (st := s_law) l_law c_law k_law
  exact ⟨{ BadRecord := ⟨C_BadRecord, PySem.W.mg_of X G g_BadRecord, x_BadRecord, k_BadRecord, b_BadRecord, t_BadRecord⟩, NoReel := ⟨C_NoReel, PySem.W.mg_of X G g_NoReel, x_NoReel, k_NoReel, b_NoReel, t_NoReel⟩, AtStart := ⟨C_AtStart, PySem.W.mg_of X G g_AtStart, x_AtStart, k_AtStart, b_AtStart, t_AtStart⟩, TooLong := ⟨C_TooLong, PySem.W.mg_of X G g_TooLong, x_TooLong, k_TooLong, b_TooLong, t_TooLong⟩, NoRing := ⟨C_NoRing, PySem.W.mg_of X G g_NoRing, x_NoRing, k_NoRing, b_NoRing, t_NoRing⟩, BadName := ⟨C_BadName, PySem.W.mg_of X G g_BadName, x_BadName, k_BadName, b_BadName, t_BadName⟩, AtEnd := ⟨C_AtEnd, PySem.W.mg_of X G g_AtEnd, x_AtEnd, k_AtEnd, b_AtEnd, t_AtEnd⟩, BadReel := ⟨C_BadReel, PySem.W.mg_of X G g_BadReel, x_BadReel, k_BadReel, b_BadReel, t_BadReel⟩, ReelError := ⟨C_ReelError, PySem.W.mg_of X G g_ReelError, x_ReelError, k_ReelError, b_ReelError, t_ReelError⟩, BadBlock := ⟨C_BadBlock, PySem.W.mg_of X G g_BadBlock, x_BadBlock, k_BadBlock, b_BadBlock, t_BadBlock⟩, BadLabel := ⟨C_BadLabel, PySem.W.mg_of X G g_BadLabel, x_BadLabel, k_BadLabel, b_BadLabel, t_BadLabel⟩, NoFile := ⟨C_NoFile, PySem.W.mg_of X G g_NoFile⟩, BadNumber := ⟨C_BadNumber, PySem.W.mg_of X G g_BadNumber, x_BadNumber, k_BadNumber, b_BadNumber, t_BadNumber⟩, BadForm := ⟨C_BadForm, PySem.W.mg_of X G g_BadForm, x_BadForm, k_BadForm, b_BadForm, t_BadForm⟩, Kept := ⟨C_Kept, PySem.W.mg_of X G g_Kept⟩, is_whole := ⟨f_is_whole, _, F_is_whole, PySem.W.mg_of X G a_is_whole, F_is_whole.binds (ps := ["thing", "low", "high"]) fun _ _ _ _ _ _ us hl => match us, hl with | [_, _, _], _ => rfl⟩, look_form := ⟨f_look_form, _, F_look_form, PySem.W.mg_of X G a_look_form, F_look_form.binds (ps := ["form", "block", "size"]) fun _ _ _ _ _ _ us hl => match us, hl with | [_, _, _], _ => rfl⟩, look_records := ⟨f_look_records, _, F_look_records, PySem.W.mg_of X G a_look_records, F_look_records.binds (ps := ["records", "form", "size"]) fun _ _ _ _ _ _ us hl => match us, hl with | [_, _, _], _ => rfl⟩, figures := ⟨f_figures, _, F_figures, PySem.W.mg_of X G a_figures, F_figures.binds (ps := ["number", "many"]) fun _ _ _ _ _ _ us hl => match us, hl with | [_, _], _ => rfl⟩, filled := ⟨f_filled, _, F_filled, PySem.W.mg_of X G a_filled, F_filled.binds (ps := ["parts", "block"]) fun _ _ _ _ _ _ us hl => match us, hl with | [_, _], _ => rfl⟩, spanned := ⟨f_spanned, _, F_spanned, PySem.W.mg_of X G a_spanned, F_spanned.binds (ps := ["records", "block"]) fun _ _ _ _ _ _ us hl => match us, hl with | [_, _], _ => rfl⟩, blocked := ⟨f_blocked, _, F_blocked, PySem.W.mg_of X G a_blocked⟩, length_in := ⟨f_length_in, _, F_length_in, PySem.W.mg_of X G a_length_in, F_length_in.binds (ps := ["text"]) fun _ _ _ _ _ _ us hl => match us, hl with | [_], _ => rfl⟩, parts_of := ⟨f_parts_of, _, F_parts_of, PySem.W.mg_of X G a_parts_of, F_parts_of.binds (ps := ["block", "form", "size"]) fun _ _ _ _ _ _ us hl => match us, hl with | [_, _, _], _ => rfl⟩, unblocked := ⟨f_unblocked, _, F_unblocked, PySem.W.mg_of X G a_unblocked⟩, _law_town := ⟨f__law_town, _, F__law_town, PySem.W.mg_of X G a__law_town, F__law_town.binds (ps := ["_law_script"]) fun _ _ _ _ _ _ us hl => match us, hl with | [_], _ => rfl⟩, _law_draw := ⟨f__law_draw, _, F__law_draw, PySem.W.mg_of X G a__law_draw, F__law_draw.binds (ps := ["_law_town_here", "_law_many"]) fun _ _ _ _ _ _ us hl => match us, hl with | [_, _], _ => rfl⟩, _law_pick := ⟨f__law_pick, _, F__law_pick, PySem.W.mg_of X G a__law_pick, F__law_pick.binds (ps := ["_law_town_here", "_law_some"]) fun _ _ _ _ _ _ us hl => match us, hl with | [_, _], _ => rfl⟩, _law_refusal := ⟨f__law_refusal, _, F__law_refusal, PySem.W.mg_of X G a__law_refusal, F__law_refusal.binds (ps := ["_law_caught"]) fun _ _ _ _ _ _ us hl => match us, hl with | [_], _ => rfl⟩, _law_text := ⟨f__law_text, _, F__law_text, PySem.W.mg_of X G a__law_text, F__law_text.binds (ps := ["_law_town_here", "_law_most"]) fun _ _ _ _ _ _ us hl => match us, hl with | [_, _], _ => rfl⟩, _law_shape := ⟨f__law_shape, _, F__law_shape, PySem.W.mg_of X G a__law_shape, F__law_shape.binds (ps := ["_law_town_here"]) fun _ _ _ _ _ _ us hl => match us, hl with | [_], _ => rfl⟩, _law_records := ⟨f__law_records, _, F__law_records, PySem.W.mg_of X G a__law_records, F__law_records.binds (ps := ["_law_town_here", "_law_shape_here", "_law_many"]) fun _ _ _ _ _ _ us hl => match us, hl with | [_, _, _], _ => rfl⟩, _law_read := ⟨f__law_read, _, F__law_read, PySem.W.mg_of X G a__law_read, F__law_read.binds (ps := ["_law_blocks", "_law_shape_here"]) fun _ _ _ _ _ _ us hl => match us, hl with | [_, _], _ => rfl⟩, _law_length := ⟨f__law_length, _, F__law_length, PySem.W.mg_of X G a__law_length, F__law_length.binds (ps := ["_law_text_here"]) fun _ _ _ _ _ _ us hl => match us, hl with | [_], _ => rfl⟩, _law_parts := ⟨f__law_parts, _, F__law_parts, PySem.W.mg_of X G a__law_parts, F__law_parts.binds (ps := ["_law_one", "_law_shape_here"]) fun _ _ _ _ _ _ us hl => match us, hl with | [_, _], _ => rfl⟩, _law_due := ⟨f__law_due, _, F__law_due, PySem.W.mg_of X G a__law_due, F__law_due.binds (ps := ["_law_blocks", "_law_shape_here"]) fun _ _ _ _ _ _ us hl => match us, hl with | [_, _], _ => rfl⟩, law := ⟨f_law, _, F_law, PySem.W.mg_of X G a_law, F_law.binds (ps := ["_law_script"]) fun _ _ _ _ _ _ us hl => match us, hl with | [_], _ => rfl⟩, FIXED := ⟨tk_FIXED, by rw [← lit_70]; exact PySem.W.mg_of X G g_c_FIXED⟩, VARIED := ⟨tk_VARIED, by rw [← lit_86]; exact PySem.W.mg_of X G g_c_VARIED⟩, SPANNED := ⟨tk_SPANNED, by rw [← lit_83]; exact PySem.W.mg_of X G g_c_SPANNED⟩, FORMS := ⟨a_c_FORMS, PySem.W.mg_of X G g_c_FORMS, fun H => .inr ⟨_, _, _, l_c_FORMS, rfl, rfl, sz (by show 3 ≤ 16777216; decide), .cons ⟨_, by rw [lit_70]⟩ (.cons ⟨_, by rw [lit_86]⟩ (.cons ⟨_, by rw [lit_83]⟩ (.nil)))⟩⟩, MOST_BLOCK := ⟨tk_MOST_BLOCK, PySem.W.mg_of X G g_c_MOST_BLOCK⟩, MOST_SIZE := ⟨tk_MOST_SIZE, PySem.W.mg_of X G g_c_MOST_SIZE⟩, z_isinstance := PySem.W.mg_none_of X G z_isinstance, z_int := PySem.W.mg_none_of X G z_int, z_bool := PySem.W.mg_none_of X G z_bool, z_str := PySem.W.mg_none_of X G z_str, z_list := PySem.W.mg_none_of X G z_list, z_all := PySem.W.mg_none_of X G z_all, z_len := PySem.W.mg_none_of X G z_len, z_ValueError := PySem.W.mg_none_of X G z_ValueError, z_range := PySem.W.mg_none_of X G z_range, z_min := PySem.W.mg_none_of X G z_min, kb_unblocked_form_block_size := ⟨fun s us ws _ h1 h2 => match us, ws, h1, h2 with | [_], [_, _, _], _, _ => .of_eq rfl, fun r1 r2 => r1.append r2⟩, kb_blocked_form_block_size := ⟨fun s us ws _ h1 h2 => match us, ws, h1, h2 with | [_], [_, _, _], _, _ => .of_eq rfl, fun r1 r2 => r1.append r2⟩, xc_BadForm := ⟨hg_BadForm, hk_BadForm, b_BadForm, hd_BadForm, ha_BadForm, hn_X, ht_X, hm_BadForm⟩, em_BadForm := PySem.W.exm_ref b_ReelError rd_X t_ReelError sb_BadForm_ReelError, iv_BadForm := kit_val sv_BadForm, is_BadForm_ReelError := kit_ref sb_BadForm_BadForm sb_BadForm_ReelError ic_ReelError t_ReelError, is_BadForm_BadNumber := kit_ref sb_BadForm_BadForm sb_BadForm_BadNumber ic_BadNumber t_BadNumber, is_BadForm_BadName := kit_ref sb_BadForm_BadForm sb_BadForm_BadName ic_BadName t_BadName, is_BadForm_BadReel := kit_ref sb_BadForm_BadForm sb_BadForm_BadReel ic_BadReel t_BadReel, is_BadForm_NoRing := kit_ref sb_BadForm_BadForm sb_BadForm_NoRing ic_NoRing t_NoRing, is_BadForm_AtEnd := kit_ref sb_BadForm_BadForm sb_BadForm_AtEnd ic_AtEnd t_AtEnd, is_BadForm_AtStart := kit_ref sb_BadForm_BadForm sb_BadForm_AtStart ic_AtStart t_AtStart, is_BadForm_TooLong := kit_ref sb_BadForm_BadForm sb_BadForm_TooLong ic_TooLong t_TooLong, is_BadForm_BadForm := kit_ref sb_BadForm_BadForm sb_BadForm_BadForm ic_BadForm t_BadForm, is_BadForm_BadRecord := kit_ref sb_BadForm_BadForm sb_BadForm_BadRecord ic_BadRecord t_BadRecord, is_BadForm_BadBlock := kit_ref sb_BadForm_BadForm sb_BadForm_BadBlock ic_BadBlock t_BadBlock, is_BadForm_BadLabel := kit_ref sb_BadForm_BadForm sb_BadForm_BadLabel ic_BadLabel t_BadLabel, is_BadForm_NoReel := kit_ref sb_BadForm_BadForm sb_BadForm_NoReel ic_NoReel t_NoReel, is_BadForm_NoFile := kit_ref sb_BadForm_BadForm sb_BadForm_NoFile ic_NoFile t_NoFile, is_BadForm_Kept := kit_ref sb_BadForm_BadForm sb_BadForm_Kept ic_Kept t_Kept, xc_BadBlock := ⟨hg_BadBlock, hk_BadBlock, b_BadBlock, hd_BadBlock, ha_BadBlock, hn_X, ht_X, hm_BadBlock⟩, em_BadBlock := PySem.W.exm_ref b_ReelError rd_X t_ReelError sb_BadBlock_ReelError, iv_BadBlock := kit_val sv_BadBlock, is_BadBlock_ReelError := kit_ref sb_BadBlock_BadBlock sb_BadBlock_ReelError ic_ReelError t_ReelError, is_BadBlock_BadNumber := kit_ref sb_BadBlock_BadBlock sb_BadBlock_BadNumber ic_BadNumber t_BadNumber, is_BadBlock_BadName := kit_ref sb_BadBlock_BadBlock sb_BadBlock_BadName ic_BadName t_BadName, is_BadBlock_BadReel := kit_ref sb_BadBlock_BadBlock sb_BadBlock_BadReel ic_BadReel t_BadReel, is_BadBlock_NoRing := kit_ref sb_BadBlock_BadBlock sb_BadBlock_NoRing ic_NoRing t_NoRing, is_BadBlock_AtEnd := kit_ref sb_BadBlock_BadBlock sb_BadBlock_AtEnd ic_AtEnd t_AtEnd, is_BadBlock_AtStart := kit_ref sb_BadBlock_BadBlock sb_BadBlock_AtStart ic_AtStart t_AtStart, is_BadBlock_TooLong := kit_ref sb_BadBlock_BadBlock sb_BadBlock_TooLong ic_TooLong t_TooLong, is_BadBlock_BadForm := kit_ref sb_BadBlock_BadBlock sb_BadBlock_BadForm ic_BadForm t_BadForm, is_BadBlock_BadRecord := kit_ref sb_BadBlock_BadBlock sb_BadBlock_BadRecord ic_BadRecord t_BadRecord, is_BadBlock_BadBlock := kit_ref sb_BadBlock_BadBlock sb_BadBlock_BadBlock ic_BadBlock t_BadBlock, is_BadBlock_BadLabel := kit_ref sb_BadBlock_BadBlock sb_BadBlock_BadLabel ic_BadLabel t_BadLabel, is_BadBlock_NoReel := kit_ref sb_BadBlock_BadBlock sb_BadBlock_NoReel ic_NoReel t_NoReel, is_BadBlock_NoFile := kit_ref sb_BadBlock_BadBlock sb_BadBlock_NoFile ic_NoFile t_NoFile, is_BadBlock_Kept := kit_ref sb_BadBlock_BadBlock sb_BadBlock_Kept ic_Kept t_Kept }, rfl, rfl⟩
theorem all_mk {l : PySem.W.OpenLaw} {w : World} {K : PySem.W.Frag} {h : Heap} {mg : Str → Option Value} {fa : Addr} (X : K.In h) (G : h.Ns mainGlobals mg) (hfa : mg "law" = some (.ref fa)) {C_BadRecord C_NoReel C_AtStart C_TooLong C_NoRing C_BadName C_AtEnd C_BadReel C_ReelError C_BadBlock C_BadLabel C_NoFile C_BadNumber C_BadForm C_Kept f_is_whole f_look_form f_look_records f_figures f_filled f_spanned f_blocked f_length_in f_parts_of f_unblocked f__law_town f__law_draw f__law_pick f__law_refusal f__law_text f__law_shape f__law_records f__law_read f__law_length f__law_parts f__law_due f_law a_c_FORMS : Addr} {od_is_whole an_is_whole od_look_form an_look_form od_look_records an_look_records od_figures an_figures od_filled an_filled od_spanned an_spanned od_blocked an_blocked od_length_in an_length_in od_parts_of an_parts_of od_unblocked an_unblocked od__law_town an__law_town od__law_draw an__law_draw od__law_pick an__law_pick od__law_refusal an__law_refusal od__law_text an__law_text od__law_shape an__law_shape od__law_records an__law_records od__law_read an__law_read od__law_length an__law_length od__law_parts an__law_parts od__law_due an__law_due od_law an_law dd_FORMS : Option Addr} {oc_is_whole kV_is_whole dc_is_whole pm_is_whole cd_is_whole ct_is_whole oc_look_form kV_look_form dc_look_form pm_look_form cd_look_form ct_look_form oc_look_records kV_look_records dc_look_records pm_look_records cd_look_records ct_look_records oc_figures kV_figures dc_figures pm_figures cd_figures ct_figures oc_filled kV_filled dc_filled pm_filled cd_filled ct_filled oc_spanned kV_spanned dc_spanned pm_spanned cd_spanned ct_spanned oc_blocked kV_blocked dc_blocked pm_blocked cd_blocked ct_blocked oc_length_in kV_length_in dc_length_in pm_length_in cd_length_in ct_length_in oc_parts_of kV_parts_of dc_parts_of pm_parts_of cd_parts_of ct_parts_of oc_unblocked kV_unblocked dc_unblocked pm_unblocked cd_unblocked ct_unblocked oc__law_town kV__law_town dc__law_town pm__law_town cd__law_town ct__law_town oc__law_draw kV__law_draw dc__law_draw pm__law_draw cd__law_draw ct__law_draw oc__law_pick kV__law_pick dc__law_pick pm__law_pick cd__law_pick ct__law_pick oc__law_refusal kV__law_refusal dc__law_refusal pm__law_refusal cd__law_refusal ct__law_refusal oc__law_text kV__law_text dc__law_text pm__law_text cd__law_text ct__law_text oc__law_shape kV__law_shape dc__law_shape pm__law_shape cd__law_shape ct__law_shape oc__law_records kV__law_records dc__law_records pm__law_records cd__law_records ct__law_records oc__law_read kV__law_read dc__law_read pm__law_read cd__law_read ct__law_read oc__law_length kV__law_length dc__law_length pm__law_length cd__law_length ct__law_length oc__law_parts kV__law_parts dc__law_parts pm__law_parts cd__law_parts ct__law_parts oc__law_due kV__law_due dc__law_due pm__law_due cd__law_due ct__law_due oc_law kV_law dc_law pm_law cd_law ct_law : Value} {sl_is_whole sl_look_form sl_look_records sl_figures sl_filled sl_spanned sl_blocked sl_length_in sl_parts_of sl_unblocked sl__law_town sl__law_draw sl__law_pick sl__law_refusal sl__law_text sl__law_shape sl__law_records sl__law_read sl__law_length sl__law_parts sl__law_due sl_law sl_c_FORMS : Array (Option Value)} {tk_FIXED tk_FORMS_0 tk_FORMS_1 tk_FORMS_2 tk_MOST_BLOCK tk_MOST_SIZE tk_SPANNED tk_VARIED : Tok} {n_FORMS : Nat}
    (g_BadRecord : PySem.W.nsIn K mainGlobals "BadRecord" = some (some (.ref C_BadRecord)))
    (x_BadRecord : PySem.W.excIn K C_BadRecord [.type "ValueError", .type "Exception", .type "BaseException", .type "object"] "ValueError.__new__" = true)
    (k_BadRecord : PySem.W.keepIn K (.ref C_BadRecord) = true)
    (b_BadRecord : PySem.W.subIn K (.ref C_BadRecord) (.type "BaseException") = some true)
    (t_BadRecord : PySem.W.typeIn K (.ref C_BadRecord) = some (.type "type"))
    (g_NoReel : PySem.W.nsIn K mainGlobals "NoReel" = some (some (.ref C_NoReel)))
    (x_NoReel : PySem.W.excIn K C_NoReel [.type "ValueError", .type "Exception", .type "BaseException", .type "object"] "ValueError.__new__" = true)
    (k_NoReel : PySem.W.keepIn K (.ref C_NoReel) = true)
    (b_NoReel : PySem.W.subIn K (.ref C_NoReel) (.type "BaseException") = some true)
    (t_NoReel : PySem.W.typeIn K (.ref C_NoReel) = some (.type "type"))
    (g_AtStart : PySem.W.nsIn K mainGlobals "AtStart" = some (some (.ref C_AtStart)))
    (x_AtStart : PySem.W.excIn K C_AtStart [.type "ValueError", .type "Exception", .type "BaseException", .type "object"] "ValueError.__new__" = true)
    (k_AtStart : PySem.W.keepIn K (.ref C_AtStart) = true)
    (b_AtStart : PySem.W.subIn K (.ref C_AtStart) (.type "BaseException") = some true)
    (t_AtStart : PySem.W.typeIn K (.ref C_AtStart) = some (.type "type"))
    (g_TooLong : PySem.W.nsIn K mainGlobals "TooLong" = some (some (.ref C_TooLong)))
    (x_TooLong : PySem.W.excIn K C_TooLong [.type "ValueError", .type "Exception", .type "BaseException", .type "object"] "ValueError.__new__" = true)
    (k_TooLong : PySem.W.keepIn K (.ref C_TooLong) = true)
    (b_TooLong : PySem.W.subIn K (.ref C_TooLong) (.type "BaseException") = some true)
    (t_TooLong : PySem.W.typeIn K (.ref C_TooLong) = some (.type "type"))
    (g_NoRing : PySem.W.nsIn K mainGlobals "NoRing" = some (some (.ref C_NoRing)))
    (x_NoRing : PySem.W.excIn K C_NoRing [.type "ValueError", .type "Exception", .type "BaseException", .type "object"] "ValueError.__new__" = true)
    (k_NoRing : PySem.W.keepIn K (.ref C_NoRing) = true)
    (b_NoRing : PySem.W.subIn K (.ref C_NoRing) (.type "BaseException") = some true)
    (t_NoRing : PySem.W.typeIn K (.ref C_NoRing) = some (.type "type"))
    (g_BadName : PySem.W.nsIn K mainGlobals "BadName" = some (some (.ref C_BadName)))
    (x_BadName : PySem.W.excIn K C_BadName [.type "ValueError", .type "Exception", .type "BaseException", .type "object"] "ValueError.__new__" = true)
    (k_BadName : PySem.W.keepIn K (.ref C_BadName) = true)
    (b_BadName : PySem.W.subIn K (.ref C_BadName) (.type "BaseException") = some true)
    (t_BadName : PySem.W.typeIn K (.ref C_BadName) = some (.type "type"))
    (g_AtEnd : PySem.W.nsIn K mainGlobals "AtEnd" = some (some (.ref C_AtEnd)))
    (x_AtEnd : PySem.W.excIn K C_AtEnd [.type "ValueError", .type "Exception", .type "BaseException", .type "object"] "ValueError.__new__" = true)
    (k_AtEnd : PySem.W.keepIn K (.ref C_AtEnd) = true)
    (b_AtEnd : PySem.W.subIn K (.ref C_AtEnd) (.type "BaseException") = some true)
    (t_AtEnd : PySem.W.typeIn K (.ref C_AtEnd) = some (.type "type"))
    (g_BadReel : PySem.W.nsIn K mainGlobals "BadReel" = some (some (.ref C_BadReel)))
    (x_BadReel : PySem.W.excIn K C_BadReel [.type "ValueError", .type "Exception", .type "BaseException", .type "object"] "ValueError.__new__" = true)
    (k_BadReel : PySem.W.keepIn K (.ref C_BadReel) = true)
    (b_BadReel : PySem.W.subIn K (.ref C_BadReel) (.type "BaseException") = some true)
    (t_BadReel : PySem.W.typeIn K (.ref C_BadReel) = some (.type "type"))
    (g_ReelError : PySem.W.nsIn K mainGlobals "ReelError" = some (some (.ref C_ReelError)))
    (x_ReelError : PySem.W.excIn K C_ReelError [.type "ValueError", .type "Exception", .type "BaseException", .type "object"] "ValueError.__new__" = true)
    (k_ReelError : PySem.W.keepIn K (.ref C_ReelError) = true)
    (b_ReelError : PySem.W.subIn K (.ref C_ReelError) (.type "BaseException") = some true)
    (t_ReelError : PySem.W.typeIn K (.ref C_ReelError) = some (.type "type"))
    (g_BadBlock : PySem.W.nsIn K mainGlobals "BadBlock" = some (some (.ref C_BadBlock)))
    (x_BadBlock : PySem.W.excIn K C_BadBlock [.type "ValueError", .type "Exception", .type "BaseException", .type "object"] "ValueError.__new__" = true)
    (k_BadBlock : PySem.W.keepIn K (.ref C_BadBlock) = true)
    (b_BadBlock : PySem.W.subIn K (.ref C_BadBlock) (.type "BaseException") = some true)
    (t_BadBlock : PySem.W.typeIn K (.ref C_BadBlock) = some (.type "type"))
    (g_BadLabel : PySem.W.nsIn K mainGlobals "BadLabel" = some (some (.ref C_BadLabel)))
    (x_BadLabel : PySem.W.excIn K C_BadLabel [.type "ValueError", .type "Exception", .type "BaseException", .type "object"] "ValueError.__new__" = true)
    (k_BadLabel : PySem.W.keepIn K (.ref C_BadLabel) = true)
    (b_BadLabel : PySem.W.subIn K (.ref C_BadLabel) (.type "BaseException") = some true)
    (t_BadLabel : PySem.W.typeIn K (.ref C_BadLabel) = some (.type "type"))
    (g_NoFile : PySem.W.nsIn K mainGlobals "NoFile" = some (some (.ref C_NoFile)))
    (g_BadNumber : PySem.W.nsIn K mainGlobals "BadNumber" = some (some (.ref C_BadNumber)))
    (x_BadNumber : PySem.W.excIn K C_BadNumber [.type "ValueError", .type "Exception", .type "BaseException", .type "object"] "ValueError.__new__" = true)
    (k_BadNumber : PySem.W.keepIn K (.ref C_BadNumber) = true)
    (b_BadNumber : PySem.W.subIn K (.ref C_BadNumber) (.type "BaseException") = some true)
    (t_BadNumber : PySem.W.typeIn K (.ref C_BadNumber) = some (.type "type"))
    (g_BadForm : PySem.W.nsIn K mainGlobals "BadForm" = some (some (.ref C_BadForm)))
    (x_BadForm : PySem.W.excIn K C_BadForm [.type "ValueError", .type "Exception", .type "BaseException", .type "object"] "ValueError.__new__" = true)
    (k_BadForm : PySem.W.keepIn K (.ref C_BadForm) = true)
    (b_BadForm : PySem.W.subIn K (.ref C_BadForm) (.type "BaseException") = some true)
    (t_BadForm : PySem.W.typeIn K (.ref C_BadForm) = some (.type "type"))
    (g_Kept : PySem.W.nsIn K mainGlobals "Kept" = some (some (.ref C_Kept)))
    (a_is_whole : PySem.W.nsIn K mainGlobals "is_whole" = some (some (.ref f_is_whole)))
    (l_is_whole : K.lookup f_is_whole = some ⟨oc_is_whole, od_is_whole, .func (PySem.W.fnOf "is_whole" "is_whole" (defArgs s_is_whole) (defBody s_is_whole) (defScope s_is_whole) .none kV_is_whole dc_is_whole pm_is_whole an_is_whole cd_is_whole ct_is_whole), sl_is_whole⟩)
    (c_is_whole : PySem.W.codeIn K cd_is_whole "is_whole" = true)
    (k_is_whole : PySem.W.keepIn K (.ref f_is_whole) = true)
    (a_look_form : PySem.W.nsIn K mainGlobals "look_form" = some (some (.ref f_look_form)))
    (l_look_form : K.lookup f_look_form = some ⟨oc_look_form, od_look_form, .func (PySem.W.fnOf "look_form" "look_form" (defArgs s_look_form) (defBody s_look_form) (defScope s_look_form) .none kV_look_form dc_look_form pm_look_form an_look_form cd_look_form ct_look_form), sl_look_form⟩)
    (c_look_form : PySem.W.codeIn K cd_look_form "look_form" = true)
    (k_look_form : PySem.W.keepIn K (.ref f_look_form) = true)
    (a_look_records : PySem.W.nsIn K mainGlobals "look_records" = some (some (.ref f_look_records)))
    (l_look_records : K.lookup f_look_records = some ⟨oc_look_records, od_look_records, .func (PySem.W.fnOf "look_records" "look_records" (defArgs s_look_records) (defBody s_look_records) (defScope s_look_records) .none kV_look_records dc_look_records pm_look_records an_look_records cd_look_records ct_look_records), sl_look_records⟩)
    (c_look_records : PySem.W.codeIn K cd_look_records "look_records" = true)
    (k_look_records : PySem.W.keepIn K (.ref f_look_records) = true)
    (a_figures : PySem.W.nsIn K mainGlobals "figures" = some (some (.ref f_figures)))
    (l_figures : K.lookup f_figures = some ⟨oc_figures, od_figures, .func (PySem.W.fnOf "figures" "figures" (defArgs s_figures) (defBody s_figures) (defScope s_figures) .none kV_figures dc_figures pm_figures an_figures cd_figures ct_figures), sl_figures⟩)
    (c_figures : PySem.W.codeIn K cd_figures "figures" = true)
    (k_figures : PySem.W.keepIn K (.ref f_figures) = true)
    (a_filled : PySem.W.nsIn K mainGlobals "filled" = some (some (.ref f_filled)))
    (l_filled : K.lookup f_filled = some ⟨oc_filled, od_filled, .func (PySem.W.fnOf "filled" "filled" (defArgs s_filled) (defBody s_filled) (defScope s_filled) .none kV_filled dc_filled pm_filled an_filled cd_filled ct_filled), sl_filled⟩)
    (c_filled : PySem.W.codeIn K cd_filled "filled" = true)
    (k_filled : PySem.W.keepIn K (.ref f_filled) = true)
    (a_spanned : PySem.W.nsIn K mainGlobals "spanned" = some (some (.ref f_spanned)))
    (l_spanned : K.lookup f_spanned = some ⟨oc_spanned, od_spanned, .func (PySem.W.fnOf "spanned" "spanned" (defArgs s_spanned) (defBody s_spanned) (defScope s_spanned) .none kV_spanned dc_spanned pm_spanned an_spanned cd_spanned ct_spanned), sl_spanned⟩)
    (c_spanned : PySem.W.codeIn K cd_spanned "spanned" = true)
    (k_spanned : PySem.W.keepIn K (.ref f_spanned) = true)
    (a_blocked : PySem.W.nsIn K mainGlobals "blocked" = some (some (.ref f_blocked)))
    (l_blocked : K.lookup f_blocked = some ⟨oc_blocked, od_blocked, .func (PySem.W.fnOf "blocked" "blocked" (defArgs s_blocked) (defBody s_blocked) (defScope s_blocked) .none kV_blocked dc_blocked pm_blocked an_blocked cd_blocked ct_blocked), sl_blocked⟩)
    (c_blocked : PySem.W.codeIn K cd_blocked "blocked" = true)
    (k_blocked : PySem.W.keepIn K (.ref f_blocked) = true)
    (a_length_in : PySem.W.nsIn K mainGlobals "length_in" = some (some (.ref f_length_in)))
    (l_length_in : K.lookup f_length_in = some ⟨oc_length_in, od_length_in, .func (PySem.W.fnOf "length_in" "length_in" (defArgs s_length_in) (defBody s_length_in) (defScope s_length_in) .none kV_length_in dc_length_in pm_length_in an_length_in cd_length_in ct_length_in), sl_length_in⟩)
    (c_length_in : PySem.W.codeIn K cd_length_in "length_in" = true)
    (k_length_in : PySem.W.keepIn K (.ref f_length_in) = true)
    (a_parts_of : PySem.W.nsIn K mainGlobals "parts_of" = some (some (.ref f_parts_of)))
    (l_parts_of : K.lookup f_parts_of = some ⟨oc_parts_of, od_parts_of, .func (PySem.W.fnOf "parts_of" "parts_of" (defArgs s_parts_of) (defBody s_parts_of) (defScope s_parts_of) .none kV_parts_of dc_parts_of pm_parts_of an_parts_of cd_parts_of ct_parts_of), sl_parts_of⟩)
    (c_parts_of : PySem.W.codeIn K cd_parts_of "parts_of" = true)
    (k_parts_of : PySem.W.keepIn K (.ref f_parts_of) = true)
    (a_unblocked : PySem.W.nsIn K mainGlobals "unblocked" = some (some (.ref f_unblocked)))
    (l_unblocked : K.lookup f_unblocked = some ⟨oc_unblocked, od_unblocked, .func (PySem.W.fnOf "unblocked" "unblocked" (defArgs s_unblocked) (defBody s_unblocked) (defScope s_unblocked) .none kV_unblocked dc_unblocked pm_unblocked an_unblocked cd_unblocked ct_unblocked), sl_unblocked⟩)
    (c_unblocked : PySem.W.codeIn K cd_unblocked "unblocked" = true)
    (k_unblocked : PySem.W.keepIn K (.ref f_unblocked) = true)
    (a__law_town : PySem.W.nsIn K mainGlobals "_law_town" = some (some (.ref f__law_town)))
    (l__law_town : K.lookup f__law_town = some ⟨oc__law_town, od__law_town, .func (PySem.W.fnOf "_law_town" "_law_town" (defArgs s__law_town) (defBody s__law_town) (defScope s__law_town) .none kV__law_town dc__law_town pm__law_town an__law_town cd__law_town ct__law_town), sl__law_town⟩)
    (c__law_town : PySem.W.codeIn K cd__law_town "_law_town" = true)
    (k__law_town : PySem.W.keepIn K (.ref f__law_town) = true)
    (a__law_draw : PySem.W.nsIn K mainGlobals "_law_draw" = some (some (.ref f__law_draw)))
    (l__law_draw : K.lookup f__law_draw = some ⟨oc__law_draw, od__law_draw, .func (PySem.W.fnOf "_law_draw" "_law_draw" (defArgs s__law_draw) (defBody s__law_draw) (defScope s__law_draw) .none kV__law_draw dc__law_draw pm__law_draw an__law_draw cd__law_draw ct__law_draw), sl__law_draw⟩)
    (c__law_draw : PySem.W.codeIn K cd__law_draw "_law_draw" = true)
    (k__law_draw : PySem.W.keepIn K (.ref f__law_draw) = true)
    (a__law_pick : PySem.W.nsIn K mainGlobals "_law_pick" = some (some (.ref f__law_pick)))
    (l__law_pick : K.lookup f__law_pick = some ⟨oc__law_pick, od__law_pick, .func (PySem.W.fnOf "_law_pick" "_law_pick" (defArgs s__law_pick) (defBody s__law_pick) (defScope s__law_pick) .none kV__law_pick dc__law_pick pm__law_pick an__law_pick cd__law_pick ct__law_pick), sl__law_pick⟩)
    (c__law_pick : PySem.W.codeIn K cd__law_pick "_law_pick" = true)
    (k__law_pick : PySem.W.keepIn K (.ref f__law_pick) = true)
    (a__law_refusal : PySem.W.nsIn K mainGlobals "_law_refusal" = some (some (.ref f__law_refusal)))
    (l__law_refusal : K.lookup f__law_refusal = some ⟨oc__law_refusal, od__law_refusal, .func (PySem.W.fnOf "_law_refusal" "_law_refusal" (defArgs s__law_refusal) (defBody s__law_refusal) (defScope s__law_refusal) .none kV__law_refusal dc__law_refusal pm__law_refusal an__law_refusal cd__law_refusal ct__law_refusal), sl__law_refusal⟩)
    (c__law_refusal : PySem.W.codeIn K cd__law_refusal "_law_refusal" = true)
    (k__law_refusal : PySem.W.keepIn K (.ref f__law_refusal) = true)
    (a__law_text : PySem.W.nsIn K mainGlobals "_law_text" = some (some (.ref f__law_text)))
    (l__law_text : K.lookup f__law_text = some ⟨oc__law_text, od__law_text, .func (PySem.W.fnOf "_law_text" "_law_text" (defArgs s__law_text) (defBody s__law_text) (defScope s__law_text) .none kV__law_text dc__law_text pm__law_text an__law_text cd__law_text ct__law_text), sl__law_text⟩)
    (c__law_text : PySem.W.codeIn K cd__law_text "_law_text" = true)
    (k__law_text : PySem.W.keepIn K (.ref f__law_text) = true)
    (a__law_shape : PySem.W.nsIn K mainGlobals "_law_shape" = some (some (.ref f__law_shape)))
    (l__law_shape : K.lookup f__law_shape = some ⟨oc__law_shape, od__law_shape, .func (PySem.W.fnOf "_law_shape" "_law_shape" (defArgs s__law_shape) (defBody s__law_shape) (defScope s__law_shape) .none kV__law_shape dc__law_shape pm__law_shape an__law_shape cd__law_shape ct__law_shape), sl__law_shape⟩)
    (c__law_shape : PySem.W.codeIn K cd__law_shape "_law_shape" = true)
    (k__law_shape : PySem.W.keepIn K (.ref f__law_shape) = true)
    (a__law_records : PySem.W.nsIn K mainGlobals "_law_records" = some (some (.ref f__law_records)))
    (l__law_records : K.lookup f__law_records = some ⟨oc__law_records, od__law_records, .func (PySem.W.fnOf "_law_records" "_law_records" (defArgs s__law_records) (defBody s__law_records) (defScope s__law_records) .none kV__law_records dc__law_records pm__law_records an__law_records cd__law_records ct__law_records), sl__law_records⟩)
    (c__law_records : PySem.W.codeIn K cd__law_records "_law_records" = true)
    (k__law_records : PySem.W.keepIn K (.ref f__law_records) = true)
    (a__law_read : PySem.W.nsIn K mainGlobals "_law_read" = some (some (.ref f__law_read)))
    (l__law_read : K.lookup f__law_read = some ⟨oc__law_read, od__law_read, .func (PySem.W.fnOf "_law_read" "_law_read" (defArgs s__law_read) (defBody s__law_read) (defScope s__law_read) .none kV__law_read dc__law_read pm__law_read an__law_read cd__law_read ct__law_read), sl__law_read⟩)
    (c__law_read : PySem.W.codeIn K cd__law_read "_law_read" = true)
    (k__law_read : PySem.W.keepIn K (.ref f__law_read) = true)
    (a__law_length : PySem.W.nsIn K mainGlobals "_law_length" = some (some (.ref f__law_length)))
    (l__law_length : K.lookup f__law_length = some ⟨oc__law_length, od__law_length, .func (PySem.W.fnOf "_law_length" "_law_length" (defArgs s__law_length) (defBody s__law_length) (defScope s__law_length) .none kV__law_length dc__law_length pm__law_length an__law_length cd__law_length ct__law_length), sl__law_length⟩)
    (c__law_length : PySem.W.codeIn K cd__law_length "_law_length" = true)
    (k__law_length : PySem.W.keepIn K (.ref f__law_length) = true)
    (a__law_parts : PySem.W.nsIn K mainGlobals "_law_parts" = some (some (.ref f__law_parts)))
    (l__law_parts : K.lookup f__law_parts = some ⟨oc__law_parts, od__law_parts, .func (PySem.W.fnOf "_law_parts" "_law_parts" (defArgs s__law_parts) (defBody s__law_parts) (defScope s__law_parts) .none kV__law_parts dc__law_parts pm__law_parts an__law_parts cd__law_parts ct__law_parts), sl__law_parts⟩)
    (c__law_parts : PySem.W.codeIn K cd__law_parts "_law_parts" = true)
    (k__law_parts : PySem.W.keepIn K (.ref f__law_parts) = true)
    (a__law_due : PySem.W.nsIn K mainGlobals "_law_due" = some (some (.ref f__law_due)))
    (l__law_due : K.lookup f__law_due = some ⟨oc__law_due, od__law_due, .func (PySem.W.fnOf "_law_due" "_law_due" (defArgs s__law_due) (defBody s__law_due) (defScope s__law_due) .none kV__law_due dc__law_due pm__law_due an__law_due cd__law_due ct__law_due), sl__law_due⟩)
    (c__law_due : PySem.W.codeIn K cd__law_due "_law_due" = true)
    (k__law_due : PySem.W.keepIn K (.ref f__law_due) = true)
    (a_law : PySem.W.nsIn K mainGlobals "law" = some (some (.ref f_law)))
    (l_law : K.lookup f_law = some ⟨oc_law, od_law, .func (PySem.W.fnOf "law" "law" (defArgs s_law) (defBody s_law) (defScope s_law) .none kV_law dc_law pm_law an_law cd_law ct_law), sl_law⟩)
    (c_law : PySem.W.codeIn K cd_law "law" = true)
    (k_law : PySem.W.keepIn K (.ref f_law) = true)
    (g_c_FIXED : PySem.W.nsIn K mainGlobals "FIXED" = some (some (.str "F" tk_FIXED)))
    (g_c_VARIED : PySem.W.nsIn K mainGlobals "VARIED" = some (some (.str "V" tk_VARIED)))
    (g_c_SPANNED : PySem.W.nsIn K mainGlobals "SPANNED" = some (some (.str "S" tk_SPANNED)))
    (g_c_FORMS : PySem.W.nsIn K mainGlobals "FORMS" = some (some (.ref a_c_FORMS)))
    (l_c_FORMS : K.lookup a_c_FORMS = some ⟨.type "tuple", dd_FORMS, .seq #[.str "F" tk_FORMS_0, .str "V" tk_FORMS_1, .str "S" tk_FORMS_2] n_FORMS, sl_c_FORMS⟩)
    (g_c_MOST_BLOCK : PySem.W.nsIn K mainGlobals "MOST_BLOCK" = some (some (.int 60 tk_MOST_BLOCK)))
    (g_c_MOST_SIZE : PySem.W.nsIn K mainGlobals "MOST_SIZE" = some (some (.int 200 tk_MOST_SIZE)))
    (z_isinstance : PySem.W.nsIn K mainGlobals "isinstance" = some none)
    (z_int : PySem.W.nsIn K mainGlobals "int" = some none)
    (z_bool : PySem.W.nsIn K mainGlobals "bool" = some none)
    (z_str : PySem.W.nsIn K mainGlobals "str" = some none)
    (z_list : PySem.W.nsIn K mainGlobals "list" = some none)
    (z_all : PySem.W.nsIn K mainGlobals "all" = some none)
    (z_len : PySem.W.nsIn K mainGlobals "len" = some none)
    (z_ValueError : PySem.W.nsIn K mainGlobals "ValueError" = some none)
    (z_range : PySem.W.nsIn K mainGlobals "range" = some none)
    (z_min : PySem.W.nsIn K mainGlobals "min" = some none)
    (hg_BadForm : PySem.W.findIn K (.ref C_BadForm) "__getattribute__" = some (some (.builtin "BaseException.__getattribute__")))
    (hk_BadForm : PySem.W.findIn K (.ref C_BadForm) "__getattr__" = some none)
    (hd_BadForm : PySem.W.hasDictIn K C_BadForm = true)
    (ha_BadForm : PySem.W.findIn K (.ref C_BadForm) "__class__" = some (some (.builtin "object.__class__")))
    (hm_BadForm : PySem.W.mroIn K C_BadForm (.type "object") = some true)
    (hn_X : PySem.W.specialIn K (.builtin "object.__class__") "__get__" = some (some (.builtin "getset_descriptor.__get__")))
    (ht_X : PySem.W.takesIn K (.builtin "object.__class__") = some true)
    (rd_X : PySem.W.hasDictIn K C_ReelError = true)
    (ic_ReelError : PySem.W.isClsIn K C_ReelError = true)
    (ic_BadNumber : PySem.W.isClsIn K C_BadNumber = true)
    (ic_BadName : PySem.W.isClsIn K C_BadName = true)
    (ic_BadReel : PySem.W.isClsIn K C_BadReel = true)
    (ic_NoRing : PySem.W.isClsIn K C_NoRing = true)
    (ic_AtEnd : PySem.W.isClsIn K C_AtEnd = true)
    (ic_AtStart : PySem.W.isClsIn K C_AtStart = true)
    (ic_TooLong : PySem.W.isClsIn K C_TooLong = true)
    (ic_BadForm : PySem.W.isClsIn K C_BadForm = true)
    (ic_BadRecord : PySem.W.isClsIn K C_BadRecord = true)
    (ic_BadBlock : PySem.W.isClsIn K C_BadBlock = true)
    (ic_BadLabel : PySem.W.isClsIn K C_BadLabel = true)
    (ic_NoReel : PySem.W.isClsIn K C_NoReel = true)
    (ic_NoFile : PySem.W.isClsIn K C_NoFile = true)
    (t_NoFile : PySem.W.typeIn K (.ref C_NoFile) = some (.type "type"))
    (ic_Kept : PySem.W.isClsIn K C_Kept = true)
    (t_Kept : PySem.W.typeIn K (.ref C_Kept) = some (.type "type"))
    (sv_BadForm : PySem.W.subIn K (.ref C_BadForm) (.type "ValueError") = some true)
    (sb_BadForm_ReelError : PySem.W.subIn K (.ref C_BadForm) (.ref C_ReelError) = some true)
    (sb_BadForm_BadNumber : PySem.W.subIn K (.ref C_BadForm) (.ref C_BadNumber) = some false)
    (sb_BadForm_BadName : PySem.W.subIn K (.ref C_BadForm) (.ref C_BadName) = some false)
    (sb_BadForm_BadReel : PySem.W.subIn K (.ref C_BadForm) (.ref C_BadReel) = some false)
    (sb_BadForm_NoRing : PySem.W.subIn K (.ref C_BadForm) (.ref C_NoRing) = some false)
    (sb_BadForm_AtEnd : PySem.W.subIn K (.ref C_BadForm) (.ref C_AtEnd) = some false)
    (sb_BadForm_AtStart : PySem.W.subIn K (.ref C_BadForm) (.ref C_AtStart) = some false)
    (sb_BadForm_TooLong : PySem.W.subIn K (.ref C_BadForm) (.ref C_TooLong) = some false)
    (sb_BadForm_BadForm : PySem.W.subIn K (.ref C_BadForm) (.ref C_BadForm) = some true)
    (sb_BadForm_BadRecord : PySem.W.subIn K (.ref C_BadForm) (.ref C_BadRecord) = some false)
    (sb_BadForm_BadBlock : PySem.W.subIn K (.ref C_BadForm) (.ref C_BadBlock) = some false)
    (sb_BadForm_BadLabel : PySem.W.subIn K (.ref C_BadForm) (.ref C_BadLabel) = some false)
    (sb_BadForm_NoReel : PySem.W.subIn K (.ref C_BadForm) (.ref C_NoReel) = some false)
    (sb_BadForm_NoFile : PySem.W.subIn K (.ref C_BadForm) (.ref C_NoFile) = some false)
    (sb_BadForm_Kept : PySem.W.subIn K (.ref C_BadForm) (.ref C_Kept) = some false)
    (hg_BadBlock : PySem.W.findIn K (.ref C_BadBlock) "__getattribute__" = some (some (.builtin "BaseException.__getattribute__")))
    (hk_BadBlock : PySem.W.findIn K (.ref C_BadBlock) "__getattr__" = some none)
    (hd_BadBlock : PySem.W.hasDictIn K C_BadBlock = true)
    (ha_BadBlock : PySem.W.findIn K (.ref C_BadBlock) "__class__" = some (some (.builtin "object.__class__")))
    (hm_BadBlock : PySem.W.mroIn K C_BadBlock (.type "object") = some true)
    (sv_BadBlock : PySem.W.subIn K (.ref C_BadBlock) (.type "ValueError") = some true)
    (sb_BadBlock_ReelError : PySem.W.subIn K (.ref C_BadBlock) (.ref C_ReelError) = some true)
    (sb_BadBlock_BadNumber : PySem.W.subIn K (.ref C_BadBlock) (.ref C_BadNumber) = some false)
    (sb_BadBlock_BadName : PySem.W.subIn K (.ref C_BadBlock) (.ref C_BadName) = some false)
    (sb_BadBlock_BadReel : PySem.W.subIn K (.ref C_BadBlock) (.ref C_BadReel) = some false)
    (sb_BadBlock_NoRing : PySem.W.subIn K (.ref C_BadBlock) (.ref C_NoRing) = some false)
    (sb_BadBlock_AtEnd : PySem.W.subIn K (.ref C_BadBlock) (.ref C_AtEnd) = some false)
    (sb_BadBlock_AtStart : PySem.W.subIn K (.ref C_BadBlock) (.ref C_AtStart) = some false)
    (sb_BadBlock_TooLong : PySem.W.subIn K (.ref C_BadBlock) (.ref C_TooLong) = some false)
    (sb_BadBlock_BadForm : PySem.W.subIn K (.ref C_BadBlock) (.ref C_BadForm) = some false)
    (sb_BadBlock_BadRecord : PySem.W.subIn K (.ref C_BadBlock) (.ref C_BadRecord) = some false)
    (sb_BadBlock_BadBlock : PySem.W.subIn K (.ref C_BadBlock) (.ref C_BadBlock) = some true)
    (sb_BadBlock_BadLabel : PySem.W.subIn K (.ref C_BadBlock) (.ref C_BadLabel) = some false)
    (sb_BadBlock_NoReel : PySem.W.subIn K (.ref C_BadBlock) (.ref C_NoReel) = some false)
    (sb_BadBlock_NoFile : PySem.W.subIn K (.ref C_BadBlock) (.ref C_NoFile) = some false)
    (sb_BadBlock_Kept : PySem.W.subIn K (.ref C_BadBlock) (.ref C_Kept) = some false)
    : ∃ fd : FuncData, (∀ (s : Shared) (v : Value), BindsTo s fd ⟨[v], []⟩ [("_law_script", v)]) ∧ ∀ base : Heap, K.In base → base.Ns mainGlobals mg → FnOk l.prog w K mg base (L2.CX l.prog w) 5 fa fd ["_law_script"] (spLaw K) := by
  have e := hfa.symm.trans (PySem.W.mg_of X G a_law)
  cases e
  obtain ⟨T, ea, ed⟩ := txt_mk X G g_BadRecord x_BadRecord k_BadRecord b_BadRecord t_BadRecord g_NoReel x_NoReel k_NoReel b_NoReel t_NoReel g_AtStart x_AtStart k_AtStart b_AtStart t_AtStart g_TooLong x_TooLong k_TooLong b_TooLong t_TooLong g_NoRing x_NoRing k_NoRing b_NoRing t_NoRing g_BadName x_BadName k_BadName b_BadName t_BadName g_AtEnd x_AtEnd k_AtEnd b_AtEnd t_AtEnd g_BadReel x_BadReel k_BadReel b_BadReel t_BadReel g_ReelError x_ReelError k_ReelError b_ReelError t_ReelError g_BadBlock x_BadBlock k_BadBlock b_BadBlock t_BadBlock g_BadLabel x_BadLabel k_BadLabel b_BadLabel t_BadLabel g_NoFile g_BadNumber x_BadNumber k_BadNumber b_BadNumber t_BadNumber g_BadForm x_BadForm k_BadForm b_BadForm t_BadForm g_Kept a_is_whole l_is_whole c_is_whole k_is_whole a_look_form l_look_form c_look_form k_look_form a_look_records l_look_records c_look_records k_look_records a_figures l_figures c_figures k_figures a_filled l_filled c_filled k_filled a_spanned l_spanned c_spanned k_spanned a_blocked l_blocked c_blocked k_blocked a_length_in l_length_in c_length_in k_length_in a_parts_of l_parts_of c_parts_of k_parts_of a_unblocked l_unblocked c_unblocked k_unblocked a__law_town l__law_town c__law_town k__law_town a__law_draw l__law_draw c__law_draw k__law_draw a__law_pick l__law_pick c__law_pick k__law_pick a__law_refusal l__law_refusal c__law_refusal k__law_refusal a__law_text l__law_text c__law_text k__law_text a__law_shape l__law_shape c__law_shape k__law_shape a__law_records l__law_records c__law_records k__law_records a__law_read l__law_read c__law_read k__law_read a__law_length l__law_length c__law_length k__law_length a__law_parts l__law_parts c__law_parts k__law_parts a__law_due l__law_due c__law_due k__law_due a_law l_law c_law k_law g_c_FIXED g_c_VARIED g_c_SPANNED g_c_FORMS l_c_FORMS g_c_MOST_BLOCK g_c_MOST_SIZE z_isinstance z_int z_bool z_str z_list z_all z_len z_ValueError z_range z_min hg_BadForm hk_BadForm hd_BadForm ha_BadForm hm_BadForm hn_X ht_X rd_X ic_ReelError ic_BadNumber ic_BadName ic_BadReel ic_NoRing ic_AtEnd ic_AtStart ic_TooLong ic_BadForm ic_BadRecord ic_BadBlock ic_BadLabel ic_NoReel ic_NoFile t_NoFile ic_Kept t_Kept sv_BadForm sb_BadForm_ReelError sb_BadForm_BadNumber sb_BadForm_BadName sb_BadForm_BadReel sb_BadForm_NoRing sb_BadForm_AtEnd sb_BadForm_AtStart sb_BadForm_TooLong sb_BadForm_BadForm sb_BadForm_BadRecord sb_BadForm_BadBlock sb_BadForm_BadLabel sb_BadForm_NoReel sb_BadForm_NoFile sb_BadForm_Kept hg_BadBlock hk_BadBlock hd_BadBlock ha_BadBlock hm_BadBlock sv_BadBlock sb_BadBlock_ReelError sb_BadBlock_BadNumber sb_BadBlock_BadName sb_BadBlock_BadReel sb_BadBlock_NoRing sb_BadBlock_AtEnd sb_BadBlock_AtStart sb_BadBlock_TooLong sb_BadBlock_BadForm sb_BadBlock_BadRecord sb_BadBlock_BadBlock sb_BadBlock_BadLabel sb_BadBlock_NoReel sb_BadBlock_NoFile sb_BadBlock_Kept
  refine ⟨T.law.d, fun s v => ?_, fun base _ _ => ?_⟩
  · rw [ed]; exact .of_eq rfl
  · rw [← ea]; exact ok_law T
end R
set_option maxRecDepth 100000
open PySem PySem.W PyProof.Rows
set_option maxRecDepth 100000 in
set_option maxHeartbeats 0 in
theorem PySem.Challenge.cw_reelrows_k04_whole_broken_blocks_holds : PySem.Challenge.rw_reelrows_k04_whole_broken_blocks.Holds := by
  w_on; o_law; k_head; (case hw => w_witness2)
  k_fill
  refine L2.walk_of (l := PySem.Challenge.rw_reelrows_k04_whole_broken_blocks) (n := 63) (k := 5) (x := "_law_script") (CX := fun w => L2.CX PySem.Challenge.rw_reelrows_k04_whole_broken_blocks.prog w) (sp := fun w => R.spLaw _) rfl (by decide) rfl ⟨rfl, by decide, by decide⟩ (fun w h Y => PySem.W.kIn_of Y) ?F (fun _ _ a ns hl _ hS => ⟨a, ns, rfl, hS, hl, fun _ => rfl⟩) (fun w H s e s' h => by obtain ⟨_, _, _, _, _, _, _, _, _, _, _, _, z⟩ := h; exact z)
  case F =>
    intro w mg fa h KX G hmg
    refine' R.all_mk KX G hmg ?g_BadRecord ?x_BadRecord ?k_BadRecord ?b_BadRecord ?t_BadRecord ?g_NoReel ?x_NoReel ?k_NoReel ?b_NoReel ?t_NoReel ?g_AtStart ?x_AtStart ?k_AtStart ?b_AtStart ?t_AtStart ?g_TooLong ?x_TooLong ?k_TooLong ?b_TooLong ?t_TooLong ?g_NoRing ?x_NoRing ?k_NoRing ?b_NoRing ?t_NoRing ?g_BadName ?x_BadName ?k_BadName ?b_BadName ?t_BadName ?g_AtEnd ?x_AtEnd ?k_AtEnd ?b_AtEnd ?t_AtEnd ?g_BadReel ?x_BadReel ?k_BadReel ?b_BadReel ?t_BadReel ?g_ReelError ?x_ReelError ?k_ReelError ?b_ReelError ?t_ReelError ?g_BadBlock ?x_BadBlock ?k_BadBlock ?b_BadBlock ?t_BadBlock ?g_BadLabel ?x_BadLabel ?k_BadLabel ?b_BadLabel ?t_BadLabel ?g_NoFile ?g_BadNumber ?x_BadNumber ?k_BadNumber ?b_BadNumber ?t_BadNumber ?g_BadForm ?x_BadForm ?k_BadForm ?b_BadForm ?t_BadForm ?g_Kept ?a_is_whole ?l_is_whole ?c_is_whole ?k_is_whole ?a_look_form ?l_look_form ?c_look_form ?k_look_form ?a_look_records ?l_look_records ?c_look_records ?k_look_records ?a_figures ?l_figures ?c_figures ?k_figures ?a_filled ?l_filled ?c_filled ?k_filled ?a_spanned ?l_spanned ?c_spanned ?k_spanned ?a_blocked ?l_blocked ?c_blocked ?k_blocked ?a_length_in ?l_length_in ?c_length_in ?k_length_in ?a_parts_of ?l_parts_of ?c_parts_of ?k_parts_of ?a_unblocked ?l_unblocked ?c_unblocked ?k_unblocked ?a__law_town ?l__law_town ?c__law_town ?k__law_town ?a__law_draw ?l__law_draw ?c__law_draw ?k__law_draw ?a__law_pick ?l__law_pick ?c__law_pick ?k__law_pick ?a__law_refusal ?l__law_refusal ?c__law_refusal ?k__law_refusal ?a__law_text ?l__law_text ?c__law_text ?k__law_text ?a__law_shape ?l__law_shape ?c__law_shape ?k__law_shape ?a__law_records ?l__law_records ?c__law_records ?k__law_records ?a__law_read ?l__law_read ?c__law_read ?k__law_read ?a__law_length ?l__law_length ?c__law_length ?k__law_length ?a__law_parts ?l__law_parts ?c__law_parts ?k__law_parts ?a__law_due ?l__law_due ?c__law_due ?k__law_due ?a_law ?l_law ?c_law ?k_law ?g_c_FIXED ?g_c_VARIED ?g_c_SPANNED ?g_c_FORMS ?l_c_FORMS ?g_c_MOST_BLOCK ?g_c_MOST_SIZE ?z_isinstance ?z_int ?z_bool ?z_str ?z_list ?z_all ?z_len ?z_ValueError ?z_range ?z_min ?hg_BadForm ?hk_BadForm ?hd_BadForm ?ha_BadForm ?hm_BadForm ?hn_X ?ht_X ?rd_X ?ic_ReelError ?ic_BadNumber ?ic_BadName ?ic_BadReel ?ic_NoRing ?ic_AtEnd ?ic_AtStart ?ic_TooLong ?ic_BadForm ?ic_BadRecord ?ic_BadBlock ?ic_BadLabel ?ic_NoReel ?ic_NoFile ?t_NoFile ?ic_Kept ?t_Kept ?sv_BadForm ?sb_BadForm_ReelError ?sb_BadForm_BadNumber ?sb_BadForm_BadName ?sb_BadForm_BadReel ?sb_BadForm_NoRing ?sb_BadForm_AtEnd ?sb_BadForm_AtStart ?sb_BadForm_TooLong ?sb_BadForm_BadForm ?sb_BadForm_BadRecord ?sb_BadForm_BadBlock ?sb_BadForm_BadLabel ?sb_BadForm_NoReel ?sb_BadForm_NoFile ?sb_BadForm_Kept ?hg_BadBlock ?hk_BadBlock ?hd_BadBlock ?ha_BadBlock ?hm_BadBlock ?sv_BadBlock ?sb_BadBlock_ReelError ?sb_BadBlock_BadNumber ?sb_BadBlock_BadName ?sb_BadBlock_BadReel ?sb_BadBlock_NoRing ?sb_BadBlock_AtEnd ?sb_BadBlock_AtStart ?sb_BadBlock_TooLong ?sb_BadBlock_BadForm ?sb_BadBlock_BadRecord ?sb_BadBlock_BadBlock ?sb_BadBlock_BadLabel ?sb_BadBlock_NoReel ?sb_BadBlock_NoFile ?sb_BadBlock_Kept
    (case g_BadRecord => k_is)
    (case x_BadRecord => k_exc)
    (case k_BadRecord => k_is)
    (case b_BadRecord => k_is)
    (case t_BadRecord => k_is)
    (case g_NoReel => k_is)
    (case x_NoReel => k_exc)
    (case k_NoReel => k_is)
    (case b_NoReel => k_is)
    (case t_NoReel => k_is)
    (case g_AtStart => k_is)
    (case x_AtStart => k_exc)
    (case k_AtStart => k_is)
    (case b_AtStart => k_is)
    (case t_AtStart => k_is)
    (case g_TooLong => k_is)
    (case x_TooLong => k_exc)
    (case k_TooLong => k_is)
    (case b_TooLong => k_is)
    (case t_TooLong => k_is)
    (case g_NoRing => k_is)
    (case x_NoRing => k_exc)
    (case k_NoRing => k_is)
    (case b_NoRing => k_is)
    (case t_NoRing => k_is)
    (case g_BadName => k_is)
    (case x_BadName => k_exc)
    (case k_BadName => k_is)
    (case b_BadName => k_is)
    (case t_BadName => k_is)
    (case g_AtEnd => k_is)
    (case x_AtEnd => k_exc)
    (case k_AtEnd => k_is)
    (case b_AtEnd => k_is)
    (case t_AtEnd => k_is)
    (case g_BadReel => k_is)
    (case x_BadReel => k_exc)
    (case k_BadReel => k_is)
    (case b_BadReel => k_is)
    (case t_BadReel => k_is)
    (case g_ReelError => k_is)
    (case x_ReelError => k_exc)
    (case k_ReelError => k_is)
    (case b_ReelError => k_is)
    (case t_ReelError => k_is)
    (case g_BadBlock => k_is)
    (case x_BadBlock => k_exc)
    (case k_BadBlock => k_is)
    (case b_BadBlock => k_is)
    (case t_BadBlock => k_is)
    (case g_BadLabel => k_is)
    (case x_BadLabel => k_exc)
    (case k_BadLabel => k_is)
    (case b_BadLabel => k_is)
    (case t_BadLabel => k_is)
    (case g_NoFile => k_is)
    (case g_BadNumber => k_is)
    (case x_BadNumber => k_exc)
    (case k_BadNumber => k_is)
    (case b_BadNumber => k_is)
    (case t_BadNumber => k_is)
    (case g_BadForm => k_is)
    (case x_BadForm => k_exc)
    (case k_BadForm => k_is)
    (case b_BadForm => k_is)
    (case t_BadForm => k_is)
    (case g_Kept => k_is)
    (case a_is_whole => k_is)
    (case l_is_whole => k_is)
    (case c_is_whole => k_is)
    (case k_is_whole => k_is)
    (case a_look_form => k_is)
    (case l_look_form => k_is)
    (case c_look_form => k_is)
    (case k_look_form => k_is)
    (case a_look_records => k_is)
    (case l_look_records => k_is)
    (case c_look_records => k_is)
    (case k_look_records => k_is)
    (case a_figures => k_is)
    (case l_figures => k_is)
    (case c_figures => k_is)
    (case k_figures => k_is)
    (case a_filled => k_is)
    (case l_filled => k_is)
    (case c_filled => k_is)
    (case k_filled => k_is)
    (case a_spanned => k_is)
    (case l_spanned => k_is)
    (case c_spanned => k_is)
    (case k_spanned => k_is)
    (case a_blocked => k_is)
    (case l_blocked => k_is)
    (case c_blocked => k_is)
    (case k_blocked => k_is)
    (case a_length_in => k_is)
    (case l_length_in => k_is)
    (case c_length_in => k_is)
    (case k_length_in => k_is)
    (case a_parts_of => k_is)
    (case l_parts_of => k_is)
    (case c_parts_of => k_is)
    (case k_parts_of => k_is)
    (case a_unblocked => k_is)
    (case l_unblocked => k_is)
    (case c_unblocked => k_is)
    (case k_unblocked => k_is)
    (case a__law_town => k_is)
    (case l__law_town => k_is)
    (case c__law_town => k_is)
    (case k__law_town => k_is)
    (case a__law_draw => k_is)
    (case l__law_draw => k_is)
    (case c__law_draw => k_is)
    (case k__law_draw => k_is)
    (case a__law_pick => k_is)
    (case l__law_pick => k_is)
    (case c__law_pick => k_is)
    (case k__law_pick => k_is)
    (case a__law_refusal => k_is)
    (case l__law_refusal => k_is)
    (case c__law_refusal => k_is)
    (case k__law_refusal => k_is)
    (case a__law_text => k_is)
    (case l__law_text => k_is)
    (case c__law_text => k_is)
    (case k__law_text => k_is)
    (case a__law_shape => k_is)
    (case l__law_shape => k_is)
    (case c__law_shape => k_is)
    (case k__law_shape => k_is)
    (case a__law_records => k_is)
    (case l__law_records => k_is)
    (case c__law_records => k_is)
    (case k__law_records => k_is)
    (case a__law_read => k_is)
    (case l__law_read => k_is)
    (case c__law_read => k_is)
    (case k__law_read => k_is)
    (case a__law_length => k_is)
    (case l__law_length => k_is)
    (case c__law_length => k_is)
    (case k__law_length => k_is)
    (case a__law_parts => k_is)
    (case l__law_parts => k_is)
    (case c__law_parts => k_is)
    (case k__law_parts => k_is)
    (case a__law_due => k_is)
    (case l__law_due => k_is)
    (case c__law_due => k_is)
    (case k__law_due => k_is)
    (case a_law => k_is)
    (case l_law => k_is)
    (case c_law => k_is)
    (case k_law => k_is)
    (case g_c_FIXED => k_is)
    (case g_c_VARIED => k_is)
    (case g_c_SPANNED => k_is)
    (case g_c_FORMS => k_is)
    (case l_c_FORMS => k_is)
    (case g_c_MOST_BLOCK => k_is)
    (case g_c_MOST_SIZE => k_is)
    (case z_isinstance => k_is)
    (case z_int => k_is)
    (case z_bool => k_is)
    (case z_str => k_is)
    (case z_list => k_is)
    (case z_all => k_is)
    (case z_len => k_is)
    (case z_ValueError => k_is)
    (case z_range => k_is)
    (case z_min => k_is)
    (case hg_BadForm => k_is)
    (case hk_BadForm => k_is)
    (case hd_BadForm => k_is)
    (case ha_BadForm => k_is)
    (case hm_BadForm => k_is)
    (case hn_X => k_is)
    (case ht_X => k_is)
    (case rd_X => k_is)
    (case ic_ReelError => k_is)
    (case ic_BadNumber => k_is)
    (case ic_BadName => k_is)
    (case ic_BadReel => k_is)
    (case ic_NoRing => k_is)
    (case ic_AtEnd => k_is)
    (case ic_AtStart => k_is)
    (case ic_TooLong => k_is)
    (case ic_BadForm => k_is)
    (case ic_BadRecord => k_is)
    (case ic_BadBlock => k_is)
    (case ic_BadLabel => k_is)
    (case ic_NoReel => k_is)
    (case ic_NoFile => k_is)
    (case t_NoFile => k_is)
    (case ic_Kept => k_is)
    (case t_Kept => k_is)
    (case sv_BadForm => k_is)
    (case sb_BadForm_ReelError => k_is)
    (case sb_BadForm_BadNumber => k_is)
    (case sb_BadForm_BadName => k_is)
    (case sb_BadForm_BadReel => k_is)
    (case sb_BadForm_NoRing => k_is)
    (case sb_BadForm_AtEnd => k_is)
    (case sb_BadForm_AtStart => k_is)
    (case sb_BadForm_TooLong => k_is)
    (case sb_BadForm_BadForm => k_is)
    (case sb_BadForm_BadRecord => k_is)
    (case sb_BadForm_BadBlock => k_is)
    (case sb_BadForm_BadLabel => k_is)
    (case sb_BadForm_NoReel => k_is)
    (case sb_BadForm_NoFile => k_is)
    (case sb_BadForm_Kept => k_is)
    (case hg_BadBlock => k_is)
    (case hk_BadBlock => k_is)
    (case hd_BadBlock => k_is)
    (case ha_BadBlock => k_is)
    (case hm_BadBlock => k_is)
    (case sv_BadBlock => k_is)
    (case sb_BadBlock_ReelError => k_is)
    (case sb_BadBlock_BadNumber => k_is)
    (case sb_BadBlock_BadName => k_is)
    (case sb_BadBlock_BadReel => k_is)
    (case sb_BadBlock_NoRing => k_is)
    (case sb_BadBlock_AtEnd => k_is)
    (case sb_BadBlock_AtStart => k_is)
    (case sb_BadBlock_TooLong => k_is)
    (case sb_BadBlock_BadForm => k_is)
    (case sb_BadBlock_BadRecord => k_is)
    (case sb_BadBlock_BadBlock => k_is)
    (case sb_BadBlock_BadLabel => k_is)
    (case sb_BadBlock_NoReel => k_is)
    (case sb_BadBlock_NoFile => k_is)
    (case sb_BadBlock_Kept => k_is)
