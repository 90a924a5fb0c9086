import PyProof.Rows.All
import Wide.All
import OpenK.AllK
import Wide.FinOn
import HandS.ForMost
import HandS.ForExc
import HandS.IsInst
import HandS.Zip
import HandS.Defaults
import HandS.MakeKw
import HandS.MakeKwOnly
import HandS.Style
import HandS.TupAny
import HandS.ExcOwn
import HandS.ExcIs
import HandS.ExcValue
import HandS.TryMany
import KE.IntTextLaws
import KE.KIntText
import KE.Datum
import KE.KTupSum
import HandS.Walk
import KE.DataEq
import KE.DataMinMax
import KE.DatumOrd
import PyProof.StrOps2
import PySem.Challenge.RW_reelrows_k19_whole_sorted
set_option Elab.async false
set_option linter.all false
set_option maxRecDepth 100000
set_option maxHeartbeats 4000000
namespace R
open PySem PySem.Spec PyProof.Rows L2 RZ
open PySem.W (Datum)
/-! ### what the top has left, def by def -/
structure DefAt (K : PySem.W.Frag) (mg : Str → Option Value) (x : Str) (st : Stmt) (ps : List Str) where
  a : Addr
  d : FuncData
  F : Fun K x x st a d
  g : mg x = some (.ref a)
  b : Binds K d ps []
/-- a def with parameters that are handed in by name alone -/
structure DefKAt (K : PySem.W.Frag) (mg : Str → Option Value) (x : Str) (st : Stmt) where
  a : Addr
  d : FuncData
  F : Fun K x x st a d
  g : mg x = some (.ref a)
/-- an own exception class with __init__ -/
structure ExcNAt (K : PySem.W.Frag) (mg : Str → Option Value) (x : Str) where
  C : Addr
  g : mg x = some (.ref C)
/-- an own class -/
structure ClsAt (K : PySem.W.Frag) (mg : Str → Option Value) (x : Str) where
  C : Addr
  g : mg x = some (.ref C)
  cl : Cls K C
  m1 : PySem.W.makesIn K C = true
  kc : PySem.W.keepIn K (.ref C) = true
theorem ClsAt.mks {K : PySem.W.Frag} {mg : Str → Option Value} {x : Str} (c : ClsAt K mg x) {f : Addr} (m : Meth K c.C "__init__" f) : Mk K c.C f := ⟨c.m1, m.at_, m.fn, c.kc⟩
/-- a method -/
structure MethAt (K : PySem.W.Frag) (C : Addr) (x q : Str) (st : Stmt) (ps : List Str) where
  a : Addr
  d : FuncData
  F : Fun K x q st a d
  m : Meth K C x a
  b : Binds K d ps []
/-- a method with parameters that are handed in by name alone -/
structure MethKAt (K : PySem.W.Frag) (C : Addr) (x q : Str) (st : Stmt) where
  a : Addr
  d : FuncData
  F : Fun K x q st a d
  m : Meth K C x a
/-- a call by keywords where some defaults are left out: their values -/
structure KBnD (K : PySem.W.Frag) (d : FuncData) (ps : List Str) (n : Nat) (ks : List Str) (g : {α : Type} → List α → List α → List α → List α) (dvs : List V) where
  mv : List Value
  h : KBn K d ps n ks (fun us ws => g us mv ws) (fun vs zs => g vs dvs zs)
/-- a def's defaults where some arguments are left out -/
structure DefB (K : PySem.W.Frag) (d : FuncData) (ps : List Str) (dvs : List V) where
  ds : List Value
  v : Vals dvs ds
  b : Binds K d ps ds
structure IntAt (mg : Str → Option Value) (x : Str) (i : Int) where
  t : Tok
  g : mg x = some (.int i t)
structure StrAt (mg : Str → Option Value) (x : Str) (z : Str) where
  t : Tok
  g : mg x = some (.str z t)
structure TupAt (K : PySem.W.Frag) (mg : Str → Option Value) (x : Str) (vs : List V) where
  a : Addr
  g : mg x = some (.ref a)
  t : ∀ H, SqT K H a vs
/-- an own exception class without own __init__ -/
structure ExcAt (K : PySem.W.Frag) (mg : Str → Option Value) (x : Str) where
  C : Addr
  g : mg x = some (.ref C)
  x : PySem.W.excIn K C [.type "ValueError", .type "Exception", .type "BaseException", .type "object"] "ValueError.__new__" = true
  k : PySem.W.keepIn K (.ref C) = true
  b : PySem.W.subIn K (.ref C) (.type "BaseException") = some true
  t : PySem.W.typeIn K (.ref C) = some (.type "type")
/-! ### a step's summary of one's own -/
theorem PSs.mid {X : Cx} {ss : List Stmt} {t t' : TS} (h : PSs X ss t) (k : ∀ D σ H, t' D σ H → t D σ H) : PSs X ss t' := ⟨fun pins s σ H D I q => h.run pins s σ H D I (k D σ H q)⟩
theorem PS.mid {X : Cx} {ss : Stmt} {t t' : TS} (h : PS X ss t) (k : ∀ D σ H, t' D σ H → t D σ H) : PS X ss t' := ⟨fun pins s σ H D I q => h.run pins s σ H D I (k D σ H q)⟩
theorem PE.mid {X : Cx} {e : Expr} {t t' : TE} (h : PE X e t) (k : ∀ σ H Q, t' σ H Q → t σ H Q) : PE X e t' := ⟨fun pins s σ H Q I q => h.run pins s σ H Q I (k σ H Q q)⟩
theorem PT.mid {X : Cx} {e : Expr} {t t' : TT} (h : PT X e t) (k : ∀ σ H Q, t' σ H Q → t σ H Q) : PT X e t' := ⟨fun pins s σ H Q I q => h.run pins s σ H Q I (k σ H Q q)⟩
/-! ### texts: a list of signs -/
def S (l : List Nat) : Str := ⟨l.toArray⟩
theorem S_len (l : List Nat) : (S l).length = l.length := by simp [S, Str.length]
theorem S_cps (l : List Nat) : (S l).cps.toList = l := by simp [S]
theorem S_inj {a b : List Nat} : S a = S b ↔ a = b := by
  constructor
  · intro h
    have := congrArg (fun z => Str.cps z |>.toList) h
    simpa [S] using this
  · intro h; rw [h]
theorem S_app (a b : List Nat) : S a ++ S b = S (a ++ b) := by
  show Str.append (S a) (S b) = S (a ++ b)
  simp [Str.append, S]
theorem S_of (z : Str) : z = S z.cps.toList := by
  cases z; simp [S]
theorem S_sl (l : List Nat) (lo hi : Option Int) : cutS (S l) lo hi = S ((l.drop (HT.sIx l.length 0 lo)).take (HT.sIx l.length l.length hi - HT.sIx l.length 0 lo)) := by
  unfold cutS
  rw [S_len, S_cps]
  all_goals rfl
/-- one text times a number -/
def rMulS : R2 := fun x y H Q => ∃ z i, x = .str z ∧ y = .int i ∧ z.length = 1 ∧ -1000000 < i ∧ i < 1000000 ∧ Q (.str (S (List.replicate i.toNat (z.cps.toList.headD 0)))) H
theorem rep_one (c n : Nat) : (List.replicate n (#[c] : Array Nat)).foldl (· ++ ·) #[] = (List.replicate n c).toArray := by
  have : ∀ (a : Array Nat), (List.replicate n (#[c] : Array Nat)).foldl (· ++ ·) a = a ++ (List.replicate n c).toArray := by
    induction n with
    | zero => intro a; simp
    | succ n ih =>
      intro a
      rw [List.replicate_succ, List.foldl_cons, ih, List.replicate_succ]
      apply Array.ext'
      simp
  rw [this]; simp
theorem op_mul_str {X : Cx} : OpR X (binaryOp .Mult) rMulS := by
  intro pins s σ H x y v u Q I rx ry h
  obtain ⟨z, i, rfl, rfl, h1, lo, hi, q⟩ := h
  obtain ⟨t, rfl⟩ := rx
  obtain ⟨t', rfl⟩ := ry
  obtain ⟨c, hc⟩ : ∃ c, z = S [c] := by
    obtain ⟨⟨l⟩⟩ := z
    match l, h1 with
    | [c], _ => exact ⟨c, rfl⟩
  subst hc
  have e1 : (S [c]).length = 1 := rfl
  have hd : (S [c]).cps.toList.headD 0 = c := rfl
  rw [hd] at q
  refine PySem.P.mul_str ?_ ?_ ?_ ?_
  · rw [decide_eq_false (by omega), decide_eq_false (by omega)]; rfl
  · intro a b
    rw [e1]
    have : (1 : Int) ≤ (2 ^ 63 - 1) / i := by
      apply Int.le_ediv_of_mul_le (by omega)
      omega
    omega
  · intro a b
    rw [e1, Nat.one_mul]
    unfold PySem.Builtin.Str.tooLong
    first
      | (simp only [sizeLine_eq, decide_eq_false_iff_not]; omega)
      | (rw [decide_eq_false]; have := sizeLine_eq; omega)
  · by_cases h0 : i < 1
    · rw [if_pos h0]
      have e : i.toNat = 0 := by omega
      rw [e] at q
      exact ⟨by decide, ⟨.str (S []), H, I.tok _, ⟨_, rfl⟩, q⟩⟩
    · rw [if_neg h0]
      by_cases h2 : i = 1
      · subst h2
        rw [if_pos (by rfl)]
        exact ⟨.str (S [c]), H, I.tok _, ⟨_, rfl⟩, q⟩
      · have e2 : (i == 1 || (S [c]).length == 0) = false := by
          rw [e1]
          simp [h2]
        rw [if_neg (by rw [e2]; decide)]
        have e3 : (⟨(List.replicate i.toNat (S [c]).cps).foldl (· ++ ·) #[]⟩ : Str) = S (List.replicate i.toNat c) := by
          show (⟨(List.replicate i.toNat (#[c] : Array Nat)).foldl (· ++ ·) #[]⟩ : Str) = S (List.replicate i.toNat c)
          rw [rep_one]
          all_goals rfl
        rw [e3]
        refine ⟨?_, ⟨.str (S (List.replicate i.toNat c)), H, I.tok _, ⟨_, rfl⟩, q⟩⟩
        rw [S_len, List.length_replicate, sizeLine_eq]
        omega

/-! ### one step of a reading -/
theorem iteD {c A B : Prop} [Decidable c] (h1 : c → A) (h2 : ¬ c → B) : if decide c = true then A else B := by
  by_cases h : c
  · rw [decide_eq_true h, if_pos rfl]; exact h1 h
  · rw [decide_eq_false h, if_neg Bool.false_ne_true]; exact h2 h
theorem iteN {c A B : Prop} [Decidable c] (h1 : ¬ c → A) (h2 : c → B) : if (!decide c) = true then A else B := by
  by_cases h : c
  · rw [decide_eq_true h]; exact iteF (h2 h)
  · rw [decide_eq_false h]; exact iteT (h1 h)
theorem iteB {c : Bool} {A B : Prop} (h1 : c = true → A) (h2 : c = false → B) : if c = true then A else B := by
  cases c with
  | true => exact iteT (h1 rfl)
  | false => exact iteF (h2 rfl)
theorem iteNB {c : Bool} {A B : Prop} (h1 : c = false → A) (h2 : c = true → B) : if (!c) = true then A else B := by
  cases c with
  | true => exact iteF (h2 rfl)
  | false => exact iteT (h1 rfl)
/-! ### heaps -/
theorem same_new {H : Hp} {p : Addr} {o : HO} (h : H p = none) : Same H (upd H p o) := fun b x e => by
  rw [upd_ne (ne_of_none e h)]; exact e
theorem sql_same {K : PySem.W.Frag} {H H' : Hp} {a : Addr} {xs : List V} (h : SqL K H a xs) (e : Same H H') : SqL K H' a xs := e.seq h
theorem sqt_same {K : PySem.W.Frag} {H H' : Hp} {a : Addr} {xs : List V} (h : SqT K H a xs) (e : Same H H') : SqT K H' a xs := by
  rcases h with (h | ⟨o, h⟩) | h
  · exact .inl (.inl (e _ _ h))
  · exact .inl (.inr ⟨o, e _ _ h⟩)
  · exact .inr h
mutual
theorem dp_same {K : PySem.W.Frag} {H H' : Hp} (e : Same H H') : ∀ {x : V} {d : PyData}, Dp K H x d → Dp K H' x d
  | _, _, .non => .non
  | _, _, .bl b => .bl b
  | _, _, .int i => .int i
  | _, _, .str x => .str x
  | _, _, .lst h k => .lst (sql_same h e) (dpAll_same e k)
  | _, _, .tup h k => .tup (sqt_same h e) (dpAll_same e k)
theorem dpAll_same {K : PySem.W.Frag} {H H' : Hp} (e : Same H H') : ∀ {xs : List V} {ds : List PyData}, DpAll K H xs ds → DpAll K H' xs ds
  | _, _, .nil => .nil
  | _, _, .cons h k => .cons (dp_same e h) (dpAll_same e k)
end
theorem dp_ints {K : PySem.W.Frag} {H : Hp} : ∀ ns : List Int, DpAll K H (ns.map V.int) (ns.map Datum.toD)
  | [] => .nil
  | n :: r => .cons (.int n) (dp_ints r)
theorem dp_strs {K : PySem.W.Frag} {H : Hp} : ∀ ns : List Str, DpAll K H (ns.map V.str) (ns.map Datum.toD)
  | [] => .nil
  | n :: r => .cons (.str n) (dp_strs r)
theorem dp_intsL {K : PySem.W.Frag} {H : Hp} {a : Addr} {ns : List Int} (h : SqL K H a (ns.map V.int)) : Dp K H (.ref a) (Datum.toD ns) := .lst h (dp_ints ns)
theorem dp_strsL {K : PySem.W.Frag} {H : Hp} {a : Addr} {ns : List Str} (h : SqL K H a (ns.map V.str)) : Dp K H (.ref a) (Datum.toD ns) := .lst h (dp_strs ns)
def rEqP (K : PySem.W.Frag) : R2 := fun x y H Q => ∃ d e, Dp K H x d ∧ Dp K H y e ∧ d.plain = true ∧ e.plain = true ∧ d.depth ≤ 60 ∧ Q (.bl (PyData.eqv d e)) H
def rNeP (K : PySem.W.Frag) : R2 := fun x y H Q => ∃ d e, Dp K H x d ∧ Dp K H y e ∧ d.plain = true ∧ e.plain = true ∧ d.depth ≤ 60 ∧ Q (.bl (!PyData.eqv d e)) H
theorem op_eqP {X : Cx} (hu : X.A.units + 64 < cLine) : OpR X (compareOp .Eq) (rEqP X.K) := by
  intro pins s σ H x y v u Q I rx ry h
  obtain ⟨d, e, hd, he, sd, se, hp, q⟩ := h
  obtain ⟨as, r1⟩ := Dp.reads I d x v hd rx
  obtain ⟨bs, r2⟩ := Dp.reads I e y u he ry
  exact SeqAt.eq_plain r1 r2 sd se (by omega) ⟨.bl _, H, I, rfl, q⟩
theorem op_neP {X : Cx} (hu : X.A.units + 64 < cLine) : OpR X (compareOp .NotEq) (rNeP X.K) := by
  intro pins s σ H x y v u Q I rx ry h
  obtain ⟨d, e, hd, he, sd, se, hp, q⟩ := h
  obtain ⟨as, r1⟩ := Dp.reads I d x v hd rx
  obtain ⟨bs, r2⟩ := Dp.reads I e y u he ry
  exact SeqAt.ne_plain r1 r2 sd se (by omega) ⟨.bl _, H, I, rfl, q⟩
theorem rEqP_of {α : Type} [DecidableEq α] [Datum α] {K : PySem.W.Frag} {H : Hp} {x y : V} {a b : α} {Q : VK} (hx : Dp K H x (Datum.toD a)) (hy : Dp K H y (Datum.toD b)) (q : Q (.bl (decide (a = b))) H) (hd : Datum.depth α ≤ 60 := by decide) : rEqP K x y H Q :=
  ⟨_, _, hx, hy, Datum.plain a, Datum.plain b, Nat.le_trans (Datum.depth_le a) hd, by rw [Datum.eqv]; exact q⟩
theorem rNeP_of {α : Type} [DecidableEq α] [Datum α] {K : PySem.W.Frag} {H : Hp} {x y : V} {a b : α} {Q : VK} (hx : Dp K H x (Datum.toD a)) (hy : Dp K H y (Datum.toD b)) (q : Q (.bl (!decide (a = b))) H) (hd : Datum.depth α ≤ 60 := by decide) : rNeP K x y H Q :=
  ⟨_, _, hx, hy, Datum.plain a, Datum.plain b, Nat.le_trans (Datum.depth_le a) hd, by rw [Datum.eqv]; exact q⟩

theorem sz {n : Nat} (h : n ≤ 16777216) : n ≤ sizeLine := by rw [sizeLine_eq]; exact h
theorem szl {n : Nat} (h : n < 16777216) : n < sizeLine := by rw [sizeLine_eq]; exact h
/-! ### what kind a value is -/
inductive Pl (K : PySem.W.Frag) (H : Hp) : V → String → Prop
  | non : Pl K H .non "NoneType"
  | bl (b : Bool) : Pl K H (.bl b) "bool"
  | int (i : Int) : Pl K H (.int i) "int"
  | str (z : Str) : Pl K H (.str z) "str"
  | lst {a : Addr} {xs : List V} (h : SqL K H a xs) : Pl K H (.ref a) "list"
  | tup {a : Addr} {xs : List V} (h : SqT K H a xs) : Pl K H (.ref a) "tuple"
  | dct {a : Addr} {kvs : List (Key × V)} (h : H a = some (.dK kvs)) : Pl K H (.ref a) "dict"
theorem Pl.ty {K : PySem.W.Frag} {H : Hp} {x : V} {n : String} (h : Pl K H x n) : TyX K H x (.type n) := by
  cases h with
  | non => exact .base .non
  | bl b => exact .base (.bl b)
  | int i => exact .base (.int i)
  | str z => exact .base (.str z)
  | lst h =>
    rcases h with (h | ⟨o, h⟩) | ⟨o, its, m, hk, hc, _⟩
    · exact .base (.lst h)
    · exact .base (.frz h)
    · exact .kList hk hc
  | tup h =>
    rcases h with (h | ⟨o, h⟩) | ⟨o, its, m, hk, hc, _⟩
    · exact .base (.tup h)
    · exact .fTuple h
    · exact .kTuple hk hc
  | dct h => exact .base (.dK h)
theorem Pl.same {K : PySem.W.Frag} {H H' : Hp} {x : V} {n : String} (h : Pl K H x n) (e : Same H H') : Pl K H' x n := by
  cases h with
  | non => exact .non
  | bl b => exact .bl b
  | int i => exact .int i
  | str z => exact .str z
  | lst h => exact .lst (sql_same h e)
  | tup h => exact .tup (sqt_same h e)
  | dct h => exact .dct (e _ _ h)
theorem kit_int {K : PySem.W.Frag} {H : Hp} {x : V} {n : String} (h : Pl K H x n) : PySem.W.kitOne K (.type n) (.type "int") = some (n == "int" || n == "bool") := by
  cases h <;> exact kit_ty (by decide +kernel)
theorem kit_bool {K : PySem.W.Frag} {H : Hp} {x : V} {n : String} (h : Pl K H x n) : PySem.W.kitOne K (.type n) (.type "bool") = some (n == "bool") := by
  cases h <;> exact kit_ty (by decide +kernel)
theorem kit_str {K : PySem.W.Frag} {H : Hp} {x : V} {n : String} (h : Pl K H x n) : PySem.W.kitOne K (.type n) (.type "str") = some (n == "str") := by
  cases h <;> exact kit_ty (by decide +kernel)
theorem kit_list {K : PySem.W.Frag} {H : Hp} {x : V} {n : String} (h : Pl K H x n) : PySem.W.kitOne K (.type n) (.type "list") = some (n == "list") := by
  cases h <;> exact kit_ty (by decide +kernel)
theorem kit_tuple {K : PySem.W.Frag} {H : Hp} {x : V} {n : String} (h : Pl K H x n) : PySem.W.kitOne K (.type n) (.type "tuple") = some (n == "tuple") := by
  cases h <;> exact kit_ty (by decide +kernel)
/-! ### comprehensions whose items are told -/
theorem lc_map {J : It} {n : Nat} {G : Hp → Prop} {Y : Nat → Hp → V → Hp → Prop} (w : Walk J n G Y) {g : TG} {te : TE} {vs : List Nat} {σ : L2.St} {H1 : Hp} {D : Addr} {Qd : Hp → Prop} (ys : List V) (len : ys.length = n) (hn : n < 16777216) (nD : H1 D = none)
    (hY : ∀ i H x H', Y i H x H' → Same H H') (hG : ∀ H, Same H1 H → G H)
    (hs : ∀ i x H H' y, i < n → ys[i]? = some y → Same H1 H → Same H1 H' → Y i H x H' → ∀ Q : VK, (∀ H2, Same H' H2 → Q y H2) → g x (wipe σ vs) H' fun σ2 H2 => wipe σ2 vs = wipe σ vs ∧ te σ2 H2 Q)
    (hd : ∀ H, Same H1 H → H D = some (.lst ys) → Qd H)
    (hg : ∀ x σ H (R R' : L2.St → Hp → Prop), (∀ σ2 H2, R σ2 H2 → R' σ2 H2) → g x σ H R → g x σ H R') :
    ∃ W : Nat → Nat → Hp → Prop, (∃ m, W 0 m (upd H1 D (.lst []))) ∧ ∀ i m H, W i m H →
      (J.stop i H ∧ Qd H) ∨ (J.go i H ∧ ∃ Nx : Hp → Prop, (∀ H', Nx H' → ∃ m', m' < m ∧ W (i + 1) m' H') ∧ ∀ x H', J.yld i H x H' → g x (wipe σ vs) H' fun σ2 H2 => wipe σ2 vs = wipe σ vs ∧ tYes σ2 H2 fun b H3 =>
        if b = true then te σ2 H3 fun y H4 => ∃ acc, H4 D = some (.lst acc) ∧ acc.length < sizeLine ∧ Nx (upd H4 D (.lst (acc ++ [y]))) else Nx H3) := by
  refine lc_it w (fun i H => Same H1 H ∧ H D = some (.lst (ys.take i))) ⟨same_new nD, upd_same⟩ (fun i H _ p => hG H p.1) (fun i x H H' hi p y => ?_) (fun H p => hd H p.1 (by rw [← len, List.take_length] at p; exact p.2))
  have hi2 : i < ys.length := by omega
  have sH' := hY _ _ _ _ y
  refine hg _ _ _ _ _ (fun σ2 H2 z => z) (hs i x H H' ys[i] hi (List.getElem?_eq_getElem hi2) p.1 (p.1.trans sH') y _ fun H2 s2 => ?_)
  have hD2 : H2 D = some (.lst (ys.take i)) := s2 _ _ (sH' _ _ p.2)
  refine ⟨ys.take i, hD2, szl (by rw [List.length_take]; omega), ?_, ?_⟩
  · intro b o hb
    rw [upd_ne (ne_of_none hb nD)]
    exact s2 _ _ (sH' _ _ (p.1 _ _ hb))
  · rw [upd_same, List.take_add_one, List.getElem?_eq_getElem hi2]
    all_goals rfl
theorem gName_mono {i : Nat} : ∀ x σ H (R R' : L2.St → Hp → Prop), (∀ σ2 H2, R σ2 H2 → R' σ2 H2) → gName i x σ H R → gName i x σ H R' := fun _ _ _ _ _ h k => h _ _ k
theorem gTup2_mono {K : PySem.W.Frag} {i j : Nat} : ∀ x σ H (R R' : L2.St → Hp → Prop), (∀ σ2 H2, R σ2 H2 → R' σ2 H2) → gTup K 2 (gCons (gName i) (gCons (gName j) gNil)) x σ H R → gTup K 2 (gCons (gName i) (gCons (gName j) gNil)) x σ H R' := by
  intro x σ H R R' h ⟨a, xs, e1, e2, e3, v, r, e4, v2, r2, e5, e6, k⟩
  exact ⟨a, xs, e1, e2, e3, v, r, e4, v2, r2, e5, e6, h _ _ k⟩
theorem yat_same {xs : List V} : ∀ i H x H', YAt xs i H x H' → Same H H' := fun _ _ _ _ h => by rw [h.1]; exact Same.refl _
theorem ystr_same {z : Str} : ∀ (i : Nat) (H : Hp) (v : V) (H' : Hp), (H' = H ∧ ∃ c, z.cps[i]? = some c ∧ v = V.str ⟨#[c]⟩) → Same H H' := fun _ _ _ _ h => by rw [h.1]; exact Same.refl _
theorem yfn_same {f : Nat → V} : ∀ i H x H', YFn f i H x H' → Same H H' := fun _ _ _ _ h => by rw [h.1]; exact Same.refl _
theorem ypair_same {xs ys : Nat → Option V} : ∀ i H x H', YPair xs ys i H x H' → Same H H' := fun i H x H' h => by
  obtain ⟨T, a, b, _, h1, h2, _⟩ := h
  rw [h2]; exact same_new h1
theorem walk_zipT {K : PySem.W.Frag} {a b : Addr} {xs ys : List V} {n : Nat} (hn : n = min xs.length ys.length) : Walk (ItzT K a b) n (fun H => SqT K H a xs ∧ SqT K H b ys) (YPair (fun i => xs[i]?) (fun i => ys[i]?)) := by
  subst hn
  refine ⟨fun i _ hi q => ?_, fun _ q => ⟨xs, ys, q.1, q.2, by omega⟩, fun i H v H' _ q y => ?_⟩
  · have h1 : i < xs.length := by omega
    have h2 : i < ys.length := by omega
    exact ⟨xs, ys, xs[i], ys[i], q.1, q.2, by simp [h1], by simp [h2]⟩
  · obtain ⟨T, x, z, h1, h2, h3, h4, h5⟩ := y
    exact ⟨T, x, z, h1, h2, h3, h4 xs q.1, h5 ys q.2⟩
/-- [test of the sign for sign in a text] -/
theorem lc_signs {z : Str} {te : TE} {vs : List Nat} {σ : L2.St} {H1 : Hp} {D : Addr} {Qd : Hp → Prop} {i : Nat} (f : Nat → Bool) (hz : z.length < 16777216) (nD : H1 D = none)
    (hw : ∀ c, wipe ((wipe σ vs).set i (some (.str (S [c])))) vs = wipe σ vs)
    (hs : ∀ c H, c ∈ z.cps.toList → Same H1 H → ∀ Q : VK, (∀ H2, Same H H2 → Q (.bl (f c)) H2) → te ((wipe σ vs).set i (some (.str (S [c])))) H Q)
    (hd : ∀ H, Same H1 H → H D = some (.lst ((z.cps.toList.map f).map V.bl)) → Qd H) :
    ∃ W : Nat → Nat → Hp → Prop, (∃ m, W 0 m (upd H1 D (.lst []))) ∧ ∀ i' m H, W i' m H →
      ((Its z).stop i' H ∧ Qd H) ∨ ((Its z).go i' H ∧ ∃ Nx : Hp → Prop, (∀ H', Nx H' → ∃ m', m' < m ∧ W (i' + 1) m' H') ∧ ∀ x H', (Its z).yld i' H x H' → (gName i) x (wipe σ vs) H' fun σ2 H2 => wipe σ2 vs = wipe σ vs ∧ tYes σ2 H2 fun b H3 =>
        if b = true then te σ2 H3 fun y H4 => ∃ acc, H4 D = some (.lst acc) ∧ acc.length < sizeLine ∧ Nx (upd H4 D (.lst (acc ++ [y]))) else Nx H3) := by
  refine lc_map walk_str ((z.cps.toList.map f).map V.bl) (by simp) hz nD ystr_same (fun _ _ => trivial) (fun j x H H' y hj hy s1 s1' hY Q q => ?_) hd gName_mono
  obtain ⟨rfl, c, hc, rfl⟩ := hY
  have hc2 : z.cps.toList[j]? = some c := by rw [← hc]; simp
  have ey : y = .bl (f c) := by
    rw [List.getElem?_map, List.getElem?_map, hc2] at hy
    exact (Option.some.inj hy).symm
  subst ey
  exact ⟨hw c, hs c H' (List.mem_of_getElem? hc2) s1' Q q⟩
/-- sum of a tuple of whole numbers -/
def rSumT (K : PySem.W.Frag) : List V → Hp → VK → Prop := fun vs H Q => ∃ (a : Addr) (ns : List Int), vs = [V.ref a] ∧ SqT K H a (ns.map V.int) ∧ Q (.int ns.sum) H
theorem cr_sumT {X : Cx} (hc : X.calm = true) : CallR X (.builtin "sum") (rSumT X.K) := by
  intro pins s σ H vs us Q I r h
  obtain ⟨a, ns, rfl, hs, q⟩ := h
  obtain ⟨its, rv, hl, _⟩ := I.tuple hs
  rw [Vals.ref1 r]
  have hi : IntsAre its ns := rv.ints
  obtain ⟨xs, hx⟩ := hi.allInts.items
  have hn : numsOf its.toArray.toList = ns := by rw [show its.toArray.toList = its from rfl, hi.numsOf]
  rw [hx] at hl hn
  rw [nums_intItems] at hn
  refine PySem.W.ktm_sumG (I.ok.hd hc) hl fun h' tk t' hk => ?_
  rw [preSum_eq, List.take_of_length_le (by simp), hn]
  exact ⟨.int _, H, I.kept hk, ⟨_, rfl⟩, q⟩
end R
set_option maxRecDepth 100000
set_option maxHeartbeats 4000000
namespace R
open PySem PySem.Spec PyProof.Rows L2 RZ
open PySem.W (Datum)
open PySem.NumText
/-! ### numbers in figures -/
def dig (n : Nat) : List Nat := (Nat.toDigits 10 n).map Char.toNat
theorem dig_str (n : Nat) : Str.ofString (toString ((n : Nat) : Int)) = S (dig n) := by
  rw [S_of (Str.ofString _), PySem.W.KIN.signs_num]
  all_goals rfl
theorem dig_lt {n : Nat} (h : n < 10) : dig n = [48 + n] := by
  unfold dig
  rw [Nat.toDigits_of_lt_base h]
  have : ∀ n, n < 10 → (Nat.digitChar n).toNat = 48 + n := by decide
  rw [List.map_cons, this n h, List.map_nil]
theorem dig_step {n : Nat} (h : 10 ≤ n) : dig n = dig (n / 10) ++ [48 + n % 10] := by
  have hm : n % 10 < 10 := Nat.mod_lt n (by decide)
  have t : Nat.toDigits 10 (n / 10) ++ Nat.toDigits 10 (n % 10) = Nat.toDigits 10 (10 * (n / 10) + n % 10) := Nat.toDigits_append_toDigits (by decide) (by omega) hm
  rw [Nat.div_add_mod] at t
  have e := dig_lt hm
  unfold dig at e ⊢
  rw [← t, List.map_append, e]
theorem dig_len : ∀ (k n : Nat), n < 10 ^ (k + 1) → (dig n).length ≤ k + 1
  | 0, n, h => by rw [dig_lt (by simpa using h)]; exact Nat.le_refl _
  | k + 1, n, h => by
    by_cases h10 : n < 10
    · rw [dig_lt h10]; simp
    · rw [dig_step (by omega), List.length_append]
      have : n / 10 < 10 ^ (k + 1) := by
        rw [Nat.pow_succ] at h
        omega
      have := dig_len k (n / 10) this
      simp only [List.length_cons, List.length_nil]
      omega
theorem dig_pos : ∀ n : Nat, 1 ≤ (dig n).length := fun n => by
  by_cases h : n < 10
  · rw [dig_lt h]; exact Nat.le_refl _
  · rw [dig_step (by omega), List.length_append]; simp
theorem dig_all (n : Nat) : ∀ c ∈ dig n, 48 ≤ c ∧ c ≤ 57 := by
  induction n using Nat.strongRecOn with
  | _ n ih =>
    intro c hc
    by_cases h : n < 10
    · rw [dig_lt h, List.mem_singleton] at hc; omega
    · rw [dig_step (by omega), List.mem_append, List.mem_singleton] at hc
      rcases hc with hc | hc
      · exact ih (n / 10) (by omega) c hc
      · omega
theorem dv_snoc (l : List Nat) (c : Nat) : digitsVal (l ++ [c]) = digitsVal l * 10 + (c - 48) := by
  unfold digitsVal
  rw [List.foldl_append]
  all_goals rfl
theorem dig_val (n : Nat) : digitsVal (dig n) = n := PySem.W.KIN.val_back n
theorem dv_zeros : ∀ (k : Nat) (l : List Nat), digitsVal (List.replicate k 48 ++ l) = digitsVal l
  | 0, l => by simp
  | k + 1, l => by
    have := dv_zeros k l
    rw [List.replicate_succ, List.cons_append]
    unfold digitsVal at this ⊢
    rw [List.foldl_cons]
    exact this
/-- a number with so many figures -/
def fig (n m : Nat) : List Nat := List.replicate (m - (dig n).length) 48 ++ dig n
theorem fig_len {n m : Nat} (hm : 1 ≤ m) (h : n < 10 ^ m) : (fig n m).length = m := by
  obtain ⟨k, rfl⟩ : ∃ k, m = k + 1 := ⟨m - 1, by omega⟩
  have := dig_len k n h
  unfold fig
  rw [List.length_append, List.length_replicate]
  omega
theorem fig_all (n m : Nat) : ∀ c ∈ fig n m, 48 ≤ c ∧ c ≤ 57 := by
  intro c hc
  unfold fig at hc
  rw [List.mem_append, List.mem_replicate] at hc
  rcases hc with ⟨_, rfl⟩ | hc
  · decide
  · exact dig_all n c hc
theorem fig_val (n m : Nat) : digitsVal (fig n m) = n := by
  unfold fig
  rw [dv_zeros, dig_val]
theorem int_fig {l : List Nat} (h : ∀ c ∈ l, 48 ≤ c ∧ c ≤ 57) (h0 : l ≠ []) (h2 : l.length ≤ 600) : PySem.intText? (S l) = some ((digitsVal l : Nat) : Int) := by
  have e := @intText_digits (S l) (by rw [S_cps]; exact h) (by rw [S_cps]; exact h0) (by rw [S_len]; omega)
  rw [S_cps] at e
  exact e
/-- a name with blanks behind -/
def pad (l : List Nat) (m : Nat) : List Nat := l ++ List.replicate (m - l.length) 32
theorem pad_len {l : List Nat} {m : Nat} (h : l.length ≤ m) : (pad l m).length = m := by
  unfold pad
  rw [List.length_append, List.length_replicate]
  omega
/-- the blanks behind are taken off -/
def bareL (l : List Nat) : List Nat := (l.reverse.dropWhile (· == 32)).reverse
theorem bare_pad {l : List Nat} (m : Nat) (h : ∀ c ∈ l, c ≠ 32) : bareL (pad l m) = l := by
  unfold bareL pad
  rw [List.reverse_append, List.reverse_replicate]
  have h1 : ∀ (k : Nat) (r : List Nat), (∀ c ∈ r, c ≠ 32) → (List.replicate k 32 ++ r).dropWhile (· == 32) = r := by
    intro k
    induction k with
    | zero =>
      intro r hr
      cases r with
      | nil => rfl
      | cons x q =>
        have : x ≠ 32 := hr x List.mem_cons_self
        rw [List.replicate_zero, List.nil_append, List.dropWhile_cons_of_neg]
        simpa using this
    | succ k ih =>
      intro r hr
      rw [List.replicate_succ, List.cons_append, List.dropWhile_cons_of_pos (by decide)]
      exact ih r hr
  rw [h1 _ _ fun c hc => h c (List.mem_reverse.mp hc), List.reverse_reverse]
theorem bare_step {l : List Nat} (h : l.drop (l.length - 1) = [32]) : bareL l.dropLast = bareL l ∧ l.dropLast.length < l.length := by
  rcases List.eq_nil_or_concat l with rfl | ⟨i, c, rfl⟩
  · simp at h
  · rw [List.concat_eq_append] at h ⊢
    rw [show (i ++ [c]).length - 1 = i.length by simp, List.drop_left] at h
    cases h
    constructor
    · unfold bareL
      rw [List.dropLast_concat, List.reverse_append]
      show _ = (((32 : Nat) :: i.reverse).dropWhile (· == 32)).reverse
      rw [List.dropWhile_cons_of_pos (by decide)]
    · simp
theorem bare_stop {l : List Nat} (h : ¬ l.drop (l.length - 1) = [32]) : bareL l = l := by
  rcases List.eq_nil_or_concat l with rfl | ⟨i, c, rfl⟩
  · rfl
  · rw [List.concat_eq_append] at h ⊢
    rw [show (i ++ [c]).length - 1 = i.length by simp, List.drop_left] at h
    unfold bareL
    rw [List.reverse_append]
    show (((c : Nat) :: i.reverse).dropWhile (· == 32)).reverse = _
    rw [List.dropWhile_cons_of_neg (by simpa using h)]
    simp
theorem bare_len (l : List Nat) : (bareL l).length ≤ l.length := by
  unfold bareL
  rw [List.length_reverse]
  exact Nat.le_trans (List.Sublist.length_le (List.dropWhile_sublist _)) (by simp)
/-! ### labels -/
def longs : List Nat := [4, 4, 4, 2, 5, 5, 6]
def mosts : List Nat := [9999, 9999, 9999, 99, 99999, 99999, 999999]
def volLab (a b : List Nat) : List Nat := [86, 79, 76, 49] ++ pad a 6 ++ pad b 8
def numsLab (ns : List Nat) : List Nat := ((ns.zip longs).map fun p => fig p.1 p.2).flatten
def fileLab (k n f : List Nat) (ns : List Nat) : List Nat := k ++ pad n 8 ++ pad f 6 ++ numsLab ns
def formLab (l : List Nat) (b s : Nat) : List Nat := [72, 68, 82, 50] ++ l ++ fig b 3 ++ fig s 3
end R
set_option maxRecDepth 100000
set_option maxHeartbeats 4000000
namespace R
set_option exponentiation.threshold 2000
open PySem PySem.Spec PyProof.Rows L2 RZ
open PySem.W (Datum)
/-! ### the rules of texts, said of lists of signs -/
/-- a slice of a list of signs -/
def sl {α : Type} (l : List α) (lo hi : Option Int) : List α := (l.drop (HT.sIx l.length 0 lo)).take (HT.sIx l.length l.length hi - HT.sIx l.length 0 lo)
theorem sl_to {α : Type} (l : List α) (k : Nat) : sl l none (some (k : Int)) = l.take k := by
  unfold sl
  rw [HT.sIx_none, HT.sIx_nat, List.drop_zero, Nat.sub_zero]
  by_cases h : k ≤ l.length
  · rw [Nat.min_eq_left h]
  · rw [Nat.min_eq_right (by omega), List.take_length, List.take_of_length_le (by omega)]
theorem sl_from {α : Type} (l : List α) (k : Nat) : sl l (some (k : Int)) none = l.drop k := by
  unfold sl
  rw [HT.sIx_none, HT.sIx_nat]
  by_cases h : k ≤ l.length
  · rw [Nat.min_eq_left h, List.take_of_length_le (by rw [List.length_drop]; exact Nat.le_refl _)]
  · rw [Nat.min_eq_right (by omega), List.drop_length, List.drop_eq_nil_of_le (by omega), List.take_nil]
theorem sl_mid {α : Type} (l : List α) (j k : Nat) : sl l (some (j : Int)) (some (k : Int)) = (l.take k).drop j := by
  unfold sl
  rw [HT.sIx_nat, HT.sIx_nat, List.drop_take]
  by_cases hj : j ≤ l.length
  · rw [Nat.min_eq_left hj]
    by_cases hk : k ≤ l.length
    · rw [Nat.min_eq_left hk]
    · rw [show min k l.length = l.length by omega, List.take_of_length_le (by rw [List.length_drop]; omega), List.take_of_length_le (by rw [List.length_drop]; omega)]
  · rw [show min j l.length = l.length by omega, List.drop_length, List.drop_eq_nil_of_le (by omega), List.take_nil, List.take_nil]
theorem sl_all {α : Type} (l : List α) : sl l none none = l := by
  unfold sl
  rw [HT.sIx_none, HT.sIx_none, List.drop_zero, Nat.sub_zero, List.take_length]
theorem sl_last {α : Type} (l : List α) : sl l (some (-1)) none = l.drop (l.length - 1) := by
  unfold sl
  rw [HT.sIx_none]
  have e : HT.sIx l.length 0 (some (-1)) = l.length - 1 := by
    show (if (-1 : Int) < 0 then ((-1 : Int) + (l.length : Int)).toNat else min (-1 : Int).toNat l.length) = _
    rw [if_pos (by decide)]
    omega
  rw [e, List.take_of_length_le (by rw [List.length_drop]; omega)]
theorem sl_but {α : Type} (l : List α) : sl l none (some (-1)) = l.dropLast := by
  unfold sl
  rw [HT.sIx_none, List.drop_zero, Nat.sub_zero]
  have e : HT.sIx l.length l.length (some (-1)) = l.length - 1 := by
    show (if (-1 : Int) < 0 then ((-1 : Int) + (l.length : Int)).toNat else min (-1 : Int).toNat l.length) = _
    rw [if_pos (by decide)]
    omega
  rw [e, List.dropLast_eq_take]
theorem cutS_S (l : List Nat) (lo hi : Option Int) : cutS (S l) lo hi = S (sl l lo hi) := S_sl l lo hi
theorem sl_le {α : Type} (l : List α) (lo hi : Option Int) : (sl l lo hi).length ≤ l.length := by
  unfold sl
  rw [List.length_take, List.length_drop]
  omega
section
variable {X : Cx}
theorem pe_strS {x : Str} {l : List Nat} {j : Nat} {pos : Pos} (h : x = S l) : PE X (.Constant (.str x) j pos) (tC (.str (S l))) := by
  subst h; exact pe_str
def rAddS2 : R2 := fun x y H Q => ∃ a b : List Nat, x = .str (S a) ∧ y = .str (S b) ∧ a.length + b.length ≤ 16777216 ∧ Q (.str (S (a ++ b))) H
theorem op_addS : OpR X (binaryOp .Add) rAddS2 := fun pins s σ H x y v u Q I rx ry h => by
  obtain ⟨a, b, rfl, rfl, hz, q⟩ := h
  refine op_add_str pins s σ H _ _ v u Q I rx ry ⟨_, _, rfl, rfl, ?_, ?_⟩
  · rw [S_len, S_len]; exact sz hz
  · rw [S_app]; exact q
theorem ip_addS : PIp X .Add rAddS2 := fun pins s σ H x y v u Q I rx ry h => by
  obtain ⟨a, b, rfl, rfl, hz, q⟩ := h
  refine iop_add_str pins s σ H _ _ v u Q I rx ry ⟨_, _, rfl, rfl, ?_, ?_⟩
  · rw [S_len, S_len]; exact sz hz
  · rw [S_app]; exact q
def rMulS2 : R2 := fun x y H Q => ∃ (c : Nat) (i : Int), x = .str (S [c]) ∧ y = .int i ∧ -1000000 < i ∧ i < 1000000 ∧ Q (.str (S (List.replicate i.toNat c))) H
theorem op_mulS : OpR X (binaryOp .Mult) rMulS2 := fun pins s σ H x y v u Q I rx ry h => by
  obtain ⟨c, i, rfl, rfl, lo, hi, q⟩ := h
  exact op_mul_str pins s σ H _ _ v u Q I rx ry ⟨_, _, rfl, rfl, rfl, lo, hi, q⟩
def rLenS2 : List V → Hp → VK → Prop := fun xs H Q => ∃ l : List Nat, xs = [.str (S l)] ∧ l.length ≤ 16777216 ∧ Q (.int (l.length : Nat)) H
theorem call_lenS : CallR X (.builtin "len") rLenS2 := fun pins s σ H xs us Q I r h => by
  obtain ⟨l, rfl, hz, q⟩ := h
  refine call_len_str pins s σ H _ us Q I r ⟨_, rfl, ?_, ?_⟩
  · rw [S_len]; exact sz hz
  · rw [S_len]; exact q
def rStrN : List V → Hp → VK → Prop := fun xs H Q => ∃ n : Nat, xs = [.int (n : Int)] ∧ n < 10 ^ 10 ∧ Q (.str (S (dig n))) H
theorem call_strN : CallR X (.type "str") rStrN := fun pins s σ H xs us Q I r h => by
  obtain ⟨n, rfl, hn, q⟩ := h
  refine call_str_int pins s σ H _ us Q I r ⟨_, rfl, ?_, ?_⟩
  · have e : ((n : Int)).natAbs = n := rfl
    rw [e]
    by_cases h0 : n = 0
    · subst h0; decide
    · rw [Nat.log2_lt h0]
      exact Nat.lt_of_lt_of_le hn (Nat.le_trans (show 10 ^ 10 ≤ 2 ^ 64 by decide) (Nat.pow_le_pow_right (by decide : 0 < 2) (by decide : 64 ≤ 1920)))
  · have := dig_str n
    rw [← this] at q
    exact q
def rIntS : List V → Hp → VK → Prop := fun xs H Q => ∃ l : List Nat, xs = [.str (S l)] ∧ (∀ c ∈ l, 48 ≤ c ∧ c ≤ 57) ∧ l ≠ [] ∧ l.length ≤ 600 ∧ Q (.int (PySem.NumText.digitsVal l : Nat)) H
theorem call_intS : CallR X (.type "int") rIntS := fun pins s σ H xs us Q I r h => by
  obtain ⟨l, rfl, h1, h2, h3, q⟩ := h
  exact call_int_str pins s σ H _ us Q I r ⟨_, _, rfl, int_fig h1 h2 h3, by rw [S_len]; omega, q⟩
def rSlS2 : V → Option Int → Option Int → Hp → VK → Prop := fun x lo hi H Q => ∃ l : List Nat, x = .str (S l) ∧ l.length ≤ 16777216 ∧ Q (.str (S (sl l lo hi))) H
theorem sl_strS : SlR X rSlS2 := fun pins s σ H x v vl vu lo hi q0 Q I rx hs pl pu h => by
  obtain ⟨l, rfl, hz, q⟩ := h
  refine sl_str pins s σ H _ v vl vu lo hi q0 Q I rx hs pl pu ⟨_, rfl, ?_, ?_⟩
  · rw [S_len]; exact sz hz
  · rw [cutS_S]; exact q
def rInS2 (neg : Bool) : R2 := fun x y H Q => ∃ (c : Nat) (l : List Nat), x = .str (S [c]) ∧ y = .str (S l) ∧ Q (.bl (if neg then !decide (c ∈ l) else decide (c ∈ l))) H
theorem op_inS2 : OpR X (compareOp .In) (rInS2 false) := fun pins s σ H x y v u Q I rx ry h => by
  obtain ⟨c, l, rfl, rfl, q⟩ := h
  refine op_in_sign pins s σ H _ _ v u Q I rx ry ⟨c, S l, rfl, rfl, ?_⟩
  rw [S_cps]; exact q
theorem op_notInS2 : OpR X (compareOp .NotIn) (rInS2 true) := fun pins s σ H x y v u Q I rx ry h => by
  obtain ⟨c, l, rfl, rfl, q⟩ := h
  refine op_notIn_sign pins s σ H _ _ v u Q I rx ry ⟨c, S l, rfl, rfl, ?_⟩
  rw [S_cps]; exact q
def rEqS (neg : Bool) : R2 := fun x y H Q => ∃ a b : List Nat, x = .str (S a) ∧ y = .str (S b) ∧ Q (.bl (if neg then !decide (a = b) else decide (a = b))) H
theorem eqS_dec (a b : List Nat) : decide (V.str (S a) = V.str (S b)) = decide (a = b) := decide_eq_decide.mpr ⟨fun e => S_inj.mp (V.str.inj e), fun e => by rw [e]⟩
theorem op_eqS : OpR X (compareOp .Eq) (rEqS false) := fun pins s σ H x y v u Q I rx ry h => by
  obtain ⟨a, b, rfl, rfl, q⟩ := h
  refine op_eq pins s σ H _ _ v u Q I rx ry ⟨rfl, ?_⟩
  rw [eqS_dec]; exact q
theorem op_neS : OpR X (compareOp .NotEq) (rEqS true) := fun pins s σ H x y v u Q I rx ry h => by
  obtain ⟨a, b, rfl, rfl, q⟩ := h
  refine op_ne pins s σ H _ _ v u Q I rx ry ⟨rfl, ?_⟩
  rw [eqS_dec]; exact q
def rIxS2 : R2 := fun x y H Q => ∃ (l : List Nat) (i : Int) (c : Nat), x = .str (S l) ∧ y = .int i ∧ l.length ≤ 16777216 ∧ atI l i = some c ∧ Q (.str (S [c])) H
theorem ix_strS : IxR X rIxS2 := fun value slice pins s σ H x y v u Q I rx ry h hs => by
  obtain ⟨l, i, c, rfl, rfl, hz, he, q⟩ := h
  exact ix_str value slice pins s σ H _ _ v u Q I rx ry ⟨S l, i, c, rfl, rfl, by rw [S_len]; exact sz hz, by rw [S_cps]; exact he, q⟩ hs
def rLeS : R2 := fun x y H Q => ∃ a b : List Nat, x = .str (S a) ∧ y = .str (S b) ∧ Q (.bl (!decide (b < a))) H
theorem op_leS : OpR X (compareOp .LtE) rLeS := fun pins s σ H x y v u Q I rx ry h => by
  obtain ⟨a, b, rfl, rfl, q⟩ := h
  refine op_le_str pins s σ H _ _ v u Q I rx ry ⟨_, _, rfl, rfl, ?_⟩
  rw [S_cps, S_cps]; exact q
theorem op_geS : OpR X (compareOp .GtE) (fun x y H Q => ∃ a b : List Nat, x = .str (S a) ∧ y = .str (S b) ∧ Q (.bl (!decide (a < b))) H) := fun pins s σ H x y v u Q I rx ry h => by
  obtain ⟨a, b, rfl, rfl, q⟩ := h
  refine op_ge_str pins s σ H _ _ v u Q I rx ry ⟨_, _, rfl, rfl, ?_⟩
  rw [S_cps, S_cps]; exact q
end
theorem str_app_cps (a b : Str) : (a ++ b).cps.toList = a.cps.toList ++ b.cps.toList := by
  rw [S_of a, S_of b, S_app, S_cps, S_cps, S_cps]
theorem join_nil : ∀ ls : List (List Nat), Str.join (S []) (ls.map S) = S ls.flatten
  | [] => rfl
  | [l] => by
    show S l = S (l ++ [])
    rw [List.append_nil]
  | l :: m :: r => by
    have ih := join_nil (m :: r)
    show S l ++ S [] ++ Str.join (S []) ((m :: r).map S) = _
    rw [ih, S_app, S_app, List.append_nil]
    all_goals rfl
theorem sum_lens (ls : List (List Nat)) : ((ls.map S).map (·.length)).sum = ls.flatten.length := by
  rw [List.length_flatten, List.map_map]
  rfl
section
variable {X : Cx}
/-- "".join of a list of texts -/
def rJoinS (K : PySem.W.Frag) : V → List V → Hp → VK → Prop := fun x xs H Q => ∃ (p : Addr) (ls : List (List Nat)), x = .str (S []) ∧ xs = [.ref p] ∧ SqL K H p (ls.map fun l => V.str (S l)) ∧ ls.flatten.length ≤ 16777216 ∧ Q (.str (S ls.flatten)) H
theorem mt_joinS : MtR X "str.join" (rJoinS X.K) := fun pins s σ H x xs v us Q I rx rs h => by
  obtain ⟨p, ls, rfl, rfl, hp, hz, q⟩ := h
  refine mt_join pins s σ H _ _ v us Q I rx rs ⟨S [], p, ls.map S, rfl, rfl, .inl ?_, ?_, ?_⟩
  · rw [List.map_map]; exact hp
  · rw [sum_lens, S_len]
    simpa using hz
  · rw [TL.join_eq, join_nil]; exact q
theorem pe_joinS {o e : Expr} {to te : TE} {apos pos : Pos} (ho : PE X o to) (he : PE X e te) (hs : starEach [e] X.env = [(false, eval e X.env)] := by rfl) (hbase : attributeBase o "join" X.env (eval o X.env) = eval o X.env := by rfl) (hline : (apos.endLine == pos.line) = true := by rfl) :
    PE X (.Call (.Attribute o "join" apos) [e] [] pos) (tM1 (rJoinS X.K) to te) :=
  pe_m1 F.slot_str_join F.type_str_join mt_joinS ho he hs hbase hline
end
end R
set_option maxRecDepth 100000
set_option maxHeartbeats 4000000
namespace R
open PySem PySem.Spec PyProof.Rows L2 RZ
open PySem.W (Datum)
/-! ### lists of texts that grow -/
def txs (ls : List (List Nat)) : List V := ls.map fun l => V.str (S l)
theorem strs_len (ls : List (List Nat)) : (txs ls).length = ls.length := List.length_map _
theorem strs_app (ls ms : List (List Nat)) : txs (ls ++ ms) = txs ls ++ txs ms := List.map_append
theorem strs_get {ls : List (List Nat)} {i : Nat} {x : V} (h : (txs ls)[i]? = some x) : ∃ l, ls[i]? = some l ∧ x = .str (S l) := by
  unfold txs at h
  rw [List.getElem?_map] at h
  cases e : ls[i]? with
  | none => rw [e] at h; cases h
  | some l => rw [e] at h; exact ⟨l, rfl, (Option.some.inj h).symm⟩
theorem strs_S (ls : List (List Nat)) : txs ls = (ls.map S).map V.str := by
  unfold txs
  rw [List.map_map]
  all_goals rfl
theorem map_S_inj : ∀ {ls ms : List (List Nat)}, ls.map S = ms.map S → ls = ms
  | [], [], _ => rfl
  | [], _ :: _, h => by cases h
  | _ :: _, [], h => by cases h
  | a :: r, b :: t, h => by
    rw [List.map_cons, List.map_cons, List.cons.injEq] at h
    rw [S_inj.mp h.1, map_S_inj h.2]
theorem dp_strs2 {K : PySem.W.Frag} {H : Hp} {a : Addr} {ls : List (List Nat)} (h : SqL K H a (txs ls)) : Dp K H (.ref a) (Datum.toD (ls.map S)) := dp_strsL (by rw [← strs_S]; exact h)
theorem eq_strs {K : PySem.W.Frag} {H : Hp} {a b : Addr} {ls ms : List (List Nat)} {Q : VK} (h1 : SqL K H a (txs ls)) (h2 : SqL K H b (txs ms)) (q : Q (.bl (decide (ls = ms))) H) : rEqP K (.ref a) (.ref b) H Q := by
  refine rEqP_of (dp_strs2 h1) (dp_strs2 h2) ?_
  rw [show decide (ls.map S = ms.map S) = decide (ls = ms) from decide_eq_decide.mpr ⟨map_S_inj, fun e => by rw [e]⟩]
  exact q
theorem ne_strs {K : PySem.W.Frag} {H : Hp} {a b : Addr} {ls ms : List (List Nat)} {Q : VK} (h1 : SqL K H a (txs ls)) (h2 : SqL K H b (txs ms)) (q : Q (.bl (!decide (ls = ms))) H) : rNeP K (.ref a) (.ref b) H Q := by
  refine rNeP_of (dp_strs2 h1) (dp_strs2 h2) ?_
  rw [show decide (ls.map S = ms.map S) = decide (ls = ms) from decide_eq_decide.mpr ⟨map_S_inj, fun e => by rw [e]⟩]
  exact q
/-- a list that was new at H0 has grown to xs; all older is as it was -/
def Grow (H0 : Hp) (p : Addr) (H : Hp) (xs : List V) : Prop := H0 p = none ∧ Same H0 H ∧ H p = some (.lst xs)
section
variable {H0 H H' : Hp} {p q : Addr} {xs ys : List V} {o : HO}
theorem Grow.start (n : H0 p = none) : Grow H0 p (upd H0 p (.lst xs)) xs := ⟨n, same_new n, upd_same⟩
theorem Grow.set (g : Grow H0 p H xs) : Grow H0 p (upd H p (.lst ys)) ys := ⟨g.1, fun b o e => by rw [upd_ne (ne_of_none e g.1)]; exact g.2.1 b o e, upd_same⟩
theorem Grow.new (g : Grow H0 p H xs) (n : H q = none) : Grow H0 p (upd H q o) xs := ⟨g.1, g.2.1.trans (same_new n), by rw [upd_ne (ne_of_none g.2.2 n)]; exact g.2.2⟩
theorem Grow.same (g : Grow H0 p H xs) (s : Same H H') : Grow H0 p H' xs := ⟨g.1, g.2.1.trans s, s _ _ g.2.2⟩
end
theorem ixN_last {α : Type} (xs : List α) (v : α) : ixN (xs ++ [v]).length (-1) = some xs.length := by
  unfold ixN
  rw [if_neg (by decide), List.length_append, if_pos (by rw [List.length_singleton]; omega), List.length_singleton]
  congr 1
  omega
theorem set_last {α : Type} (xs : List α) (v w : α) : (xs ++ [v]).set xs.length w = xs ++ [w] := by
  rw [List.set_append_right _ _ (Nat.le_refl _), Nat.sub_self]
  rfl
section
variable {X : Cx}
/-- list[i], by values -/
theorem pget_list : PGet X (rIxL X.K) := by
  intro pins s σ H x y v u Q I rx ry h
  obtain ⟨p, xs, i, z, rfl, rfl, hq, he, q⟩ := h
  cases rx
  obtain ⟨t, rfl⟩ := ry
  obtain ⟨its, r, pl, hz⟩ := I.list hq
  obtain ⟨j, h1, h2, h3, h4, h5⟩ := atI_get he
  obtain ⟨w, ew, rw'⟩ := r.get h2
  have hl := r.length
  have hn := line63
  have fin : EP X pins σ Q w s := ⟨z, H, I, rw', q⟩
  by_cases h0 : 0 ≤ i
  · have hj : i.toNat = j := by
      rw [seqIndex_of h0 h5] at h1
      exact Option.some.inj h1
    exact wpAny_getItem_list pl.isList h0 (by omega) (by rw [hj]; simpa using ew) fin
  · have hj : (i + (its.toArray.size : Int)).toNat = j := by
      rw [seqIndex_neg (by omega) h4] at h1
      rw [List.size_toArray, ← hl]
      exact Option.some.inj h1
    exact wpAny_getItem_list_neg pl.isList (by omega) (by rw [List.size_toArray] <;> omega) (by omega) (by rw [hj]; simpa using ew) fin
/-- a list's item op= e -/
theorem ps_augL {o i e : Expr} {to ti te : TE} {tip : TIp} {op : Operator} {tpos pos : Pos} (ho : PE X o to) (hi : PE X i ti) (he : PE X e te) (hp : PIp X op tip) (ha : ∀ ov iv new, augStore i ov iv new = (do holding [new, ov, iv] (setItem ov iv new); release [new, ov, iv] []; pure .next) := by intros; rfl) : PS X (.AugAssign (.Subscript o i tpos) op e pos) (tAugS to ti te (rIxL X.K) tip rSetL) := ps_augS ho hi pget_list he hp set_list ha
end
/-! ### within comprehensions: K told from outside -/
theorem call_isiC {X : Cx} {K : PySem.W.Frag} (h : X.K = K) : CallR X (.builtin "isinstance") (rIsi K) := by subst h; exact call_isi
theorem pi_listC {X : Cx} {K : PySem.W.Frag} {tg l : Expr} {tl : TE} (h : X.K = K) (hl : PE X l tl) : PI X tg l (iList K tl) := by subst h; exact pi_list hl
theorem pi_tupC {X : Cx} {K : PySem.W.Frag} {tg l : Expr} {tl : TE} (h : X.K = K) (hl : PE X l tl) : PI X tg l (iTup K tl) := by subst h; exact pi_tup hl
theorem ix_listC {X : Cx} {K : PySem.W.Frag} (h : X.K = K) : IxR X (rIxL K) := by subst h; exact ix_list
theorem ix_tupC {X : Cx} {K : PySem.W.Frag} (h : X.K = K) : IxR X (rIxT K) := by subst h; exact ix_tup
theorem op_eqPC {X : Cx} {K : PySem.W.Frag} (h : X.K = K) (hu : X.A.units + 64 < cLine) : OpR X (compareOp .Eq) (rEqP K) := by subst h; exact op_eqP hu
theorem op_nePC {X : Cx} {K : PySem.W.Frag} (h : X.K = K) (hu : X.A.units + 64 < cLine) : OpR X (compareOp .NotEq) (rNeP K) := by subst h; exact op_neP hu
/-! ### values that may be texts -/
inductive Item (K : PySem.W.Frag) (H : Hp) : V → Option (List Nat) → Prop
  | str (l : List Nat) (h : l.length < 16777216) : Item K H (.str (S l)) (some l)
  | no {x : V} {n : String} (h : Pl K H x n) (hn : (n == "str") = false) : Item K H x none
theorem Item.pl {K : PySem.W.Frag} {H : Hp} {x : V} {r : Option (List Nat)} (h : Item K H x r) : ∃ n, Pl K H x n ∧ (n == "str") = r.isSome := by
  cases h with
  | str l h => exact ⟨"str", .str _, rfl⟩
  | no h hn => exact ⟨_, h, hn⟩
theorem Item.same {K : PySem.W.Frag} {H H' : Hp} {x : V} {r : Option (List Nat)} (h : Item K H x r) (s : Same H H') : Item K H' x r := by
  cases h with
  | str l h => exact .str l h
  | no h hn => exact .no (h.same s) hn
inductive Items (K : PySem.W.Frag) (H : Hp) : List V → List (Option (List Nat)) → Prop
  | nil : Items K H [] []
  | cons {x : V} {xs : List V} {r : Option (List Nat)} {rs : List (Option (List Nat))} (h : Item K H x r) (t : Items K H xs rs) : Items K H (x :: xs) (r :: rs)
theorem Items.len {K : PySem.W.Frag} {H : Hp} : ∀ {xs : List V} {rs : List (Option (List Nat))}, Items K H xs rs → xs.length = rs.length
  | _, _, .nil => rfl
  | _, _, .cons _ t => by rw [List.length_cons, List.length_cons, t.len]
theorem Items.get {K : PySem.W.Frag} {H : Hp} : ∀ {xs : List V} {rs : List (Option (List Nat))} {i : Nat} {x : V}, Items K H xs rs → xs[i]? = some x → ∃ r, rs[i]? = some r ∧ Item K H x r
  | _, _, 0, _, .cons h _, e => by cases e; exact ⟨_, rfl, h⟩
  | _, _, i + 1, _, .cons _ t, e => t.get (i := i) (by simpa using e)
  | _, _, _, _, .nil, e => by simp at e
theorem Items.same {K : PySem.W.Frag} {H H' : Hp} : ∀ {xs : List V} {rs : List (Option (List Nat))}, Items K H xs rs → Same H H' → Items K H' xs rs
  | _, _, .nil, _ => .nil
  | _, _, .cons h t, s => .cons (h.same s) (t.same s)
theorem Items.ofs {K : PySem.W.Frag} {H : Hp} : ∀ {ls : List (List Nat)}, (∀ l ∈ ls, l.length < 16777216) → Items K H (txs ls) (ls.map some)
  | [], _ => .nil
  | l :: r, h => .cons (.str l (h l List.mem_cons_self)) (Items.ofs fun m hm => h m (List.mem_cons_of_mem _ hm))
/-- a value that may be a list of texts -/
inductive Recs (K : PySem.W.Frag) (H : Hp) : V → Option (List (Option (List Nat))) → Prop
  | no {x : V} {n : String} (h : Pl K H x n) (hn : (n == "list") = false) : Recs K H x none
  | lst {a : Addr} {xs : List V} {rs : List (Option (List Nat))} (h : SqL K H a xs) (hi : Items K H xs rs) (hz : xs.length < 16777216) : Recs K H (.ref a) (some rs)
theorem Recs.pl {K : PySem.W.Frag} {H : Hp} {x : V} {r : Option (List (Option (List Nat)))} (h : Recs K H x r) : ∃ n, Pl K H x n ∧ (n == "list") = r.isSome := by
  cases h with
  | no h hn => exact ⟨_, h, hn⟩
  | lst h hi hz => exact ⟨"list", .lst h, rfl⟩
theorem Recs.ofs {K : PySem.W.Frag} {H : Hp} {a : Addr} {ls : List (List Nat)} (h : SqL K H a (txs ls)) (h1 : ls.length < 16777216) (h2 : ∀ l ∈ ls, l.length < 16777216) : Recs K H (.ref a) (some (ls.map some)) := .lst h (.ofs h2) (by rw [strs_len]; exact h1)
/-- [test of the item for item in a list] -/
theorem lc_items {K : PySem.W.Frag} {a : Addr} {xs : List V} {rs : List (Option (List Nat))} {te : TE} {vs : List Nat} {σ : L2.St} {H1 : Hp} {D : Addr} {Qd : Hp → Prop} {i : Nat} (f : Option (List Nat) → Bool) (hS : SqL K H1 a xs) (hi : Items K H1 xs rs) (hz : xs.length < 16777216) (nD : H1 D = none)
    (hw : ∀ x, wipe ((wipe σ vs).set i (some x)) vs = wipe σ vs)
    (hs : ∀ x r H, r ∈ rs → Item K H x r → Same H1 H → ∀ Q : VK, (∀ H2, Same H H2 → Q (.bl (f r)) H2) → te ((wipe σ vs).set i (some x)) H Q)
    (hd : ∀ H, Same H1 H → H D = some (.lst ((rs.map f).map V.bl)) → Qd H) :
    ∃ W : Nat → Nat → Hp → Prop, (∃ m, W 0 m (upd H1 D (.lst []))) ∧ ∀ i' m H, W i' m H →
      ((Itl K a).stop i' H ∧ Qd H) ∨ ((Itl K a).go i' H ∧ ∃ Nx : Hp → Prop, (∀ H', Nx H' → ∃ m', m' < m ∧ W (i' + 1) m' H') ∧ ∀ x H', (Itl K a).yld i' H x H' → (gName i) x (wipe σ vs) H' fun σ2 H2 => wipe σ2 vs = wipe σ vs ∧ tYes σ2 H2 fun b H3 =>
        if b = true then te σ2 H3 fun y H4 => ∃ acc, H4 D = some (.lst acc) ∧ acc.length < sizeLine ∧ Nx (upd H4 D (.lst (acc ++ [y]))) else Nx H3) := by
  refine lc_map (walk_list (xs := xs)) ((rs.map f).map V.bl) (by rw [List.length_map, List.length_map, hi.len]) hz nD yat_same (fun _ s => sql_same hS s) (fun j x H H' y hj hy s1 s1' hY Q q => ?_) hd gName_mono
  obtain ⟨rfl, hx⟩ := hY
  obtain ⟨r, hr, hI⟩ := hi.get hx
  have ey : y = .bl (f r) := by
    rw [List.getElem?_map, List.getElem?_map, hr] at hy
    exact (Option.some.inj hy).symm
  subst ey
  exact ⟨hw x, hs x r H' (List.mem_of_getElem? hr) (hI.same s1') s1' Q q⟩
/-- [text of the text for text in a list of texts] -/
theorem lc_strs {K : PySem.W.Frag} {a : Addr} {ls : List (List Nat)} {te : TE} {vs : List Nat} {σ : L2.St} {H1 : Hp} {D : Addr} {Qd : Hp → Prop} {i : Nat} (f : List Nat → List Nat) (hS : SqL K H1 a (txs ls)) (hz : ls.length < 16777216) (nD : H1 D = none)
    (hw : ∀ x, wipe ((wipe σ vs).set i (some x)) vs = wipe σ vs)
    (hs : ∀ l H, l ∈ ls → Same H1 H → ∀ Q : VK, (∀ H2, Same H H2 → Q (.str (S (f l))) H2) → te ((wipe σ vs).set i (some (.str (S l)))) H Q)
    (hd : ∀ H, Same H1 H → H D = some (.lst (txs (ls.map f))) → Qd H) :
    ∃ W : Nat → Nat → Hp → Prop, (∃ m, W 0 m (upd H1 D (.lst []))) ∧ ∀ i' m H, W i' m H →
      ((Itl K a).stop i' H ∧ Qd H) ∨ ((Itl K a).go i' H ∧ ∃ Nx : Hp → Prop, (∀ H', Nx H' → ∃ m', m' < m ∧ W (i' + 1) m' H') ∧ ∀ x H', (Itl K a).yld i' H x H' → (gName i) x (wipe σ vs) H' fun σ2 H2 => wipe σ2 vs = wipe σ vs ∧ tYes σ2 H2 fun b H3 =>
        if b = true then te σ2 H3 fun y H4 => ∃ acc, H4 D = some (.lst acc) ∧ acc.length < sizeLine ∧ Nx (upd H4 D (.lst (acc ++ [y]))) else Nx H3) := by
  refine lc_map (walk_list (xs := txs ls)) (txs (ls.map f)) (by rw [strs_len, strs_len, List.length_map]) (by rw [strs_len]; exact hz) nD yat_same (fun _ s => sql_same hS s) (fun j x H H' y hj hy s1 s1' hY Q q => ?_) hd gName_mono
  obtain ⟨rfl, hx⟩ := hY
  obtain ⟨l, hl, rfl⟩ := strs_get hx
  have ey : y = .str (S (f l)) := by
    obtain ⟨m, hm, rfl⟩ := strs_get hy
    rw [List.getElem?_map, hl] at hm
    rw [← Option.some.inj hm]
  subst ey
  exact ⟨hw _, hs l H' (List.mem_of_getElem? hl) s1' Q q⟩
/-- [text for text in texts if a test of it] -/
theorem lc_filter {K : PySem.W.Frag} {a : Addr} {ls : List (List Nat)} {tt : TT} {vs : List Nat} {σ : L2.St} {H1 : Hp} {D : Addr} {Qd : Hp → Prop} {i : Nat} (f : List Nat → Bool) (hS : SqL K H1 a (txs ls)) (hz : ls.length < 16777216) (nD : H1 D = none)
    (hw : ∀ x, wipe ((wipe σ vs).set i (some x)) vs = wipe σ vs) (hg : ∀ x, ((wipe σ vs).set i (some x))[i]? = some (some x))
    (hs : ∀ l H, l ∈ ls → Same H1 H → ∀ Q : Bool → Hp → Prop, (∀ H2, Same H H2 → Q (f l) H2) → tt ((wipe σ vs).set i (some (.str (S l)))) H Q)
    (hd : ∀ H, Same H1 H → H D = some (.lst (txs (ls.filter f))) → Qd H) :
    ∃ W : Nat → Nat → Hp → Prop, (∃ m, W 0 m (upd H1 D (.lst []))) ∧ ∀ i' m H, W i' m H →
      ((Itl K a).stop i' H ∧ Qd H) ∨ ((Itl K a).go i' H ∧ ∃ Nx : Hp → Prop, (∀ H', Nx H' → ∃ m', m' < m ∧ W (i' + 1) m' H') ∧ ∀ x H', (Itl K a).yld i' H x H' → (gName i) x (wipe σ vs) H' fun σ2 H2 => wipe σ2 vs = wipe σ vs ∧ tt σ2 H2 fun b H3 =>
        if b = true then tVar i σ2 H3 fun y H4 => ∃ acc, H4 D = some (.lst acc) ∧ acc.length < sizeLine ∧ Nx (upd H4 D (.lst (acc ++ [y]))) else Nx H3) := by
  refine lc_it (walk_list (xs := txs ls)) (fun i H => Same H1 H ∧ H D = some (.lst (txs ((ls.take i).filter f)))) ⟨same_new nD, upd_same⟩ (fun i H _ p => sql_same hS p.1) (fun j x H H' hj p y => ?_) (fun H p => hd H p.1 (by rw [strs_len, List.take_length] at p; exact p.2))
  obtain ⟨rfl, hx⟩ := y
  obtain ⟨l, hl, rfl⟩ := strs_get hx
  rw [strs_len] at hj
  have ht : (ls.take (j + 1)).filter f = (ls.take j).filter f ++ (if f l = true then [l] else []) := by
    rw [List.take_add_one, hl, Option.toList_some, List.filter_append]
    cases hb : f l with
    | true => rw [List.filter_cons_of_pos hb]; rfl
    | false => rw [List.filter_cons_of_neg (by rw [hb]; exact Bool.false_ne_true)]; rfl
  refine ⟨hw _, hs l H' (List.mem_of_getElem? hl) p.1 _ fun H2 s2 => ?_⟩
  have hD2 : H2 D = some (.lst (txs ((ls.take j).filter f))) := s2 _ _ p.2
  cases hb : f l with
  | true =>
    rw [hb, if_pos rfl] at ht
    refine iteT ⟨_, hg _, _, hD2, szl ?_, ?_, ?_⟩
    · rw [strs_len]
      have := List.length_filter_le f (ls.take j)
      rw [List.length_take] at this
      omega
    · intro b o hbo
      rw [upd_ne (ne_of_none hbo nD)]
      exact s2 _ _ (p.1 _ _ hbo)
    · rw [upd_same, ht, strs_app]
      rfl
  | false =>
    rw [hb, if_neg Bool.false_ne_true, List.append_nil] at ht
    refine iteF ⟨p.1.trans s2, ?_⟩
    rw [ht]
    exact hD2
end R
set_option maxRecDepth 100000
set_option maxHeartbeats 4000000
namespace R
open PySem PySem.Spec PyProof.Rows L2 RZ
/-! ### an exception that is kept beyond its suite -/
/-- at a stands an exception of the class at D -/
def KeptE (D a : Addr) : HO := .ext fun h => ∃ oe : Obj, PySem.W.InstAt h a oe D none
theorem keptE_ok {P : Program} {w : World} {H : Hp} {h : Heap} {a D : Addr} {oe : Obj} (i : PySem.W.InstAt h a oe D none) : ObjOk P w H h a (KeptE D a) := by
  refine ⟨⟨oe, i⟩, ⟨oe, i.at_⟩, ?_⟩
  rintro h1 h2 ⟨o, j⟩ k
  refine ⟨o, k o j.at_, j.cls, j.no, ?_⟩
  have q := j.dict
  revert q
  cases o.dict <;> exact id
section
variable {X : Cx} {pins : List (Addr × Obj)} {σ : L2.St} {H : Hp} {s : Shared}
theorem inv_track {a D : Addr} {oe : Obj} {vs : Array Value} (I : Inv X pins σ H s) (i : PySem.W.InstAt s.heap a oe D none) (hd : oe.data = .fields vs) (old : X.s_0.heap.get? a = none) (na : H a = none) (nl : a ≠ X.env.locals)
    (np : ∀ p ∈ X.pn ++ pins, p.1 ≠ a) : Inv X pins σ (upd H a (KeptE D a)) s := by
  have cells : ∀ y c, X.env.cells.lookup y = some c → c ≠ a := by
    rintro y c e rfl
    obtain ⟨v, o, ho, hv⟩ := I.cell y c e
    rw [i.at_] at ho
    cases ho
    rw [hd] at hv
    cases hv
  have un : Un X.fs X.ex X.H_0 (upd H a (KeptE D a)) X.s_0.heap s.heap :=
    { keep := I.base.keep
      slot := I.base.slot
      there := I.base.there
      free := fun b o e n hx => by
        have nb : b ≠ a := by
          rintro rfl
          rw [old] at e
          cases e
        exact (upd_ne nb).trans (I.base.free b o e n hx)
      tups := fun b xs e => (upd_ne (ne_of_none (I.base.tups b xs e) na)).trans (I.base.tups b xs e)
      frzs := fun b o u e => (upd_ne (ne_of_none (I.base.frzs b o u e) na)).trans (I.base.frzs b o u e)
      tbls := fun b ps e => by
        obtain ⟨m, q⟩ := I.base.tbls b ps e
        exact ⟨m, (upd_ne (ne_of_none q na)).trans q⟩ }
  exact
    { ok := I.ok, os := I.os, bare := I.bare, base := un, loc := I.loc, cell := I.cell
      free := (upd_ne nl.symm).trans I.free
      freeC := fun y c e => (upd_ne (cells y c e)).trans (I.freeC y c e)
      pin := fun p hp => ⟨(I.pin p hp).1, (upd_ne (np p hp)).trans (I.pin p hp).2.1, (I.pin p hp).2.2⟩
      hok := HOk.laidN I.hok (fun _ _ e => e) na (keptE_ok i)
      len := I.len }
end
/-- what 'except x as n' wishes, if the exception that it holds is kept: the suite comes to its end -/
def wKeep (K : PySem.W.Frag) (c : Value) (i : Nat) (ts : Addr → TS) (D : Ends) : WX := fun cls d σ H => ∃ C, cls = .ref C ∧ d = none ∧ PySem.W.exmOne K (.ref C) c = some true ∧
  ∀ a, H a = none → ts a { nx := fun σ' H' => H' a = none → D.nx (σ'.set i none) (upd H' a (KeptE C a)), rt := fun _ _ => False } (σ.set i (some (.ref a))) H
section
variable {X : Cx} {x n : Str} {c : Value} {i : Nat} {body rest : List Stmt} {st : Stmt} {np p1 p2 : Pos} {tb : WX → TS} {ts : Addr → TS}
theorem ps_try_keep (hst : X.stack = X.env :: X.outer) (hfm : X.env.frame = some X.env.locals) (hN : X.N.Nodup) (hi : X.N[i]? = some n) (hl : X.env.kindOf n = some .local) (hc : Names X x c) (hex : X.ex = [])
    (hb : ∀ (W : WX) (pn : List (Addr × Obj)) (xe : Value → Shared → Prop), Takes (X.tr pn xe) W → PassesOwn (model X.prog X.w) X.A X.env xe → PSs (X.tr pn xe) body (tb W))
    (hsu : ∀ (a : Addr) (pn : List (Addr × Obj)), PSs (X.suite a pn) (st :: rest) (ts a)) :
    PS X (.Try body [.ExceptHandler (some (.Name x np)) (some n) (st :: rest) p1] [] [] p2) (fun D σ H => tb (wKeep X.K c i ts D) D σ H) := by
  constructor
  intro pins s σ H D I q
  have ok := I.ok
  have fr : X.A.frames = some (X.env :: X.outer) := ok.frames.trans (congrArg some hst)
  apply wpAny_Try_except
  have run := fun xe tk pw => (hb (wKeep X.K c i ts D) (X.pn ++ pins) xe tk pw).run [] s σ H D (I.toTry xe) q
  refine wpAny_mono (run (fun e t₁ => wpAny (model X.prog X.w) X.A (noteFrame e X.env) (fun _ t₂ => wpAny (model X.prog X.w) X.A (setFlight e none) (fun _ t₃ =>
    wpAny (model X.prog X.w) X.A (handleBy e X.env [.ExceptHandler (some (.Name x np)) (some n) (st :: rest) p1]) (SP X pins D) X.xe t₃) X.xe t₂) X.xe t₁) ?caught PassesOwn.looking) ?went (fun _ _ z => z)
  case went =>
    intro f t z
    cases f with
    | next => exact wpAny_execs_nil (let ⟨σ', H', J, r⟩ := z; ⟨σ', H', J.ofTry ok, r⟩)
    | brk => exact (let ⟨σ', H', J, r⟩ := z; ⟨σ', H', J.ofTry ok, r⟩)
    | cont => exact (let ⟨σ', H', J, r⟩ := z; ⟨σ', H', J.ofTry ok, r⟩)
    | ret u => exact (let ⟨v, σ', H', J, e, r⟩ := z; ⟨v, σ', H', J.ofTry ok, e, r⟩)
  case caught =>
    rintro u t ⟨a, B, t0, pins', σ1, H1, cls, d, rfl, J0, ground, up, sky, na, eos, gens, C, rfl, rfl, hexm, hsuite⟩
    have J : Inv X pins σ1 H1 t0 := J0.ofTry ok
    have sky2 : Sky B (X.env :: X.outer) a (Zc (.ref C) none) X.env.locals t.heap := hst ▸ sky
    show wpAny _ X.A (noteFrame (.ref a) X.env) _ _ _
    refine Sky.land Zc.steady fr hfm sky2 fun g fly upg => ?_
    -- where the exception's own object stands
    have seen : ∀ {g' : Heap}, HandSPX.FlyingZ B (X.env :: X.outer) a (Zc (.ref C) none) g' → ∃ (oe : Obj) (vs : Array Value), g'.get? a = some oe ∧ Zc (.ref C) none oe ∧ oe.data = .fields vs ∧ a ∉ frs (X.env :: X.outer) := fun {g'} fl => by
      obtain ⟨oe, vs, e1, e2, e3⟩ := fl.there
      refine ⟨oe, vs, e1, e2, e3, fun hm => ?_⟩
      obtain ⟨_, o', e', no⟩ := fl.2.2.1.mem hm
      rw [e1] at e'
      cases e'
      exact no _ e3
    obtain ⟨oe, vs, at1, z1, dat1, off⟩ := seen fly
    have offL : a ≠ X.env.locals := fun z => off (List.mem_filterMap.mpr ⟨X.env, List.mem_cons_self, hfm.trans (congrArg some z.symm)⟩)
    have offF : a ∉ X.fs := fun hm => by
      obtain ⟨e, he, r⟩ := List.mem_filterMap.mp hm
      exact off (List.mem_filterMap.mpr ⟨e, List.mem_cons_of_mem _ he, r⟩)
    have notB : ∀ o, B.get? a ≠ some o := fun o z => by
      rw [fly.2.1] at z
      cases z
    have old : X.s_0.heap.get? a = none := by
      cases e : X.s_0.heap.get? a with
      | none => rfl
      | some o =>
        obtain ⟨o', e'⟩ := J.base.there a o e (by rw [hex]; exact List.not_mem_nil)
        exact absurd (ground a o' e' (by rw [show X.stack = X.env :: X.outer from hst]; exact off)) (notB o')
    have pinned : ∀ p ∈ X.pn ++ pins, p.1 ≠ a := fun p hp z => by
      obtain ⟨e1, _⟩ := J.pin p hp
      rw [z] at e1
      exact notB _ (ground a _ e1 (by rw [show X.stack = X.env :: X.outer from hst]; exact off))
    have S1 := (J.landed (s' := { t with heap := g }) ground fly.1 (up.trans upg) eos gens).suite at1 dat1 na offL offF
    refine wpAny_handleBy_cons (codeAny_handlers_test ?_) (by intro z; cases z)
    have kind : PySem.W.Looks (model X.prog X.w) g (typeOf (.ref a)) (.ref C) := fun A' Q' E' s' k r => wpAny_typeOf_ref (k _ _ at1) (z1.1.symm ▸ r)
    have asks := (PySem.W.exm_one (M := model X.prog X.w) (S1.kIn) kind hexm)
    have named : ∀ {Q' : Value → Shared → Prop} {E' : Value → Shared → Prop}, Q' c { t with heap := g } → wpAny (model X.prog X.w) (X.A.mark (some (.ref a))) (eval (.Name x np) X.env) Q' E' { t with heap := g } := by
      intro Q' E' r
      rcases hc with ⟨hg, hdb, hm | ⟨hm, hv, hnn⟩⟩
      · exact ld_glob (X := X.suite a ((a, oe) :: (X.pn ++ pins))) S1 hg hm r hdb
      · exact ld_blt (X := X.suite a ((a, oe) :: (X.pn ++ pins))) S1 hg hm hv r hnn hdb
    refine named (asks.here (codeAny_handlers_suite_as (HandSPX.lands_againZ fly fun g2 fly2 up2 => ?_)))
    obtain ⟨oe2, vs2, at2, z2, dat2, _⟩ := seen fly2
    have S2 := (J.landed (s' := { t with heap := g2 }) ground fly2.1 ((up.trans upg).trans up2) eos gens).suite at2 dat2 na offL offF
    refine store_ok (X := X.suite a ((a, oe2) :: (X.pn ++ pins))) (v := .ref a) S2 hN hi (.inl hl) rfl (fun t5 S5 => ?_) (.inr hl)
    refine wpAny_mono ((hsu a _).run [] t5 _ H1 _ S5 (hsuite a na)) (fun f t6 z => ?_) (fun _ _ z => z.elim)
    cases f with
    | ret u => exact (let ⟨_, _, _, _, _, r⟩ := z; r.elim)
    | brk => exact (let ⟨_, _, _, r⟩ := z; r.elim)
    | cont => exact (let ⟨_, _, _, r⟩ := z; r.elim)
    | next =>
      obtain ⟨σ6, H6, S6, r⟩ := z
      obtain ⟨at6, na6, _⟩ := S6.pin (a, oe2) (List.mem_append_left _ List.mem_cons_self)
      have ins : PySem.W.InstAt t6.heap a oe2 C none := by
        refine ⟨at6, z2.1, ?_, ?_⟩
        · unfold PySem.W.notCls
          rw [dat2]
        · rw [z2.2]
          trivial
      exact gone_ok (inv_track (S6.unsuite ok) ins dat2 old na6 offL pinned) hN hi hl fun t7 J7 => ⟨_, _, J7, r na6⟩
end
/-- isinstance(e, c), e kept -/
def rIsK (K : PySem.W.Frag) : List V → Hp → VK → Prop := fun xs H Q => ∃ (a D : Addr) (c : V) (cv : Value) (b : Bool), xs = [.ref a, c] ∧ H a = some (KeptE D a) ∧ ExcC K D ∧ (∀ u, RelV c u → u = cv) ∧ PySem.W.kitOne K (.ref D) cv = some b ∧ Q (.bl b) H
theorem call_isK {X : Cx} : CallR X (.builtin "isinstance") (rIsK X.K) := by
  intro pins s σ H xs us Q I r h
  obtain ⟨a, D, c, cv, b, rfl, ha, hC, hcv, e, q⟩ := h
  obtain ⟨u0, u1, rfl, r0, r1⟩ := vals2 r
  obtain rfl : u0 = Value.ref a := r0
  obtain rfl := hcv _ r1
  obtain ⟨⟨oe, i⟩, _, _⟩ := I.hok a _ ha
  exact PySem.W.kia_one (PySem.W.handS_kitx_exc hC.hg hC.hk hC.hs hC.hd hC.ha hC.hn hC.ht hC.hm) I.kIn i e (fun z => nomatch z) fun tk => ⟨.bl b, H, I.kept (t' := tk) fun _ _ z => z, rfl, q⟩
/-- how often True stands in a list of truths -/
def rCntB (K : PySem.W.Frag) : V → List V → Hp → VK → Prop := fun x xs H Q => ∃ (p : Addr) (bs : List Bool), x = .ref p ∧ xs = [.bl true] ∧ SqL K H p (bs.map V.bl) ∧ Q (.int (bs.count true : Nat)) H
theorem flat_bls : ∀ bs : List Bool, (bs.map V.bl).all flatV = true
  | [] => rfl
  | _ :: r => flat_bls r
theorem cnt_bls {u : Value} : ∀ {bs : List Bool} {us : List Value}, Vals (bs.map V.bl) us → us.countP (eqU (.bl true)) = bs.count true
  | [], _, .nil => rfl
  | b :: r, _, .cons h t => by
    rw [List.countP_cons, cnt_bls (u := u) t, eqU_of h rfl, List.count_cons]
    cases b <;> rfl
theorem mt_cntB {X : Cx} : MtR X "list.count" (rCntB X.K) := by
  rintro pins s σ H x xs v us Q I rx rxs ⟨p, bs, rfl, rfl, hs, q⟩
  obtain rfl : v = Value.ref p := rx
  obtain ⟨u, rfl, ru⟩ := rxs.one
  obtain ⟨its, rv, ⟨o, n, at_, c1, _, c2⟩, _⟩ := I.list hs
  obtain ⟨oc, od, oda, osl⟩ := o
  simp only at c1 c2
  subst c1 c2
  have mem : ∀ y ∈ its.toArray, SeqAt.EqAt X.A.in1 s y u (eqU (.bl true) y) := fun y hy => mem_eqAt (A := X.A.in1) (s := s) ru rfl rv (flat_bls bs) y (by simpa using hy)
  refine call_meets PySem.F.slot_list_count ⟨_, at_, rfl⟩ PySem.F.entry_list_count (PySem.F.args_list_count_2 _ _) (SeqAt.list_countAt p its.toArray n od osl u (eqU (.bl true))) ⟨at_, mem, ?_⟩
  refine ⟨.int (bs.count true : Nat), H, I.tok _, ⟨s.toks, ?_⟩, q⟩
  have e : its.toArray.toList.countP (eqU (.bl true)) = bs.count true := cnt_bls (u := u) rv
  exact congrArg (fun k : Nat => Value.int (k : Int) s.toks) e
/-! ### calls by keywords in a try's body -/
section
variable {X : Cx} {k n : Nat} {f C : Addr} {fd : FuncData} {ps ks : List Str} {sp : Sp} {W : WX} {x : Str} {p pos : Pos} {e : Expr} {es : List Expr} {kws : List Keyword} {t tw : TA} {g : List Value → List Value → List Value} {gV : List V → List V → List V}
theorem pe_callNS (F : FnOk X.prog X.w X.K X.mg X.base (L2.CX X.prog X.w) k f fd ps sp) (hr : Room k X.A) (hg : Gl X x) (hm : X.mg x = some (.ref f)) (hk : PySem.W.keepIn X.K (.ref f) = true) (hb : KBn X.K fd ps n ks g gV) (wt : Takes X W)
    (ha : PA X (e :: es) t) (hw : PK X kws tw) (h1 : (backToKw pos (keywordEach kws X.env)).all (·.1.isSome) = true := by rfl) (h2 : (backToKw pos (keywordEach kws X.env)).filterMap (·.1) = ks := by rfl)
    (h3 : (x == ("__debug__" : Str)) = false := by decide) (h4 : starEach (e :: es) X.env = (false, eval e X.env) :: starEach es X.env := by rfl)
    (h5 : ((backTo pos (starEach (e :: es) X.env)).any (·.1) || (backToKw pos (keywordEach kws X.env)).any (·.1.isNone)) = false := by rfl) :
    PE X (.Call (.Name x p) (e :: es) kws pos) (fun σ H Q => t σ H fun vs H1 => tw σ H1 fun zs H2 => vs.length = n ∧ zs.length = ks.length ∧ sp (gV vs zs) H2 Q (WE W σ)) := by
  constructor
  intro pins s σ H Q I q
  apply wpAny_Call_Name_kw (ld_glob I hg hm ?_ h3)
  refine PySem.W.callWith_KW (h₀ := X.base) I.ok.mod.kin hk h1 (thn (ha.run pos pins s σ H _ I q) ?_) h5 h4
  rintro us s1 ⟨vs, H1, I1, r, q1⟩
  refine thn (hw.run pos pins s1 σ H1 _ I1 q1) ?_
  rintro ws s2 ⟨zs, H2, I2, rz, l1, l2, q2⟩
  rw [h2]
  refine ⟨I2.kIn, wpAny_call (codeAny_mono (F.run X.A X.stack s2 H2 ⟨us, ks.zip ws⟩ (g us ws) (gV vs zs) Q (WE W σ) hr I2.env0 (hb.to s2 us ws I2.kIn (r.length.symm.trans l1) (rz.length.symm.trans l2)) (hb.rel r rz) q2) ?_)⟩
  rintro (er | fl) s3 z
  · exact passAt wt σ pins H2 s2 er s3 I2 z
  · cases fl with
    | ret u => exact I2.after z
    | next => exact z.elim
    | brk => exact z.elim
    | cont => exact z.elim
theorem pe_makeKS (M : Mk X.K C f) (F : FnOk X.prog X.w X.K X.mg X.base (L2.CX X.prog X.w) k f fd ps sp) (hr : Room (k + 1) X.A) (hg : Gl X x) (hm : X.mg x = some (.ref C)) (hb : KBn X.K fd ps (n + 1) ks g gV) (wt : Takes X W)
    (ha : PA X (e :: es) t) (hw : PK X kws tw) (h1 : (backToKw pos (keywordEach kws X.env)).all (·.1.isSome) = true := by rfl) (h2 : (backToKw pos (keywordEach kws X.env)).filterMap (·.1) = ks := by rfl)
    (h3 : (x == ("__debug__" : Str)) = false := by decide) (h4 : starEach (e :: es) X.env = (false, eval e X.env) :: starEach es X.env := by rfl)
    (h5 : ((backTo pos (starEach (e :: es) X.env)).any (·.1) || (backToKw pos (keywordEach kws X.env)).any (·.1.isNone)) = false := by rfl) :
    PE X (.Call (.Name x p) (e :: es) kws pos) (fun σ H Q => t σ H fun vs H1 => tw σ H1 fun zs H2 => vs.length = n ∧ zs.length = ks.length ∧ ∀ o dx, H2 o = none → H2 dx = none → dx ≠ o →
      sp (gV (.ref o :: vs) zs) (upd (upd H2 dx (.own o)) o (.ins C dx [])) (fun v H3 => v = .non ∧ Q (.ref o) H3) (WE W σ)) := by
  constructor
  intro pins s σ H Q I q
  apply wpAny_Call_Name_kw (ld_glob I hg hm ?_ h3)
  refine PySem.W.callWith_KW (h₀ := X.base) I.ok.mod.kin M.kp h1 (thn (ha.run pos pins s σ H _ I q) ?_) h5 h4
  rintro us s1 ⟨vs, H1, I1, r, q1⟩
  refine thn (hw.run pos pins s1 σ H1 _ I1 q1) ?_
  rintro ws s2 ⟨zs, H2, I2, rz, l1, l2, q2⟩
  rw [h2]
  refine ⟨I2.kIn, ?_⟩
  have go := q2 (s2.heap.objs.size + 1) s2.heap.objs.size (I2.hok.fresh (Nat.le_succ _)) (I2.hok.fresh (Nat.le_refl _)) (Nat.ne_of_lt (Nat.lt_succ_self _))
  have J := Inv.made (C := C) I2
  have first : Vals (V.ref (s2.heap.objs.size + 1) :: vs) (Value.ref (s2.heap.objs.size + 1) :: us) := .cons rfl r
  have many : (Value.ref (s2.heap.objs.size + 1) :: us).length = n + 1 := congrArg (· + 1) (r.length.symm.trans l1)
  refine wpAny_call (make_map (f := f) I2.kIn M.makes M.init (beq_iff_eq.mp M.fn) (codeAny_mono (F.run _ X.stack _ _ ⟨Value.ref (s2.heap.objs.size + 1) :: us, ks.zip ws⟩ (g (Value.ref (s2.heap.objs.size + 1) :: us) ws) _ _ (WE W σ)
    (hr.make C us (ks.zip ws)) (J.env0.make C us (ks.zip ws)) (hb.to _ (Value.ref (s2.heap.objs.size + 1) :: us) ws J.kIn many (rz.length.symm.trans l2)) (hb.rel first rz) go) ?_))
  rintro (er | fl) s3 z
  · exact passAt wt σ pins _ _ er s3 J z
  · cases fl with
    | ret u =>
      obtain ⟨v, H', J2, rv, ev, q3⟩ := J.after z
      subst ev
      exact ⟨rv, ⟨V.ref (s2.heap.objs.size + 1), H', J2, rfl, q3⟩⟩
    | next => exact z.elim
    | brk => exact z.elim
    | cont => exact z.elim
end
/-! ### isinstance and except, asked of the classes' own rows -/
section
variable {K : PySem.W.Frag} {D C : Addr} {b : Bool}
theorem kit_ref (self : PySem.W.subIn K (.ref D) (.ref D) = some true) (hs : PySem.W.subIn K (.ref D) (.ref C) = some b) (hi : PySem.W.isClsIn K C = true) (ht : PySem.W.typeIn K (.ref C) = some (.type "type")) : PySem.W.kitOne K (.ref D) (.ref C) = some b := by
  unfold PySem.W.kitOne
  by_cases e : (Value.ref D == Value.ref C) = true
  · rw [if_pos e]
    obtain rfl := Value.ref.inj (beq_iff_eq.mp e)
    exact self.symm.trans hs
  · rw [if_neg e]
    have c : ((PySem.W.clsIn K C).isSome && PySem.W.typeIn K (.ref C) == some (.type "type")) = true := by
      rw [show (PySem.W.clsIn K C).isSome = true from hi, ht]
      rfl
    exact (if_pos c).trans hs
theorem kit_val (hs : PySem.W.subIn K (.ref D) (.type "ValueError") = some true) : PySem.W.kitOne K (.ref D) (.type "ValueError") = some true := by
  unfold PySem.W.kitOne
  rw [if_neg (by intro e; exact nomatch (beq_iff_eq.mp e))]
  show (if PySem.W.kitMeta "ValueError" = true then PySem.W.subIn K (.ref D) (.type "ValueError") else none) = some true
  rw [if_pos (by decide +kernel)]
  exact hs
end
end R
set_option maxRecDepth 100000
set_option maxHeartbeats 4000000
namespace R
open PySem PySem.Spec PyProof.Rows L2 RZ
/-! ### the least of a list of data; a text taken out of a list -/
theorem dpAll_get {K : PySem.W.Frag} {H : Hp} : ∀ {xs : List V} {ds : List PyData} {i : Nat} {x : V}, DpAll K H xs ds → xs[i]? = some x → ∃ d, ds[i]? = some d ∧ Dp K H x d
  | _, _, 0, _, .cons h _, e => by cases e; exact ⟨_, rfl, h⟩
  | _, _, i + 1, x, .cons (vs := vs) (ds := ds) _ t, e => dpAll_get (xs := vs) (ds := ds) (i := i) t e
theorem vals_get {xs : List V} {us : List Value} : Vals xs us → ∀ {i : Nat} {u : Value}, us[i]? = some u → ∃ x, xs[i]? = some x ∧ RelV x u := by
  intro r
  induction r with
  | nil => intro i u e; simp at e
  | cons h t ih =>
    intro i u e
    cases i with
    | zero => cases e; exact ⟨_, rfl, h⟩
    | succ i => exact ih e
def rMinD (K : PySem.W.Frag) : List V → Hp → VK → Prop := fun vs H Q => ∃ (a : Addr) (xs : List V) (d : PyData) (ds : List PyData), vs = [V.ref a] ∧ SqL K H a xs ∧ DpAll K H xs (d :: ds) ∧ PySem.W.AlikeAll (d :: ds) ∧ PyData.depthAll (d :: ds) ≤ 60 ∧
  ∀ (i : Nat) (x : V), xs[i]? = some x → (d :: ds)[i]? = some (PySem.W.minD d ds) → Q x H
theorem cr_minD {X : Cx} (hc : X.calm = true) (hu : X.A.units + 64 < cLine) : CallR X (.builtin "min") (rMinD X.K) := by
  intro pins s σ H vs us Q I r h
  obtain ⟨a, xs, d, ds, rfl, hs, hd, al, dep, q⟩ := h
  obtain ⟨its, rv, hl, _⟩ := I.list hs
  rw [Vals.ref1 r]
  obtain ⟨as, rd⟩ := Dp.reads I (.list (d :: ds)) (.ref a) (.ref a) (.lst hs hd) rfl
  cases rd with
  | list e1 e2 e3 rs =>
    rename_i o vs' n as'
    have same : vs' = its.toArray := by
      obtain ⟨o2, h2, _, n2, h3⟩ := hl.isList
      rw [h2] at e1
      cases e1
      rw [h3] at e3
      cases e3
      rfl
    subst same
    refine PySem.W.min_list_data (I.ok.hd hc) hl.isList rs al (by omega) fun i v h' tk bs hi rm hk => ?_
    have hi2 : its[i]? = some v := by simpa using hi
    obtain ⟨x, hx, rx⟩ := vals_get rv hi2
    obtain ⟨dd, hdd, dx⟩ := dpAll_get hd hx
    obtain ⟨as2, rd2⟩ := Dp.reads I dd x v dx rx
    have e := (PyProof.Rows.Reads.keeps hk rd2).unique _ _ rm
    rw [e.1] at hdd
    exact ⟨x, H, I.kept hk, rx, q i x hx hdd⟩
theorem txs_flat : ∀ ls : List (List Nat), (txs ls).all flatV = true
  | [] => rfl
  | _ :: r => txs_flat r
theorem txs_eraseIdx : ∀ (ls : List (List Nat)) (j : Nat), (txs ls).eraseIdx j = txs (ls.eraseIdx j)
  | [], _ => rfl
  | _ :: _, 0 => rfl
  | l :: r, j + 1 => congrArg (V.str (S l) :: ·) (txs_eraseIdx r j)
def rRemS : V → List V → Hp → VK → Prop := fun x xs H Q => ∃ (l : Addr) (ls : List (List Nat)) (w : List Nat), x = .ref l ∧ xs = [.str (S w)] ∧ H l = some (.lst (txs ls)) ∧ w ∈ ls ∧ Q .non (upd H l (.lst (txs (ls.erase w))))
theorem mt_removeS {X : Cx} : MtM X "list.remove" rRemS := by
  rintro pins s σ H x xs v us Q I rx rxs ⟨l, ls, w, rfl, rfl, hH, hw, q⟩
  obtain rfl : v = Value.ref l := rx
  obtain ⟨u, rfl, ru⟩ := rxs.one
  obtain ⟨z, its, n, rv, hl, at_⟩ := I.lstM hH
  have eq : ∀ y ∈ its.toArray, MeetsSeq.EqGives y u (eqU (.str (S w)) y) := fun y hy prog w' A E s' Q' hq =>
    mem_eqAt (A := A) (s := s') ru rfl rv (txs_flat ls) y (by simpa using hy) prog w' E Q' hq
  have hlen : its.length = ls.length := by rw [← hl, strs_len]
  have hj : ls.idxOf w < ls.length := List.idxOf_lt_length_iff.mpr hw
  have atk : ∀ k (hk : k < its.toArray.size), eqU (.str (S w)) its.toArray[k] = decide (ls[k]? = some w) := by
    intro k hk
    have hk2 : k < its.length := by simpa using hk
    have hk3 : k < ls.length := by omega
    have e1 : (txs ls)[k]? = some (.str (S ls[k])) := by
      show (ls.map fun l => V.str (S l))[k]? = _
      rw [List.getElem?_map, List.getElem?_eq_getElem hk3]
      rfl
    obtain ⟨u2, hu2, r2⟩ := rv.get e1
    obtain ⟨_, hu3⟩ := List.getElem?_eq_some_iff.mp hu2
    have e2 : its.toArray[k] = u2 := by simpa using hu3
    rw [e2, eqU_of r2 rfl, List.getElem?_eq_getElem hk3]
    show (S ls[k] == S w) = decide (some ls[k] = some w)
    rw [Bool.eq_iff_iff, beq_iff_eq, decide_eq_true_eq, S_inj]
    exact ⟨fun e => by rw [e], fun e => Option.some.inj e⟩
  have hjs : ls.idxOf w < its.toArray.size := by rw [List.size_toArray]; omega
  have hsz := sizeLine_eq
  refine call_meets PySem.F.slot_list_remove ⟨_, at_, rfl⟩ PySem.F.entry_list_remove (PySem.F.args_list_remove_2 _ _)
    (MeetsSeq.list_remove l its.toArray n u (eqU (.str (S w))) eq (ls.idxOf w) hjs ?_ ?_ (by rw [List.size_toArray]; omega)) ⟨at_, ?_⟩
  · rw [atk _ hjs]
    exact decide_eq_true (by rw [List.getElem?_eq_getElem hj]; exact congrArg some (List.getElem_idxOf hj))
  · intro m hm hmj
    rw [atk _ hm]
    refine decide_eq_false fun e => ?_
    have hm2 : m < ls.length := by
      have : m < its.length := by simpa using hm
      omega
    rw [List.getElem?_eq_getElem hm2] at e
    have h2 := List.not_of_lt_findIdx hmj
    rw [beq_iff_eq.mpr (Option.some.inj e)] at h2
    cases h2
  · have rr := rv.eraseIdx (ls.idxOf w)
    have et : (txs ls).eraseIdx (ls.idxOf w) = txs (ls.erase w) := by
      rw [txs_eraseIdx, ← List.erase_eq_eraseIdx_of_idxOf rfl]
    rw [et] at rr
    refine ⟨.non, _, I.lset (its' := its.eraseIdx (ls.idxOf w)) (t' := s.toks) hH at_ ?_ rr ?_, rfl, q⟩
    · show its.toArray.eraseIdxIfInBounds _ = (its.eraseIdx _).toArray
      rw [List.eraseIdxIfInBounds_toArray]
    · rw [strs_len]
      have := List.length_erase_le (a := w) (l := ls)
      rw [strs_len] at z
      omega
end R
set_option maxRecDepth 100000
set_option maxHeartbeats 4000000
namespace R
open PySem PySem.Spec PyProof.Rows L2 RZ
open PySem.W (Datum)
/-! ### lists of lists of texts -/
def Rows (H : Hp) : List Addr → List (List (List Nat)) → Prop
  | [], [] => True
  | a :: as, l :: ls => H a = some (.lst (txs l)) ∧ Rows H as ls
  | _, _ => False
theorem Rows.len {H : Hp} : ∀ {as : List Addr} {ls : List (List (List Nat))}, Rows H as ls → as.length = ls.length
  | [], [], _ => rfl
  | _ :: _, _ :: _, h => congrArg (· + 1) (Rows.len h.2)
  | [], _ :: _, h => h.elim
  | _ :: _, [], h => h.elim
theorem Rows.same {H H' : Hp} (s : Same H H') : ∀ {as : List Addr} {ls : List (List (List Nat))}, Rows H as ls → Rows H' as ls
  | [], [], _ => trivial
  | _ :: _, _ :: _, h => ⟨s _ _ h.1, Rows.same s h.2⟩
  | [], _ :: _, h => h.elim
  | _ :: _, [], h => h.elim
theorem Rows.upd {H : Hp} {b : Addr} {o : HO} : ∀ {as : List Addr} {ls : List (List (List Nat))}, Rows H as ls → b ∉ as → Rows (L2.upd H b o) as ls
  | [], [], _, _ => trivial
  | a :: as, _ :: _, h, n => ⟨by rw [upd_ne (fun e => n (by rw [e]; exact List.mem_cons_self))]; exact h.1, Rows.upd h.2 fun m => n (List.mem_cons_of_mem _ m)⟩
  | [], _ :: _, h, _ => h.elim
  | _ :: _, [], h, _ => h.elim
theorem Rows.snoc {H : Hp} {b : Addr} {l : List (List Nat)} : ∀ {as : List Addr} {ls : List (List (List Nat))}, Rows H as ls → H b = some (.lst (txs l)) → Rows H (as ++ [b]) (ls ++ [l])
  | [], [], _, h => ⟨h, trivial⟩
  | _ :: _, _ :: _, h, k => ⟨h.1, Rows.snoc h.2 k⟩
  | [], _ :: _, h, _ => h.elim
  | _ :: _, [], h, _ => h.elim
theorem Rows.unsnoc {H : Hp} {l : List (List Nat)} : ∀ {as : List Addr} {ls : List (List (List Nat))}, Rows H as (ls ++ [l]) → ∃ as' b, as = as' ++ [b] ∧ Rows H as' ls ∧ H b = some (.lst (txs l))
  | [], [], h => h.elim
  | [], _ :: _, h => h.elim
  | [a], [], h => ⟨[], a, rfl, trivial, h.1⟩
  | a :: b :: as, [], h => h.2.elim
  | a :: as, m :: ls, h => by
    obtain ⟨as', b, rfl, h1, h2⟩ := Rows.unsnoc (as := as) (ls := ls) h.2
    exact ⟨a :: as', b, rfl, ⟨h.1, h1⟩, h2⟩
theorem Rows.get {H : Hp} : ∀ {as : List Addr} {ls : List (List (List Nat))} {i : Nat} {a : Addr}, Rows H as ls → as[i]? = some a → ∃ l, ls[i]? = some l ∧ H a = some (.lst (txs l))
  | a :: as, l :: ls, 0, _, h, e => by cases e; exact ⟨l, rfl, h.1⟩
  | a :: as, l :: ls, i + 1, _, h, e => Rows.get (as := as) (ls := ls) (i := i) h.2 e
  | [], [], _, _, _, e => by simp at e
  | [], _ :: _, _, _, h, _ => h.elim
  | _ :: _, [], _, _, h, _ => h.elim
theorem dp_txs {K : PySem.W.Frag} {H : Hp} : ∀ ls : List (List Nat), DpAll K H (txs ls) (ls.map fun l => .str (S l))
  | [] => .nil
  | l :: r => .cons (.str _) (dp_txs r)
theorem dp_rows {K : PySem.W.Frag} {H : Hp} : ∀ {as : List Addr} {ls : List (List (List Nat))}, Rows H as ls → DpAll K H (as.map V.ref) (ls.map fun l => .list (l.map fun l => .str (S l)))
  | [], [], _ => .nil
  | _ :: _, _ :: _, h => .cons (.lst (SqL.of h.1) (dp_txs _)) (dp_rows h.2)
  | [], _ :: _, h => h.elim
  | _ :: _, [], h => h.elim
theorem toD_txs (l : List (List Nat)) : (Datum.toD (l.map S) : PyData) = .list (l.map fun l => .str (S l)) := by
  show PyData.list ((l.map S).map Datum.toD) = _
  rw [List.map_map]
  rfl
theorem toD_rows (ls : List (List (List Nat))) : (Datum.toD (ls.map fun l => l.map S) : PyData) = .list (ls.map fun l => .list (l.map fun l => .str (S l))) := by
  show PyData.list ((ls.map fun l => l.map S).map Datum.toD) = _
  rw [List.map_map]
  congr 1
  exact List.map_congr_left fun l _ => toD_txs l
theorem rows_inj {a b : List (List (List Nat))} (h : (a.map fun l => l.map S) = b.map fun l => l.map S) : a = b := by
  induction a generalizing b with
  | nil => cases b with
    | nil => rfl
    | cons y r => cases h
  | cons x r ih => cases b with
    | nil => cases h
    | cons y s =>
      rw [List.map_cons, List.map_cons] at h
      injection h with h1 h2
      rw [map_S_inj h1, ih h2]
theorem ne_rows {K : PySem.W.Frag} {H : Hp} {f g : Addr} {as bs : List Addr} {ls ms : List (List (List Nat))} {Q : VK} (h1 : SqL K H f (as.map V.ref)) (r1 : Rows H as ls) (h2 : SqL K H g (bs.map V.ref)) (r2 : Rows H bs ms) (q : Q (.bl (!decide (ls = ms))) H) : rNeP K (.ref f) (.ref g) H Q := by
  refine rNeP_of (a := ls.map fun l => l.map S) (b := ms.map fun l => l.map S) (by rw [toD_rows]; exact .lst h1 (dp_rows r1)) (by rw [toD_rows]; exact .lst h2 (dp_rows r2)) ?_
  rw [show decide ((ls.map fun l => l.map S) = ms.map fun l => l.map S) = decide (ls = ms) from decide_eq_decide.mpr ⟨rows_inj, fun e => by rw [e]⟩]
  exact q
theorem eq_rows {K : PySem.W.Frag} {H : Hp} {f g : Addr} {as bs : List Addr} {ls ms : List (List (List Nat))} {Q : VK} (h1 : SqL K H f (as.map V.ref)) (r1 : Rows H as ls) (h2 : SqL K H g (bs.map V.ref)) (r2 : Rows H bs ms) (q : Q (.bl (decide (ls = ms))) H) : rEqP K (.ref f) (.ref g) H Q := by
  refine rEqP_of (a := ls.map fun l => l.map S) (b := ms.map fun l => l.map S) (by rw [toD_rows]; exact .lst h1 (dp_rows r1)) (by rw [toD_rows]; exact .lst h2 (dp_rows r2)) ?_
  rw [show decide ((ls.map fun l => l.map S) = ms.map fun l => l.map S) = decide (ls = ms) from decide_eq_decide.mpr ⟨rows_inj, fun e => by rw [e]⟩]
  exact q
/-! ### the least text -/
def leastL (x : List Nat) (xs : List (List Nat)) : List Nat := xs.foldl (fun a y => if y < a then y else a) x
def least : List (List Nat) → List Nat
  | [] => []
  | x :: xs => leastL x xs
theorem leastL_mem : ∀ (xs : List (List Nat)) (x : List Nat), leastL x xs ∈ x :: xs
  | [], x => List.mem_cons_self
  | y :: r, x => by
    show leastL (if y < x then y else x) r ∈ _
    have h := leastL_mem r (if y < x then y else x)
    rcases List.mem_cons.mp h with h | h
    · rw [h]
      split
      · exact List.mem_cons_of_mem _ List.mem_cons_self
      · exact List.mem_cons_self
    · exact List.mem_cons_of_mem _ (List.mem_cons_of_mem _ h)
theorem least_mem {xs : List (List Nat)} (h : xs ≠ []) : least xs ∈ xs := by
  cases xs with
  | nil => exact absurd rfl h
  | cons x r => exact leastL_mem r x
theorem minD_S : ∀ (ls : List (List Nat)) (x : List Nat), PySem.W.minD (.str (S x)) (ls.map fun l => .str (S l)) = .str (S (leastL x ls))
  | [], _ => rfl
  | y :: r, x => by
    show PySem.W.minD (if PySem.W.dataLt (.str (S y)) (.str (S x)) = true then .str (S y) else .str (S x)) (r.map fun l => .str (S l)) = .str (S (leastL (if y < x then y else x) r))
    rw [PySem.W.dataLt_str, S_cps, S_cps]
    by_cases h : y < x
    · rw [decide_eq_true h, if_pos rfl, if_pos h]; exact minD_S r y
    · rw [decide_eq_false h, if_neg Bool.false_ne_true, if_neg h]; exact minD_S r x
theorem depthAll_strs : ∀ ls : List (List Nat), PyData.depthAll (ls.map fun l => .str (S l)) = 0
  | [] => rfl
  | _ :: r => by
    show max 0 (PyData.depthAll (r.map fun l => .str (S l))) = 0
    rw [depthAll_strs r]
    rfl
theorem minS {K : PySem.W.Frag} {H : Hp} {a : Addr} {ls : List (List Nat)} {Q : VK} (hne : ls ≠ []) (hS : SqL K H a (txs ls)) (q : Q (.str (S (least ls))) H) : rMinD K [.ref a] H Q := by
  cases ls with
  | nil => exact absurd rfl hne
  | cons l r =>
    refine ⟨a, txs (l :: r), .str (S l), r.map fun l => .str (S l), rfl, hS, dp_txs (l :: r), ⟨?_, ?_⟩, ?_, fun i x hx hd => ?_⟩
    · intro x hx y hy
      obtain ⟨x', _, rfl⟩ := List.mem_map.mp (show x ∈ (l :: r).map fun l => PyData.str (S l) from hx)
      obtain ⟨y', _, rfl⟩ := List.mem_map.mp (show y ∈ (l :: r).map fun l => PyData.str (S l) from hy)
      show PySem.W.alike (.str _) (.str _) = true
      simp only [PySem.W.alike]
    · intro x hx e
      obtain ⟨x', _, rfl⟩ := List.mem_map.mp (show x ∈ (l :: r).map fun l => PyData.str (S l) from hx)
      cases e
    · rw [show PyData.depthAll (.str (S l) :: r.map fun l => .str (S l)) = 0 from depthAll_strs (l :: r)]
      decide
    · rw [minD_S] at hd
      obtain ⟨m, hm, rfl⟩ := strs_get hx
      have hd2 : ((l :: r).map fun l => PyData.str (S l))[i]? = some (.str (S (leastL l r))) := hd
      rw [List.getElem?_map, hm] at hd2
      have e : S m = S (leastL l r) := PyData.str.inj (Option.some.inj hd2)
      rw [e]
      exact q
/-! ### rows that rise, by a room -/
def lastL (rs : List (List (List Nat))) : List Nat := (rs.getLast?.getD []).getLast?.getD []
def ableL (ins : List (List Nat)) (rs : List (List (List Nat))) : List (List Nat) := ins.filter fun o => !decide (rs = []) && !decide (o < lastL rs)
def bestL (ins : List (List Nat)) (rs : List (List (List Nat))) : List Nat := least (if ableL ins rs = [] then ins else ableL ins rs)
def putL (ins : List (List Nat)) (rs : List (List (List Nat))) : List (List (List Nat)) := if ableL ins rs = [] then rs ++ [[bestL ins rs]] else rs.dropLast ++ [rs.getLast?.getD [] ++ [bestL ins rs]]
def insL (ins rst : List (List Nat)) (rs : List (List (List Nat))) : List (List Nat) := match rst with
  | [] => ins.erase (bestL ins rs)
  | x :: _ => ins.erase (bestL ins rs) ++ [x]
def runsF : Nat → List (List Nat) → List (List Nat) → List (List (List Nat)) → List (List (List Nat))
  | 0, _, _, rs => rs
  | n + 1, ins, rst, rs => if ins = [] then rs else runsF n (insL ins rst rs) rst.tail (putL ins rs)
theorem bestL_mem {ins : List (List Nat)} (h : ins ≠ []) (rs : List (List (List Nat))) : bestL ins rs ∈ ins := by
  unfold bestL
  by_cases e : ableL ins rs = []
  · rw [if_pos e]; exact least_mem h
  · rw [if_neg e]; exact (List.mem_filter.mp (show least (ableL ins rs) ∈ ins.filter _ from least_mem e)).1
/-! ### texts that rise -/
def Up (l : List (List Nat)) : Prop := l.Pairwise (· ≤ ·)
def srt (l : List (List Nat)) : List (List Nat) := l.mergeSort (fun a b => decide (a ≤ b))
theorem srt_up (l : List (List Nat)) : Up (srt l) := by
  have h := List.pairwise_mergeSort (le := fun a b : List Nat => decide (a ≤ b)) (fun a b c h1 h2 => decide_eq_true (List.le_trans (of_decide_eq_true h1) (of_decide_eq_true h2))) (fun a b => by
    rcases List.le_total a b with h | h
    · rw [decide_eq_true h]; rfl
    · rw [decide_eq_true h, Bool.or_true]) l
  exact h.imp fun h => of_decide_eq_true h
theorem srt_perm (l : List (List Nat)) : (srt l).Perm l := List.mergeSort_perm _ _
theorem up_uniq {a b : List (List Nat)} (p : a.Perm b) (h1 : Up a) (h2 : Up b) : a = b := List.Perm.eq_of_pairwise (fun _ _ _ _ x y => List.le_antisymm x y) h1 h2 p
theorem srt_of {a b : List (List Nat)} (p : a.Perm b) (h : Up a) : a = srt b := up_uniq (p.trans (srt_perm b).symm) h (srt_up b)
theorem up_srt {a : List (List Nat)} : a = srt a ↔ Up a := ⟨fun h => by rw [h]; exact srt_up a, fun h => srt_of (List.Perm.refl a) h⟩
theorem rising_up : ∀ (l : List (List Nat)) (x : List Nat), risingS (S x) (l.map S) = true → Up (x :: l)
  | [], _, _ => List.pairwise_singleton _ _
  | y :: r, x, h => by
    have h' : (!ltCps (S y).cps.toList (S x).cps.toList && risingS (S y) (r.map S)) = true := h
    rw [Bool.and_eq_true, ltCps_eq, S_cps, S_cps] at h'
    have h1 : x ≤ y := by
      have := h'.1
      rw [Bool.not_eq_true', decide_eq_false_iff_not] at this
      exact this
    have h2 := rising_up r y h'.2
    refine List.pairwise_cons.mpr ⟨fun z hz => ?_, h2⟩
    rcases List.mem_cons.mp hz with rfl | hz
    · exact h1
    · exact List.le_trans h1 ((List.pairwise_cons.mp h2).1 z hz)
theorem sorted_up {l : List (List Nat)} (h : sortedS (l.map S) = true) : Up l := by
  cases l with
  | nil => exact List.Pairwise.nil
  | cons x r => exact rising_up r x h
theorem txs_map (ls : List (List Nat)) : txs ls = (ls.map S).map V.str := by
  rw [List.map_map]
  rfl
theorem sort_txs {K : PySem.W.Frag} {H : Hp} {a : Addr} {ls : List (List Nat)} {Q : VK} (hS : SqL K H a (txs ls)) (h : ls.length < 64) (q : ∀ p, H p = none → Q (.ref p) (upd H p (.lst (txs (srt ls))))) : rSortedS K [.ref a] H Q := by
  refine ⟨a, ls.map S, rfl, by rw [← txs_map]; exact hS, by rw [List.length_map]; exact h, fun ys p hp hs np => ?_⟩
  obtain ⟨zs, rfl⟩ : ∃ zs : List (List Nat), ys = zs.map S := ⟨ys.map fun z => z.cps.toList, by
    rw [List.map_map]
    conv => lhs; rw [← List.map_id ys]
    exact List.map_congr_left fun z _ => S_of z⟩
  have hz : zs.Perm ls := by
    have := hp.map fun z : Str => z.cps.toList
    rw [List.map_map, List.map_map] at this
    have e : ∀ l : List (List Nat), l.map ((fun z : Str => z.cps.toList) ∘ S) = l := fun l => by
      conv => rhs; rw [← List.map_id l]
      exact List.map_congr_left fun z _ => S_cps z
    rw [e, e] at this
    exact this
  rw [← txs_map, srt_of hz (sorted_up hs)]
  exact q p np
/-! ### the least head -/
abbrev Hd := List Nat × Nat
def hdD (p : Hd) : Str × Int := (S p.1, (p.2 : Nat))
def leastP (x : Hd) (xs : List Hd) : Hd := xs.foldl (fun a y => if (if y.1 = a.1 then decide (y.2 < a.2) else decide (y.1 < a.1)) = true then y else a) x
theorem minOf_hd : ∀ (xs : List Hd) (x : Hd), PySem.W.minOf (hdD x) (xs.map hdD) = hdD (leastP x xs)
  | [], _ => rfl
  | y :: r, x => by
    show PySem.W.minOf (if PySem.W.DatumOrd.lt (hdD y) (hdD x) = true then hdD y else hdD x) (r.map hdD) = hdD (leastP (if (if y.1 = x.1 then decide (y.2 < x.2) else decide (y.1 < x.1)) = true then y else x) r)
    have e : PySem.W.DatumOrd.lt (hdD y) (hdD x) = (if y.1 = x.1 then decide (y.2 < x.2) else decide (y.1 < x.1)) := by
      show (if S y.1 = S x.1 then decide (((y.2 : Nat) : Int) < ((x.2 : Nat) : Int)) else decide ((S y.1).cps.toList < (S x.1).cps.toList)) = _
      rw [S_cps, S_cps]
      by_cases h : y.1 = x.1
      · rw [if_pos (by rw [h]), if_pos h]
        exact decide_eq_decide.mpr (by omega)
      · rw [if_neg (fun q => h (S_inj.mp q)), if_neg h]
    rw [e]
    by_cases h : (if y.1 = x.1 then decide (y.2 < x.2) else decide (y.1 < x.1)) = true
    · rw [if_pos h, if_pos h]; exact minOf_hd r y
    · rw [if_neg h, if_neg h]; exact minOf_hd r x
theorem hdD_inj {p q : Hd} (h : hdD p = hdD q) : p = q := by
  obtain ⟨a, i⟩ := p
  obtain ⟨b, j⟩ := q
  have h1 := congrArg Prod.fst h
  have h2 := congrArg Prod.snd h
  have h3 : a = b := S_inj.mp h1
  have h4 : ((i : Nat) : Int) = (j : Nat) := h2
  rw [h3, show i = j by omega]
/-- tuples of a text and a number stand there -/
def Heads (H : Hp) : List Addr → List Hd → Prop
  | [], [] => True
  | a :: as, p :: ps => H a = some (.tup [.str (S p.1), .int (p.2 : Nat)]) ∧ Heads H as ps
  | _, _ => False
theorem Heads.same {H H' : Hp} (s : Same H H') : ∀ {as : List Addr} {ls : List Hd}, Heads H as ls → Heads H' as ls
  | [], [], _ => trivial
  | _ :: _, _ :: _, h => ⟨s _ _ h.1, Heads.same s h.2⟩
  | [], _ :: _, h => h.elim
  | _ :: _, [], h => h.elim
theorem Heads.len {H : Hp} : ∀ {as : List Addr} {ls : List Hd}, Heads H as ls → as.length = ls.length
  | [], [], _ => rfl
  | _ :: _, _ :: _, h => congrArg (· + 1) (Heads.len h.2)
  | [], _ :: _, h => h.elim
  | _ :: _, [], h => h.elim
theorem Heads.snoc {H : Hp} {b : Addr} {p : Hd} : ∀ {as : List Addr} {ls : List Hd}, Heads H as ls → H b = some (.tup [.str (S p.1), .int (p.2 : Nat)]) → Heads H (as ++ [b]) (ls ++ [p])
  | [], [], _, h => ⟨h, trivial⟩
  | _ :: _, _ :: _, h, k => ⟨h.1, Heads.snoc h.2 k⟩
  | [], _ :: _, h, _ => h.elim
  | _ :: _, [], h, _ => h.elim
theorem Heads.get {H : Hp} : ∀ {as : List Addr} {ls : List Hd} {i : Nat} {a : Addr}, Heads H as ls → as[i]? = some a → ∃ p, ls[i]? = some p ∧ H a = some (.tup [.str (S p.1), .int (p.2 : Nat)])
  | a :: as, l :: ls, 0, _, h, e => by cases e; exact ⟨l, rfl, h.1⟩
  | a :: as, l :: ls, i + 1, _, h, e => Heads.get (as := as) (ls := ls) (i := i) h.2 e
  | [], [], _, _, _, e => by simp at e
  | [], _ :: _, _, _, h, _ => h.elim
  | _ :: _, [], _, _, h, _ => h.elim
theorem dp_heads {K : PySem.W.Frag} {H : Hp} : ∀ {as : List Addr} {ls : List Hd}, Heads H as ls → DpAll K H (as.map V.ref) ((ls.map hdD).map Datum.toD)
  | [], [], _ => .nil
  | _ :: _, _ :: _, h => .cons (.tup (SqT.of h.1) (.cons (.str _) (.cons (.int _) .nil))) (dp_heads h.2)
  | [], _ :: _, h => h.elim
  | _ :: _, [], h => h.elim
theorem depth_heads : ∀ ls : List Hd, PyData.depthAll ((ls.map hdD).map Datum.toD) ≤ 1
  | [] => Nat.zero_le _
  | _ :: r => Nat.max_le.mpr ⟨Nat.le_refl _, depth_heads r⟩
theorem minP {K : PySem.W.Frag} {H : Hp} {a : Addr} {as : List Addr} {p : Hd} {ps : List Hd} {Q : VK} (hS : SqL K H a (as.map V.ref)) (hh : Heads H as (p :: ps)) (q : ∀ t, H t = some (.tup [.str (S (leastP p ps).1), .int ((leastP p ps).2 : Nat)]) → Q (.ref t) H) : rMinD K [.ref a] H Q := by
  refine ⟨a, as.map V.ref, Datum.toD (hdD p), (ps.map hdD).map Datum.toD, rfl, hS, dp_heads hh, PySem.W.alikeAll_datum (hdD p :: ps.map hdD), Nat.le_trans (depth_heads (p :: ps)) (by decide), fun i x hx hd => ?_⟩
  rw [List.getElem?_map] at hx
  obtain ⟨t, ht, rfl⟩ := Option.map_eq_some_iff.mp hx
  obtain ⟨p', hp', hH⟩ := hh.get ht
  rw [PySem.W.minD_map, minOf_hd] at hd
  have h2 : (((p :: ps).map hdD).map Datum.toD)[i]? = some (Datum.toD (hdD (leastP p ps)) : PyData) := hd
  rw [List.getElem?_map, List.getElem?_map, hp'] at h2
  have h3 : (Datum.toD (hdD p') : PyData) = Datum.toD (hdD (leastP p ps)) := Option.some.inj h2
  have h4 : hdD p' = hdD (leastP p ps) := by
    have := congrArg (fun d => PyData.eqv d (Datum.toD (hdD (leastP p ps)))) h3
    simp only [Datum.eqv] at this
    simpa using this
  rw [hdD_inj h4] at hH
  exact q t hH
def hdOf (l : List (List Nat)) (k : Nat) : List Hd := match l with
  | [] => []
  | w :: _ => [(w, k)]
def hdsFrom : Nat → List (List (List Nat)) → List Hd
  | _, [] => []
  | k, l :: r => hdOf l k ++ hdsFrom (k + 1) r
def headsL (rs : List (List (List Nat))) : List Hd := hdsFrom 0 rs
theorem hdsFrom_snoc : ∀ (rs : List (List (List Nat))) (k : Nat) (l : List (List Nat)), hdsFrom k (rs ++ [l]) = hdsFrom k rs ++ hdOf l (k + rs.length)
  | [], k, l => by
    show hdOf l k ++ [] = [] ++ hdOf l k
    rw [List.append_nil, List.nil_append]
  | x :: r, k, l => by
    show hdOf x k ++ hdsFrom (k + 1) (r ++ [l]) = hdOf x k ++ hdsFrom (k + 1) r ++ hdOf l (k + (r.length + 1))
    rw [hdsFrom_snoc r (k + 1) l, List.append_assoc, show k + 1 + r.length = k + (r.length + 1) by omega]
theorem hdsFrom_mem : ∀ {rs : List (List (List Nat))} {k : Nat} {p : Hd}, p ∈ hdsFrom k rs → ∃ j tl, p.2 = k + j ∧ rs[j]? = some (p.1 :: tl)
  | [], _, _, h => by cases h
  | [] :: r, k, p, h => by
    obtain ⟨j, tl, h1, h2⟩ := hdsFrom_mem (rs := r) (k := k + 1) h
    exact ⟨j + 1, tl, by omega, h2⟩
  | (w :: tl) :: r, k, p, h => by
    rcases List.mem_cons.mp (show p ∈ (w, k) :: hdsFrom (k + 1) r from h) with rfl | h
    · exact ⟨0, tl, rfl, rfl⟩
    · obtain ⟨j, tl, h1, h2⟩ := hdsFrom_mem (rs := r) (k := k + 1) h
      exact ⟨j + 1, tl, by omega, h2⟩
theorem hdsFrom_nil : ∀ {rs : List (List (List Nat))} {k : Nat}, hdsFrom k rs = [] ↔ ∀ l ∈ rs, l = []
  | [], _ => ⟨fun _ l h => (by cases h), fun _ => rfl⟩
  | [] :: r, k => by
    show hdsFrom (k + 1) r = [] ↔ _
    rw [hdsFrom_nil (rs := r)]
    exact ⟨fun h l hl => (List.mem_cons.mp hl).elim id (h l), fun h l hl => h l (List.mem_cons_of_mem _ hl)⟩
  | (w :: tl) :: r, k => ⟨fun h => (by cases h), fun h => absurd (h _ List.mem_cons_self) (by intro e; cases e)⟩
theorem leastP_mem : ∀ (xs : List Hd) (x : Hd), leastP x xs ∈ x :: xs
  | [], x => List.mem_cons_self
  | y :: r, x => by
    show leastP (if (if y.1 = x.1 then decide (y.2 < x.2) else decide (y.1 < x.1)) = true then y else x) r ∈ _
    have h := leastP_mem r (if (if y.1 = x.1 then decide (y.2 < x.2) else decide (y.1 < x.1)) = true then y else x)
    rcases List.mem_cons.mp h with h | h
    · rw [h]
      by_cases e : (if y.1 = x.1 then decide (y.2 < x.2) else decide (y.1 < x.1)) = true
      · rw [if_pos e]; exact List.mem_cons_of_mem _ List.mem_cons_self
      · rw [if_neg e]; exact List.mem_cons_self
    · exact List.mem_cons_of_mem _ (List.mem_cons_of_mem _ h)
theorem sum_set : ∀ {rs : List (List (List Nat))} {k : Nat} {w : List Nat} {tl : List (List Nat)}, rs[k]? = some (w :: tl) → ((rs.set k tl).map List.length).sum + 1 = (rs.map List.length).sum
  | l :: r, 0, w, tl, h => by
    cases h
    rw [List.set_cons_zero, List.map_cons, List.map_cons, List.sum_cons, List.sum_cons, List.length_cons]
    omega
  | l :: r, k + 1, w, tl, h => by
    have := sum_set (rs := r) (k := k) (w := w) (tl := tl) h
    rw [List.set_cons_succ, List.map_cons, List.map_cons, List.sum_cons, List.sum_cons]
    omega
  | [], _, _, _, h => by simp at h
theorem Rows.set {H : Hp} {b : Addr} {tl : List (List Nat)} : ∀ {as : List Addr} {ls : List (List (List Nat))} {k : Nat}, Rows H as ls → as[k]? = some b → as.Nodup → Rows (L2.upd H b (.lst (txs tl))) as (ls.set k tl)
  | a :: as, l :: ls, 0, h, e, n => by
    cases e
    exact ⟨upd_same, h.2.upd (List.nodup_cons.mp n).1⟩
  | a :: as, l :: ls, k + 1, h, e, n => by
    have hb : b ∈ as := List.mem_of_getElem? (show as[k]? = some b from e)
    refine ⟨?_, Rows.set (as := as) (ls := ls) (k := k) h.2 e (List.nodup_cons.mp n).2⟩
    rw [upd_ne (fun q => (List.nodup_cons.mp n).1 (by rw [q]; exact hb))]
    exact h.1
  | [], [], _, _, e, _ => by simp at e
  | [], _ :: _, _, h, _, _ => h.elim
  | _ :: _, [], _, h, _, _ => h.elim
theorem Heads.upd_lst {H : Hp} {b : Addr} {xs : List V} {o : HO} (hb : H b = some (.lst xs)) : ∀ {as : List Addr} {ls : List Hd}, Heads H as ls → Heads (L2.upd H b o) as ls
  | [], [], _ => trivial
  | _ :: _, _ :: _, h => ⟨by rw [upd_ne (ne_of h.1 hb (by intro z; cases z))]; exact h.1, Heads.upd_lst hb h.2⟩
  | [], _ :: _, h => h.elim
  | _ :: _, [], h => h.elim
def mergeF : Nat → List (List (List Nat)) → List (List Nat) → List (List Nat)
  | 0, _, fs => fs
  | n + 1, rs, fs => match headsL rs with
    | [] => fs
    | p :: ps => mergeF n (rs.set (leastP p ps).2 ((rs.getD (leastP p ps).2 []).tail)) (fs ++ [(leastP p ps).1])
theorem call_list_ofC {X : Cx} {K : PySem.W.Frag} (h : X.K = K) : CallR X (.type "list") (fun xs H Q => ∃ p ys, xs = [V.ref p] ∧ (SqL K H p ys ∨ SqT K H p ys) ∧ ∀ l, H l = none → Q (V.ref l) (upd H l (HO.lst ys))) := by
  subst h
  exact call_list_of
theorem sl_listC {X : Cx} {K : PySem.W.Frag} (h : X.K = K) : SlR X (rSlL K) := by
  subst h
  exact sl_list
end R
set_option maxRecDepth 100000
set_option maxHeartbeats 4000000
namespace R
open PySem PySem.Spec PyProof.Rows L2 RZ
open PySem.W (Datum)
def topS (i : Nat) : Stmt := PySem.Challenge.pw_reelrows_k19_whole_sorted.main.body.getD i (.Pass ⟨0, 0, 0, 0⟩)
abbrev s_is_whole : Stmt := topS 4
abbrev N_is_whole : List Str := ["thing", "low", "high"]
theorem sc_is_whole : FnScope ["thing", "low", "high"] ["thing", "low", "high"] (defScope s_is_whole) := ⟨rfl, rfl, rfl, by decide +kernel, rfl, by decide +kernel, by decide +kernel⟩
abbrev s_look_number : Stmt := topS 5
abbrev N_look_number : List Str := ["thing", "low", "high"]
theorem sc_look_number : FnScope ["thing", "low", "high"] ["thing", "low", "high"] (defScope s_look_number) := ⟨rfl, rfl, rfl, by decide +kernel, rfl, by decide +kernel, by decide +kernel⟩
abbrev s_look_texts : Stmt := topS 7
abbrev N_look_texts : List Str := ["records", "record"]
theorem sc_look_texts : FnScope ["records", "record"] ["records"] (defScope s_look_texts) := ⟨rfl, rfl, rfl, by decide +kernel, rfl, by decide +kernel, by decide +kernel⟩
abbrev s_runs_of : Stmt := topS 8
abbrev N_runs_of : List Str := ["records", "room", "inside", "rest", "found", "able", "best", "one"]
theorem sc_runs_of : FnScope ["records", "room", "inside", "rest", "found", "able", "best", "one"] ["records", "room"] (defScope s_runs_of) := ⟨rfl, rfl, rfl, by decide +kernel, rfl, by decide +kernel, by decide +kernel⟩
abbrev s_merged : Stmt := topS 9
abbrev N_merged : List Str := ["rows", "row", "left", "found", "heads", "best", "at", "k"]
theorem sc_merged : FnScope ["rows", "row", "left", "found", "heads", "best", "at", "k"] ["rows"] (defScope s_merged) := ⟨rfl, rfl, rfl, by decide +kernel, rfl, by decide +kernel, by decide +kernel⟩
abbrev s_passes : Stmt := topS 10
abbrev N_passes : List Str := ["rows", "ways", "turns"]
theorem sc_passes : FnScope ["rows", "ways", "turns"] ["rows", "ways"] (defScope s_passes) := ⟨rfl, rfl, rfl, by decide +kernel, rfl, by decide +kernel, by decide +kernel⟩
abbrev s_sorted_by : Stmt := topS 11
abbrev N_sorted_by : List Str := ["records", "room", "ways", "rows", "turns", "k"]
theorem sc_sorted_by : FnScope ["records", "room", "ways", "rows", "turns", "k"] ["records", "room", "ways"] (defScope s_sorted_by) := ⟨rfl, rfl, rfl, by decide +kernel, rfl, by decide +kernel, by decide +kernel⟩
abbrev s__law_town : Stmt := topS 13
abbrev N__law_town : List Str := ["_law_script"]
theorem sc__law_town : FnScope ["_law_script"] ["_law_script"] (defScope s__law_town) := ⟨rfl, rfl, rfl, by decide +kernel, rfl, by decide +kernel, by decide +kernel⟩
abbrev s__law_draw : Stmt := topS 14
abbrev N__law_draw : List Str := ["_law_town_here", "_law_many", "_law_row", "_law_at", "_law_cell", "_law_mixed"]
theorem sc__law_draw : FnScope ["_law_town_here", "_law_many", "_law_row", "_law_at", "_law_cell", "_law_mixed"] ["_law_town_here", "_law_many"] (defScope s__law_draw) := ⟨rfl, rfl, rfl, by decide +kernel, rfl, by decide +kernel, by decide +kernel⟩
abbrev s__law_pick : Stmt := topS 15
abbrev N__law_pick : List Str := ["_law_town_here", "_law_some"]
theorem sc__law_pick : FnScope ["_law_town_here", "_law_some"] ["_law_town_here", "_law_some"] (defScope s__law_pick) := ⟨rfl, rfl, rfl, by decide +kernel, rfl, by decide +kernel, by decide +kernel⟩
abbrev s__law_whole : Stmt := topS 16
abbrev N__law_whole : List Str := ["_law_thing"]
theorem sc__law_whole : FnScope ["_law_thing"] ["_law_thing"] (defScope s__law_whole) := ⟨rfl, rfl, rfl, by decide +kernel, rfl, by decide +kernel, by decide +kernel⟩
abbrev s__law_text : Stmt := topS 17
abbrev N__law_text : List Str := ["_law_town_here", "_law_most", "_law_k"]
theorem sc__law_text : FnScope ["_law_town_here", "_law_most", "_law_k"] ["_law_town_here", "_law_most"] (defScope s__law_text) := ⟨rfl, rfl, rfl, by decide +kernel, rfl, by decide +kernel, by decide +kernel⟩
abbrev s__law_runs : Stmt := topS 18
abbrev N__law_runs : List Str := ["_law_records", "_law_space_of", "_law_inside", "_law_rest", "_law_found", "_law_able", "_law_best", "_law_one"]
theorem sc__law_runs : FnScope ["_law_records", "_law_space_of", "_law_inside", "_law_rest", "_law_found", "_law_able", "_law_best", "_law_one"] ["_law_records", "_law_space_of"] (defScope s__law_runs) := ⟨rfl, rfl, rfl, by decide +kernel, rfl, by decide +kernel, by decide +kernel⟩
abbrev s_law : Stmt := topS 19
abbrev N_law : List Str := ["_law_script", "_law_town_here", "_law_records", "_law_kept", "_law_space", "_law_many", "_law_rows", "_law_one", "_law_told", "_law_turns", "_law_left", "_law_k", "_law_row"]
theorem sc_law : FnScope ["_law_script", "_law_town_here", "_law_records", "_law_kept", "_law_space", "_law_many", "_law_rows", "_law_one", "_law_told", "_law_turns", "_law_left", "_law_k", "_law_row"] ["_law_script"] (defScope s_law) := ⟨rfl, rfl, rfl, by decide +kernel, rfl, by decide +kernel, by decide +kernel⟩
structure Txt (K : PySem.W.Frag) (mg : Str → Option Value) where
  BadNumber : ExcAt K mg "BadNumber"
  BadRecord : ExcAt K mg "BadRecord"
  is_whole : DefAt K mg "is_whole" s_is_whole ["thing", "low", "high"]
  look_number : DefAt K mg "look_number" s_look_number ["thing", "low", "high"]
  look_texts : DefAt K mg "look_texts" s_look_texts ["records"]
  runs_of : DefKAt K mg "runs_of" s_runs_of
  merged : DefAt K mg "merged" s_merged ["rows"]
  passes : DefKAt K mg "passes" s_passes
  sorted_by : DefKAt K mg "sorted_by" s_sorted_by
  _law_town : DefAt K mg "_law_town" s__law_town ["_law_script"]
  _law_draw : DefAt K mg "_law_draw" s__law_draw ["_law_town_here", "_law_many"]
  _law_pick : DefAt K mg "_law_pick" s__law_pick ["_law_town_here", "_law_some"]
  _law_whole : DefAt K mg "_law_whole" s__law_whole ["_law_thing"]
  _law_text : DefAt K mg "_law_text" s__law_text ["_law_town_here", "_law_most"]
  _law_runs : DefAt K mg "_law_runs" s__law_runs ["_law_records", "_law_space_of"]
  law : DefAt K mg "law" s_law ["_law_script"]
  z_isinstance : mg "isinstance" = none
  z_int : mg "int" = none
  z_bool : mg "bool" = none
  z_list : mg "list" = none
  z_all : mg "all" = none
  z_str : mg "str" = none
  z_min : mg "min" = none
  z_sorted : mg "sorted" = none
  z_any : mg "any" = none
  z_enumerate : mg "enumerate" = none
  z_len : mg "len" = none
  z_range : mg "range" = none
  z_tuple : mg "tuple" = none
  kb_runs_of_room : KBn K runs_of.d ["records", "room"] 1 ["room"] (fun us ws => us ++ ws) (fun us ws => us ++ ws)
  kb_sorted_by_room_ways : KBn K sorted_by.d ["records", "room", "ways"] 1 ["room", "ways"] (fun us ws => us ++ ws) (fun us ws => us ++ ws)
  kb_passes_ways : KBn K passes.d ["rows", "ways"] 1 ["ways"] (fun us ws => us ++ ws) (fun us ws => us ++ ws)
end R
set_option maxRecDepth 100000
set_option maxHeartbeats 4000000
namespace R
open PySem PySem.Spec PyProof.Rows L2 RZ
open PySem.W (Datum)
/-! ### the law's draws: some number below the bound; the town's two lists change, nothing else -/
def Town (H : Hp) (t r : Addr) : Prop := ∃ (c : Int) (ns : List Int), H t = some (.lst [.ref r, .int c]) ∧ H r = some (.lst (ns.map V.int)) ∧ 0 < ns.length ∧ ns.length ≤ 63
def But2 (t r : Addr) (H H' : Hp) : Prop := ∀ b o, H b = some o → b ≠ t → b ≠ r → H' b = some o
theorem But2.trans {t r : Addr} {H H1 H2 : Hp} (a : But2 t r H H1) (b : But2 t r H1 H2) : But2 t r H H2 := fun c o h h1 h2 => b c o (a c o h h1 h2) h1 h2
theorem But2.of_same {t r : Addr} {H H' : Hp} (e : Same H H') : But2 t r H H' := fun b o h _ _ => e b o h
theorem Town.same {H H' : Hp} {t r : Addr} (h : Town H t r) (e : Same H H') : Town H' t r := by
  obtain ⟨c, ns, h1, h2, h3, h4⟩ := h
  exact ⟨c, ns, e _ _ h1, e _ _ h2, h3, h4⟩
section
variable {P : Program} {w : World} {K : PySem.W.Frag} {mg : Str → Option Value} {base : Heap}
def sp__law_town (K : PySem.W.Frag) : Sp := fun vs H Q _ => ∃ (a : Addr) (ns : List Int), vs = [.ref a] ∧ SqL K H a (ns.map V.int) ∧ ns.length ≤ 63 ∧
  ∀ t r H', Same H H' → H t = none → H r = none → Town H' t r → Q (.ref t) H'
theorem ok__law_town (T : Txt K mg) : FnOk P w K mg base (L2.CX P w) 1 T._law_town.a T._law_town.d ["_law_script"] (sp__law_town K) := by
  refine T._law_town.F.okX sc__law_town (fun vs H Q E h => ?_) (fun cdv A outer s H vs Q E hr h => ?_)
  · obtain ⟨a, ns, rfl, _⟩ := h
    rfl
  · obtain ⟨a, ns, rfl, hS, hlen, k⟩ := h
    refine ⟨_, (pss_one (ps_ret (pe_lst (pa_cons (pe_ifExp (pt_cmpR (op_neP hr.units) (pv 0) (pe_lst pa_nil) (nomark _)) (pe_callTy call_list_of (by rfl) T.z_list (by decide +kernel) (pa_cons (pv 0) pa_nil)) (pe_lst (pa_cons pe_int pa_nil))) (pa_cons pe_int pa_nil))))), ?_⟩
    refine ⟨_, rfl, Nat.zero_le _, fun p np => ?_⟩
    have s1 := same_new (o := .lst []) np
    refine rNeP_of (dp_intsL (sql_same hS s1)) (dp_intsL (ns := []) (SqL.of upd_same)) ⟨_, rfl, ?_⟩
    refine iteN (fun e => ?_) (fun e => ?_)
    · refine ⟨_, rfl, a, _, rfl, .inl (sql_same hS s1), fun l nl => ?_⟩
      have s2 := s1.trans (same_new (o := .lst (ns.map V.int)) nl)
      refine ⟨(by show 2 ≤ sizeLine; decide), fun t nt => k t l _ (s2.trans (same_new nt)) (s2.free nt) (s1.free nl) ⟨0, ns, upd_same, ?_, ?_, hlen⟩⟩
      · rw [upd_ne (ne_of_none upd_same nt), upd_same]
      · cases ns with
        | nil => exact absurd rfl e
        | cons x r => exact Nat.succ_pos _
    · refine ⟨by decide, fun l nl => ?_⟩
      have s2 := s1.trans (same_new (o := .lst [.int 0]) nl)
      refine ⟨(by show 2 ≤ sizeLine; decide), fun t nt => k t l _ (s2.trans (same_new nt)) (s2.free nt) (s1.free nl) ⟨0, [0], upd_same, ?_, by decide, by decide⟩⟩
      rw [upd_ne (ne_of_none upd_same nt), upd_same]
      all_goals rfl
def sp__law_draw : Sp := fun vs H Q _ => ∃ (t r : Addr) (m : Int), vs = [.ref t, .int m] ∧ Town H t r ∧ 0 < m ∧ m < 1073741824 ∧
  ∀ z H', 0 ≤ z → z < m → But2 t r H H' → Town H' t r → Q (.int z) H'
theorem ok__law_draw (T : Txt K mg) : FnOk P w K mg base (L2.CX P w) 1 T._law_draw.a T._law_draw.d ["_law_town_here", "_law_many"] sp__law_draw := by
  refine T._law_draw.F.okX sc__law_draw (fun vs H Q E h => ?_) (fun cdv A outer s H vs Q E hr h => ?_)
  · obtain ⟨t, r, m, rfl, _⟩ := h
    rfl
  · obtain ⟨t, r, m, rfl, ⟨c, ns, ht, hrr, hpos, hlen⟩, hm, hm2, k⟩ := h
    refine ⟨_, (pss_cons (ps_set (i := 2) sc__law_draw.nd rfl (.inl rfl) (pe_ix ix_list (pv 0) pe_int (fun _ _ => rfl)))
    (pss_cons (ps_asg (pe_op op_add (pe_ix ix_list (pv 0) pe_int (fun _ _ => rfl)) pe_int) (pg_sub (pv 0) pe_int set_list))
    (pss_cons (ps_set (i := 3) sc__law_draw.nd rfl (.inl rfl) (pe_op op_mod (pe_ix ix_list (pv 0) pe_int (fun _ _ => rfl)) (pe_callB call_len_seq (by rfl) T.z_len PySem.boot_len (pa_cons (pv 2) pa_nil))))
    (pss_cons (ps_set (i := 4) sc__law_draw.nd rfl (.inl rfl) (pe_ix ix_list (pv 2) (pv 3) (fun _ _ => rfl)))
    (pss_cons (ps_if (pt_cmpR op_ge (pv 4) pe_int (nomark _))
      (pss_cons (ps_asg (pe_op op_fdiv (pv 4) (pv 1)) (pg_sub (pv 2) (pv 3) set_list))
      (pss_one (ps_ret (pe_op op_mod (pv 4) (pv 1)))))
      pss_nil)
    (pss_cons (ps_set (i := 5) sc__law_draw.nd rfl (.inl rfl) (pe_op op_mod (pe_op op_add (pv 4) (pe_op op_mul pe_int (pe_ix ix_list (pv 0) pe_int (fun _ _ => rfl)))) pe_int))
    (pss_cons (ps_set (i := 5) sc__law_draw.nd rfl (.inl rfl) (pe_op op_mod (pe_op op_pow (pv 5) pe_int) pe_int))
    (pss_one (ps_ret (pe_op op_mod (pe_op op_fdiv (pe_op op_mod (pe_op op_add (pe_op op_mul (pe_op op_fdiv (pv 5) pe_int) pe_int) (pv 5)) pe_int) pe_int) (pv 1))))))))))), ?_⟩
    refine ⟨_, rfl, t, _, 0, _, rfl, rfl, SqL.of ht, rfl, ?_⟩
    refine ⟨_, rfl, t, _, 1, _, rfl, rfl, SqL.of ht, rfl, _, _, rfl, rfl, _, rfl, t, _, 1, 1, rfl, rfl, ht, rfl, ?_⟩
    have ntr : t ≠ r := by
      intro e; subst e
      rw [ht] at hrr
      cases ns with
      | nil => exact absurd hpos (Nat.lt_irrefl _)
      | cons x q => cases hrr
    have ht1 : upd H t (HO.lst [.ref r, .int (c + 1)]) t = some (.lst [.ref r, .int (c + 1)]) := upd_same
    have hr1 : upd H t (HO.lst [.ref r, .int (c + 1)]) r = some (.lst (ns.map V.int)) := by rw [upd_ne ntr.symm]; exact hrr
    have hl0 : (0 : Int) < ((ns.map V.int).length : Int) := by rw [List.length_map]; omega
    refine ⟨_, rfl, t, _, 1, _, rfl, rfl, SqL.of ht1, rfl, _, rfl, r, _, rfl, .inl (SqL.of hr1), _, _, rfl, rfl, hl0, ?_⟩
    have h0 : 0 ≤ (c + 1) % ((ns.map V.int).length : Int) := Int.emod_nonneg _ (by omega)
    have h1 : (c + 1) % ((ns.map V.int).length : Int) < ((ns.map V.int).length : Int) := Int.emod_lt_of_pos _ hl0
    obtain ⟨j, ej⟩ : ∃ j : Nat, (c + 1) % ((ns.map V.int).length : Int) = (j : Int) := ⟨((c + 1) % ((ns.map V.int).length : Int)).toNat, by omega⟩
    have hj : j < ns.length := by rw [List.length_map] at h1 ej; omega
    have gj : (ns.map V.int)[j]? = some (.int ns[j]) := by
      rw [List.getElem?_map, List.getElem?_eq_getElem hj]
      rfl
    refine ⟨_, rfl, _, rfl, r, _, _, _, rfl, rfl, SqL.of hr1, at_of ej gj, ?_⟩
    refine ⟨_, rfl, _, _, rfl, rfl, _, rfl, iteD (fun e => ?_) (fun e => ?_)⟩
    · have ixj : ixN (ns.map V.int).length ((c + 1) % ((ns.map V.int).length : Int)) = some j := by
        rw [ej]
        unfold ixN
        rw [if_pos (by omega), if_pos (by rw [List.length_map]; omega), Int.toNat_natCast]
      refine ⟨_, rfl, _, rfl, _, _, rfl, rfl, ⟨hm, hm2⟩, _, rfl, _, rfl, r, _, _, j, rfl, rfl, hr1, ixj, ?_⟩
      refine ⟨_, rfl, _, rfl, _, _, rfl, rfl, hm, ?_⟩
      refine k _ _ (Int.emod_nonneg _ (by omega)) (Int.emod_lt_of_pos _ hm) (fun b o hb n1 n2 => ?_) ⟨c + 1, ns.set j (ns[j] / m), ?_, ?_, ?_, ?_⟩
      · rw [upd_ne n2, upd_ne n1]; exact hb
      · rw [upd_ne ntr]; exact ht1
      · rw [upd_same, List.map_set]
      · rw [List.length_set]; exact hpos
      · rw [List.length_set]; exact hlen
    · refine ⟨_, rfl, _, rfl, t, _, 1, _, rfl, rfl, SqL.of ht1, rfl, _, _, rfl, rfl, .inl ⟨by decide, by decide⟩, _, _, rfl, rfl, _, _, rfl, rfl, (show (0 : Int) < 4294967291 by decide), ?_⟩
      have b0 : 0 ≤ (ns[j] + 104729 * (c + 1)) % 4294967291 := Int.emod_nonneg _ (by decide)
      have b1 : (ns[j] + 104729 * (c + 1)) % 4294967291 < 4294967291 := Int.emod_lt_of_pos _ (by decide)
      refine ⟨_, rfl, _, _, rfl, rfl, ⟨by decide, by decide, by omega⟩, _, _, rfl, rfl, (show (0 : Int) < 4294967279 by decide), ?_⟩
      generalize ((ns[j] + 104729 * (c + 1)) % 4294967291) ^ (5 : Int).toNat = q
      have c0 : 0 ≤ q % 4294967279 := Int.emod_nonneg _ (by decide)
      have c1 : q % 4294967279 < 4294967279 := Int.emod_lt_of_pos _ (by decide)
      refine ⟨_, rfl, _, _, rfl, rfl, ⟨by decide, by decide⟩, _, _, rfl, rfl, .inr ⟨by decide, by decide⟩, _, rfl, _, _, rfl, rfl, _, _, rfl, rfl, (show (0 : Int) < 4294967231 by decide), _, _, rfl, rfl, ⟨by decide, by decide⟩, _, rfl, _, _, rfl, rfl, hm, ?_⟩
      exact k _ _ (Int.emod_nonneg _ (by omega)) (Int.emod_lt_of_pos _ hm) (fun b o hb n1 n2 => by rw [upd_ne n1]; exact hb) ⟨c + 1, ns, ht1, hr1, hpos, hlen⟩
theorem sql_but2 {t r l : Addr} {H H' : Hp} {xs : List V} (h : SqL K H l xs) (n1 : l ≠ t) (n2 : l ≠ r) (k : But2 t r H H') : SqL K H' l xs := by
  rcases h with (h | ⟨o, h⟩) | h
  · exact .inl (.inl (k _ _ h n1 n2))
  · exact .inl (.inr ⟨o, k _ _ h n1 n2⟩)
  · exact .inr h
def sp__law_pick (K : PySem.W.Frag) : Sp := fun vs H Q _ => ∃ (t r l : Addr) (xs : List V), vs = [.ref t, .ref l] ∧ Town H t r ∧ SqL K H l xs ∧ l ≠ t ∧ l ≠ r ∧ 0 < xs.length ∧ xs.length < 1000 ∧
  ∀ (j : Nat) (v : V) (H' : Hp), xs[j]? = some v → But2 t r H H' → Town H' t r → Q v H'
theorem ok__law_pick (T : Txt K mg) : FnOk P w K mg base (L2.CX P w) 2 T._law_pick.a T._law_pick.d ["_law_town_here", "_law_some"] (sp__law_pick K) := by
  refine T._law_pick.F.okX sc__law_pick (fun vs H Q E h => ?_) (fun cdv A outer s H vs Q E hr h => ?_)
  · obtain ⟨t, r, l, xs, rfl, _⟩ := h
    rfl
  · obtain ⟨t, r, l, xs, rfl, hT, hl, n1, n2, hpos, hlen, k⟩ := h
    refine ⟨_, (pss_one (ps_ret (pe_ix ix_list (pv 1) (pe_call (ok__law_draw T) (hr.mono (by decide)) (by rfl) T._law_draw.g T._law_draw.F.kp T._law_draw.b .nil passL (pa_cons (pv 0) (pa_cons (pe_callB call_len_seq (by rfl) T.z_len PySem.boot_len (pa_cons (pv 1) pa_nil)) pa_nil))) (fun _ _ => rfl)))), ?_⟩
    refine ⟨_, rfl, _, rfl, _, rfl, _, _, rfl, .inl hl, t, r, _, rfl, hT, by omega, by omega, fun z H' h0 h1 kb hT' => ?_⟩
    obtain ⟨j, ej⟩ : ∃ j : Nat, z = (j : Int) := ⟨z.toNat, by omega⟩
    have hj : j < xs.length := by omega
    exact ⟨l, _, _, xs[j], rfl, rfl, sql_but2 hl n1 n2 kb, at_of ej (List.getElem?_eq_getElem hj), k j _ _ (List.getElem?_eq_getElem hj) kb hT'⟩
end
end R
set_option maxRecDepth 100000
set_option maxHeartbeats 4000000
namespace R
open PySem PySem.Spec PyProof.Rows L2 RZ
open PySem.W (Datum)
def isWhole (x : V) (lo hi : Int) : Bool := match x with
  | .int i => decide (lo ≤ i) && decide (i ≤ hi)
  | _ => false
def sigL : List Nat := [65, 66, 67, 68, 69, 70, 71, 72, 73, 74, 75, 76, 77, 78, 79, 80, 81, 82, 83, 84, 85, 86, 87, 88, 89, 90, 48, 49, 50, 51, 52, 53, 54, 55, 56, 57]
def nameL (l : List Nat) (m : Int) : Bool := decide (1 ≤ (l.length : Int)) && decide ((l.length : Int) ≤ m) && l.all fun c => decide (c ∈ sigL)
def isName (x : V) (m : Int) : Bool := match x with
  | .str z => nameL z.cps.toList m
  | _ => false
theorem isName_S (l : List Nat) (m : Int) : isName (.str (S l)) m = nameL l m := by
  show nameL (S l).cps.toList m = nameL l m
  rw [S_cps]
/-- a text's size is bounded -/
def Sz (x : V) : Prop := match x with
  | .str z => z.length < 16777216
  | _ => True
theorem all_id_map (l : List Nat) (f : Nat → Bool) : (l.map f).all id = l.all f := by
  rw [List.all_map]
  rfl
theorem len_cps (z : Str) : z.cps.toList.length = z.length := by simp [Str.length]
section
variable {P : Program} {w : World} {K : PySem.W.Frag} {mg : Str → Option Value} {base : Heap}
def sp_is_whole (K : PySem.W.Frag) : Sp := fun vs H Q _ => ∃ (x : V) (n : String) (lo hi : Int), vs = [x, .int lo, .int hi] ∧ Pl K H x n ∧ Q (.bl (isWhole x lo hi)) H
theorem ok_is_whole (T : Txt K mg) : FnOk P w K mg base (L2.CX P w) 1 T.is_whole.a T.is_whole.d ["thing", "low", "high"] (sp_is_whole K) := by
  refine T.is_whole.F.okX sc_is_whole (fun vs H Q E h => ?_) (fun cdv A outer s H vs Q E hr h => ?_)
  · obtain ⟨x, n, lo, hi, rfl, _⟩ := h
    rfl
  · obtain ⟨x, n, lo, hi, rfl, hp, k⟩ := h
    refine ⟨_, (pss_one (ps_ret (pe_and (pe_callB call_isi (by rfl) T.z_isinstance (by decide +kernel) (pa_cons (pv 0) (pa_cons (pe_bltn (v := .ty "int") (by rfl) T.z_int (by decide +kernel) rfl) pa_nil))) (pe_and (pe_not (pe_callB call_isi (by rfl) T.z_isinstance (by decide +kernel) (pa_cons (pv 0) (pa_cons (pe_bltn (v := .ty "bool") (by rfl) T.z_bool (by decide +kernel) rfl) pa_nil)))) (pe_one (pe_chain op_le op_le (pv 1) (pv 0) (pv 2))))))), ?_⟩
    refine ⟨_, rfl, _, _, _, _, _, rfl, .ty _, hp.ty, kit_int hp, _, rfl, ?_⟩
    have stop : ∀ b, isWhole x lo hi = b → Q (.bl b) H := fun b e => by rw [← e]; exact k
    cases hp with
    | int i =>
      refine iteT ⟨_, rfl, _, _, _, _, _, rfl, .ty _, (Pl.int i).ty, kit_bool (Pl.int (K := K) (H := H) i), _, rfl, _, rfl, iteT ?_⟩
      refine ⟨_, rfl, _, rfl, _, _, rfl, rfl, _, rfl, iteD (fun e => ?_) (fun e => ?_)⟩
      · refine ⟨_, rfl, _, _, rfl, rfl, stop _ ?_⟩
        simp [isWhole, e]
      · exact stop _ (by simp [isWhole, e])
    | bl b => exact iteT ⟨_, rfl, _, _, _, _, _, rfl, .ty _, (Pl.bl b).ty, kit_bool (Pl.bl (K := K) (H := H) b), _, rfl, _, rfl, iteF (stop _ rfl)⟩
    | non => exact iteF (stop _ rfl)
    | str z => exact iteF (stop _ rfl)
    | lst h => exact iteF (stop _ rfl)
    | tup h => exact iteF (stop _ rfl)
    | dct h => exact iteF (stop _ rfl)
def sp_look_number (K : PySem.W.Frag) (CN : Addr) : Sp := fun vs H Q E => ∃ (x : V) (n : String) (lo hi : Int), vs = [x, .int lo, .int hi] ∧ Pl K H x n ∧ (isWhole x lo hi = true → Q .non H) ∧ (isWhole x lo hi = false → E (.ref CN) none H)
theorem ok_look_number (T : Txt K mg) : FnOk P w K mg base (L2.CX P w) 2 T.look_number.a T.look_number.d ["thing", "low", "high"] (sp_look_number K T.BadNumber.C) := by
  refine T.look_number.F.okX sc_look_number (fun vs H Q E h => ?_) (fun cdv A outer s H vs Q E hr h => ?_)
  · obtain ⟨x, n, lo, hi, rfl, _⟩ := h
    rfl
  · obtain ⟨x, n, lo, hi, rfl, hp, k1, k2⟩ := h
    refine ⟨_, (pss_one (ps_if (pt_not (pt_val (pe_call (ok_is_whole T) (hr.mono (by decide)) (by rfl) T.is_whole.g T.is_whole.F.kp T.is_whole.b .nil (passes_call (takes_of rfl rfl rfl rfl) (fun _ _ _ _ h => h)) (pa_cons (pv 0) (pa_cons (pv 1) (pa_cons (pv 2) pa_nil))))))
      (pss_one (ps_raise rfl (takes_of rfl rfl rfl rfl) (pmk_own PySem.F.excBase_ValueError T.BadNumber.x T.BadNumber.g T.BadNumber.k (raises_own T.BadNumber.b T.BadNumber.t) (by exact rfl))))
      pss_nil)), ?_⟩
    refine ⟨_, rfl, _, rfl, _, rfl, x, n, lo, hi, rfl, hp, _, rfl, iteNB (fun e => ?_) (fun e => ?_)⟩
    · exact k2 e
    · exact k1 e
end
end R
set_option maxRecDepth 100000
set_option maxHeartbeats 4000000
namespace R
open PySem PySem.Spec PyProof.Rows L2 RZ
open PySem.W (Datum)
def isForm (l : List Nat) : Bool := decide (l = [70]) || (decide (l = [86]) || decide (l = [83]))
/-- form, block, size fit -/
def okSizes (l : List Nat) (b s : Int) : Bool := !(decide (l = [70]) && decide (b < s) || decide (l = [86]) && decide (b < s + 3))
def okForm (x b s : V) : Bool := match x, b, s with
  | .str z, .int b, .int s => isForm z.cps.toList && (isWhole (.int b) 5 60 && (isWhole (.int s) 1 200 && okSizes z.cps.toList b s))
  | _, _, _ => false
theorem inForms (l : List Nat) : inV (.str (S l)) [.str (S [70]), .str (S [86]), .str (S [83])] = isForm l := by
  have h : ∀ k : List Nat, eqV (.str (S k)) (.str (S l)) = decide (l = k) := by
    intro k
    show (S k == S l) = _
    rw [Bool.eq_iff_iff, beq_iff_eq, decide_eq_true_eq, S_inj]
    exact ⟨fun e => e.symm, fun e => e.symm⟩
  unfold inV isForm
  rw [List.any_cons, List.any_cons, List.any_cons, List.any_nil, h, h, h, Bool.or_false]
theorem whole_int {x : V} {lo hi : Int} (h : isWhole x lo hi = true) : ∃ i, x = .int i ∧ lo ≤ i ∧ i ≤ hi := by
  cases x with
  | int i =>
    have h' : (decide (lo ≤ i) && decide (i ≤ hi)) = true := h
    rw [Bool.and_eq_true, decide_eq_true_eq, decide_eq_true_eq] at h'
    exact ⟨i, rfl, h'⟩
  | _ => exact nomatch h
theorem okForm_iff {x b s : V} (h : okForm x b s = true) : ∃ (l : List Nat) (bi si : Nat), x = .str (S l) ∧ b = .int bi ∧ s = .int si ∧ isForm l = true ∧ 5 ≤ bi ∧ bi ≤ 60 ∧ 1 ≤ si ∧ si ≤ 200 ∧ okSizes l bi si = true := by
  unfold okForm at h
  split at h
  · rename_i z b s
    rw [Bool.and_eq_true, Bool.and_eq_true, Bool.and_eq_true] at h
    obtain ⟨h1, h2, h3, h4⟩ := h
    obtain ⟨i, e, h5, h6⟩ := whole_int h2
    obtain ⟨j, e', h7, h8⟩ := whole_int h3
    cases e
    cases e'
    have eb : ((b.toNat : Nat) : Int) = b := by omega
    have es : ((s.toNat : Nat) : Int) = s := by omega
    exact ⟨z.cps.toList, b.toNat, s.toNat, by rw [← S_of], by rw [eb], by rw [es], h1, by omega, by omega, by omega, by omega, by rw [eb, es]; exact h4⟩
  · exact nomatch h
theorem okForm_of {l : List Nat} {b s : Nat} (h1 : isForm l = true) (h2 : 5 ≤ b ∧ b ≤ 60) (h3 : 1 ≤ s ∧ s ≤ 200) (h4 : okSizes l b s = true) : okForm (.str (S l)) (.int b) (.int s) = true := by
  show (isForm (S l).cps.toList && (isWhole (.int b) 5 60 && (isWhole (.int s) 1 200 && okSizes (S l).cps.toList b s))) = true
  rw [S_cps, h1, h4]
  have e1 : isWhole (.int (b : Int)) 5 60 = true := by
    show (decide (5 ≤ (b : Int)) && decide ((b : Int) ≤ 60)) = true
    rw [decide_eq_true (by omega), decide_eq_true (by omega)]; rfl
  have e2 : isWhole (.int (s : Int)) 1 200 = true := by
    show (decide (1 ≤ (s : Int)) && decide ((s : Int) ≤ 200)) = true
    rw [decide_eq_true (by omega), decide_eq_true (by omega)]; rfl
  rw [e1, e2]; rfl
theorem iteOr {c d : Bool} {A B : Prop} (h1 : (c || d) = true → A) (h2 : (c || d) = false → B) : if c = true then (if true = true then A else B) else (if d = true then A else B) := by
  cases c with
  | true => exact iteT (iteT (h1 rfl))
  | false =>
    cases d with
    | true => exact iteF (iteT (h1 rfl))
    | false => exact iteF (iteF (h2 rfl))
section
variable {P : Program} {w : World} {K : PySem.W.Frag} {mg : Str → Option Value} {base : Heap}
end
end R
set_option maxRecDepth 100000
set_option maxHeartbeats 4000000
namespace R
open PySem PySem.Spec PyProof.Rows L2 RZ
open PySem.W (Datum)
theorem But2.refl {t r : Addr} (H : Hp) : But2 t r H H := fun _ _ h _ _ => h
theorem Town.ne {H : Hp} {t r p : Addr} (h : Town H t r) (n : H p = none) : p ≠ t ∧ p ≠ r := by
  obtain ⟨c, ns, h1, h2, _⟩ := h
  exact ⟨fun e => (by rw [e, h1] at n; cases n), fun e => (by rw [e, h2] at n; cases n)⟩
theorem town_new {H : Hp} {t r p : Addr} {o : HO} (h : Town H t r) (n : H p = none) : Town (upd H p o) t r := h.same (same_new n)
/-- a comprehension whose items draw -/
theorem lc_draw {J : It} {n : Nat} {G : Hp → Prop} {Y : Nat → Hp → V → Hp → Prop} (w : Walk J n G Y) {g : TG} {te : TE} {vs : List Nat} {σ : L2.St} {H1 : Hp} {D t r : Addr} {Qd : Hp → Prop} (R : Nat → V → Prop) (hn : n < 16777216) (nD : H1 D = none) (ht : Town H1 t r)
    (hY : ∀ i H x H', Y i H x H' → Same H H') (hG : ∀ H, But2 t r H1 H → G H)
    (hs : ∀ i x H H', i < n → But2 t r H1 H' → Town H' t r → Y i H x H' → ∀ Q : VK, (∀ y H2, R i y → But2 t r H' H2 → Town H2 t r → Q y H2) → g x (wipe σ vs) H' fun σ2 H2 => wipe σ2 vs = wipe σ vs ∧ te σ2 H2 Q)
    (hd : ∀ xs H, xs.length = n → (∀ i x, xs[i]? = some x → R i x) → But2 t r H1 H → Town H t r → H D = some (.lst xs) → Qd H)
    (hg : ∀ x σ H (R R' : L2.St → Hp → Prop), (∀ σ2 H2, R σ2 H2 → R' σ2 H2) → g x σ H R → g x σ H R') :
    ∃ W : Nat → Nat → Hp → Prop, (∃ m, W 0 m (upd H1 D (.lst []))) ∧ ∀ i m H, W i m H →
      (J.stop i H ∧ Qd H) ∨ (J.go i H ∧ ∃ Nx : Hp → Prop, (∀ H', Nx H' → ∃ m', m' < m ∧ W (i + 1) m' H') ∧ ∀ x H', J.yld i H x H' → g x (wipe σ vs) H' fun σ2 H2 => wipe σ2 vs = wipe σ vs ∧ tYes σ2 H2 fun b H3 =>
        if b = true then te σ2 H3 fun y H4 => ∃ acc, H4 D = some (.lst acc) ∧ acc.length < sizeLine ∧ Nx (upd H4 D (.lst (acc ++ [y]))) else Nx H3) := by
  have nt := ht.ne nD
  refine lc_it w (fun i H => But2 t r H1 H ∧ Town H t r ∧ ∃ xs, xs.length = i ∧ (∀ j x, xs[j]? = some x → R j x) ∧ H D = some (.lst xs)) ⟨But2.of_same (same_new nD), town_new ht nD, [], rfl, fun j x h => by simp at h, upd_same⟩ (fun i H _ p => hG H p.1) (fun i x H H' hi p y => ?_) (fun H p => ?_)
  · obtain ⟨pb, pt, xs, hl, hR, hD⟩ := p
    have sH' := hY _ _ _ _ y
    refine hg _ _ _ _ _ (fun σ2 H2 z => z) (hs i x H H' hi (pb.trans (But2.of_same sH')) (pt.same sH') y _ fun v H2 hv b2 t2 => ?_)
    have hD2 : H2 D = some (.lst xs) := b2 _ _ (sH' _ _ hD) nt.1 nt.2
    refine ⟨xs, hD2, szl (by omega), ?_, ?_, xs ++ [v], by rw [List.length_append, hl]; rfl, ?_, upd_same⟩
    · intro b o hb h1 h2
      rw [upd_ne (ne_of_none hb nD)]
      exact b2 _ _ (sH' _ _ (pb _ _ hb h1 h2)) h1 h2
    · obtain ⟨c, ns, g1, g2, g3, g4⟩ := t2
      exact ⟨c, ns, by rw [upd_ne nt.1.symm]; exact g1, by rw [upd_ne nt.2.symm]; exact g2, g3, g4⟩
    · intro j x hx
      by_cases hj : j < xs.length
      · rw [List.getElem?_append_left hj] at hx
        exact hR j x hx
      · rw [List.getElem?_append_right (by omega)] at hx
        have : j - xs.length = 0 := by
          cases e : j - xs.length with
          | zero => rfl
          | succ q => rw [e] at hx; simp at hx
        rw [this] at hx
        have ej : j = i := by omega
        rw [ej]
        have ex : v = x := Option.some.inj hx
        rw [← ex]
        exact hv
  · obtain ⟨pb, pt, xs, hl, hR, hD⟩ := p
    exact hd xs H hl hR pb pt hD
theorem chars_of {p : Nat → Prop} : ∀ {xs : List V}, (∀ (i : Nat) x, xs[i]? = some x → ∃ c, x = V.str (S [c]) ∧ p c) → ∃ l : List Nat, xs = (l.map fun c => [c]).map (fun l => V.str (S l)) ∧ l.length = xs.length ∧ ∀ c ∈ l, p c
  | [], _ => ⟨[], rfl, rfl, fun c h => by simp at h⟩
  | x :: xs, h => by
    obtain ⟨c, rfl, hc⟩ := h 0 x rfl
    obtain ⟨l, e, hl, hp⟩ := chars_of (xs := xs) fun i x hx => h (i + 1) x hx
    refine ⟨c :: l, by rw [e]; rfl, by simp [hl], fun d hd => ?_⟩
    rcases List.mem_cons.mp hd with rfl | hd
    · exact hc
    · exact hp d hd
theorem flat_chars (l : List Nat) : (l.map fun c => [c]).flatten = l := by
  induction l with
  | nil => rfl
  | cons c r ih => rw [List.map_cons, List.flatten_cons, ih]; rfl
section
variable {P : Program} {w : World} {K : PySem.W.Frag} {mg : Str → Option Value} {base : Heap}
end
end R
set_option maxRecDepth 100000
set_option maxHeartbeats 4000000
namespace R
open PySem PySem.Spec PyProof.Rows L2 RZ
open PySem.W (Datum)
section
variable {P : Program} {w : World} {K : PySem.W.Frag} {mg : Str → Option Value} {base : Heap}
def sp__law_text (K : PySem.W.Frag) : Sp := fun vs H Q _ => ∃ (t r : Addr) (m : Int), vs = [.ref t, .int m] ∧ Town H t r ∧ 0 ≤ m ∧ m < 1000000 ∧
  ∀ (l : List Nat) H', (l.length : Int) ≤ m → (∀ c ∈ l, 32 ≤ c ∧ c ≤ 126) → But2 t r H H' → Town H' t r → Q (.str (S l)) H'
theorem ok__law_text (T : Txt K mg) : FnOk P w K mg base (L2.CX P w) 3 T._law_text.a T._law_text.d ["_law_town_here", "_law_most"] (sp__law_text K) := by
  refine T._law_text.F.okX sc__law_text (fun vs H Q E h => ?_) (fun cdv A outer s0 H vs Q E hr h => ?_)
  · obtain ⟨t, r, m, rfl, _⟩ := h
    rfl
  · obtain ⟨t, r, m, rfl, hT, hm0, hm, k⟩ := h
    refine ⟨_, (pss_one (ps_ret (pe_joinS (pe_strS (l := []) (by decide +kernel)) (pe_lc (own := [("_law_k", 2)]) (g := gName 2) rfl sc__law_text.nd (pi_range1 (by rfl) T.z_range (pa_cons (pe_call (ok__law_draw T) (hr.mono (by decide)) (by rfl) T._law_draw.g T._law_draw.F.kp T._law_draw.b .nil passL (pa_cons (pv 0) (pa_cons (pe_op op_add (pv 1) pe_int) pa_nil))) pa_nil)) (blkOk_by (N := N__law_text) (sc := defScope s__law_text) (by decide +kernel)) (fun _ _ _ _ _ => (pg_name (i := 2) sc__law_text.nd rfl (.inl rfl))) (fun _ _ _ _ _ => pts_nil) (fun _ _ _ _ _ => (pe_call (ok__law_pick T) (hr.mono (by decide)) (by rfl) T._law_pick.g T._law_pick.F.kp T._law_pick.b .nil passL (pa_cons (pv 0) (pa_cons (pe_lst (pa_cons (pe_strS (l := [97]) (by decide +kernel)) (pa_cons (pe_strS (l := [98]) (by decide +kernel)) (pa_cons (pe_strS (l := [32]) (by decide +kernel)) (pa_cons (pe_strS (l := [126]) (by decide +kernel)) (pa_cons (pe_strS (l := [48]) (by decide +kernel)) (pa_cons (pe_strS (l := [57]) (by decide +kernel)) pa_nil))))))) pa_nil)))))))), ?_⟩
    refine ⟨⟨_, rfl⟩, _, rfl, _, rfl, _, _, rfl, rfl, t, r, m + 1, rfl, hT, by omega, by omega, fun z H2 z0 z1 b2 T2 => ⟨_, rfl, by omega, by omega, fun D nD => ?_⟩⟩
    refine lc_draw walk_range (fun _ y => ∃ c, y = V.str (S [c]) ∧ (32 ≤ c ∧ c ≤ 126)) (by omega) nD T2 yfn_same (fun _ _ => trivial) (fun i x H H' hi bb tt hY q qk => ⟨rfl, ?_⟩) (fun xs H3 hl hx b3 T3 hD => ?_) gName_mono
    · refine ⟨_, rfl, sz (by decide), fun p np => ?_⟩
      have n1 := tt.ne np
      refine ⟨t, r, p, _, rfl, town_new tt np, SqL.of upd_same, n1.1, n1.2, by decide, by decide, fun j v H4 hj b4 t4 => qk v H4 ?_ ((But2.of_same (same_new np)).trans b4) t4⟩
      have := List.mem_of_getElem? hj
      simp only [List.mem_cons, List.not_mem_nil, or_false] at this
      rcases this with rfl | rfl | rfl | rfl | rfl | rfl
      · exact ⟨97, rfl, by decide⟩
      · exact ⟨98, rfl, by decide⟩
      · exact ⟨32, rfl, by decide⟩
      · exact ⟨126, rfl, by decide⟩
      · exact ⟨48, rfl, by decide⟩
      · exact ⟨57, rfl, by decide⟩
    obtain ⟨nm, rfl, lnm, hnm⟩ := chars_of fun i x hxi => hx i x hxi
    refine ⟨D, nm.map fun c => [c], rfl, rfl, SqL.of hD, by rw [flat_chars]; omega, ?_⟩
    rw [flat_chars]
    exact k nm H3 (by omega) hnm (b2.trans b3) T3
def sp__law_whole : Sp := fun vs H Q _ => ∃ i : Int, vs = [.int i] ∧ Q (.bl true) H
theorem ok__law_whole (T : Txt K mg) : FnOk P w K mg base (L2.CX P w) 1 T._law_whole.a T._law_whole.d ["_law_thing"] sp__law_whole := by
  refine T._law_whole.F.okX sc__law_whole (fun vs H Q E h => ?_) (fun cdv A outer s0 H vs Q E hr h => ?_)
  · obtain ⟨i, rfl, _⟩ := h
    rfl
  · obtain ⟨i, rfl, k⟩ := h
    refine ⟨_, (pss_one (ps_ret (pe_and (pe_callB call_isi (by rfl) T.z_isinstance (by decide +kernel) (pa_cons (pv 0) (pa_cons (pe_bltn (v := .ty "int") (by rfl) T.z_int (by decide +kernel) rfl) pa_nil))) (pe_one (pe_not (pe_callB call_isi (by rfl) T.z_isinstance (by decide +kernel) (pa_cons (pv 0) (pa_cons (pe_bltn (v := .ty "bool") (by rfl) T.z_bool (by decide +kernel) rfl) pa_nil)))))))), ?_⟩
    have hp : Pl K H (.int i) "int" := .int i
    exact ⟨_, rfl, _, _, _, _, _, rfl, .ty _, hp.ty, kit_int hp, _, rfl, iteT ⟨_, rfl, _, _, _, _, _, rfl, .ty _, hp.ty, kit_bool hp, _, rfl, k⟩⟩
end
end R
set_option maxRecDepth 100000
set_option maxHeartbeats 4000000
namespace R
open PySem PySem.Spec PyProof.Rows L2 RZ
open PySem.W (Datum)
open PySem.NumText
/-- the signs of a text -/
def txt (x : V) : List Nat := match x with
  | .str z => z.cps.toList
  | _ => []
theorem txt_S (l : List Nat) : txt (.str (S l)) = l := S_cps l
theorem nameL_len {l : List Nat} {m : Nat} (h : nameL l m = true) : 1 ≤ l.length ∧ l.length ≤ m := by
  unfold nameL at h
  rw [Bool.and_eq_true, Bool.and_eq_true, decide_eq_true_eq, decide_eq_true_eq] at h
  omega
theorem isName_of {x : V} {m : Nat} (h : isName x m = true) : ∃ l, x = .str (S l) ∧ nameL l m = true := by
  cases x with
  | str z =>
    obtain ⟨l, rfl⟩ : ∃ l, z = S l := ⟨_, S_of z⟩
    rw [isName_S] at h
    exact ⟨l, rfl, h⟩
  | _ => exact nomatch h
def isDig (c : Nat) : Bool := decide (c ∈ ([48, 49, 50, 51, 52, 53, 54, 55, 56, 57] : List Nat))
theorem isDig_iff (c : Nat) : isDig c = true ↔ 48 ≤ c ∧ c ≤ 57 := by
  unfold isDig
  rw [decide_eq_true_eq]
  constructor
  · intro h
    simp only [List.mem_cons, List.not_mem_nil, or_false] at h
    omega
  · intro h
    obtain ⟨k, rfl⟩ : ∃ k, c = 48 + k := ⟨c - 48, by omega⟩
    have : ∀ k, k < 10 → (48 + k) ∈ ([48, 49, 50, 51, 52, 53, 54, 55, 56, 57] : List Nat) := by decide
    exact this k (by omega)
theorem allDig {l : List Nat} (h : l.all isDig = true) : ∀ c ∈ l, 48 ≤ c ∧ c ≤ 57 := fun c hc => (isDig_iff c).mp (List.all_eq_true.mp h c hc)
/-! ### what is read -/
def readVol (l : List Nat) : Option (List Nat × List Nat) :=
  if l.length = 18 ∧ l.take 4 = [86, 79, 76, 49] then
    (if nameL (bareL ((l.take 10).drop 4)) 8 = true ∧ nameL (bareL (l.drop 10)) 8 = true then some (bareL ((l.take 10).drop 4), bareL (l.drop 10)) else none)
  else none
section
variable {P : Program} {w : World} {K : PySem.W.Frag} {mg : Str → Option Value} {base : Heap}
end
end R
set_option maxRecDepth 100000
set_option maxHeartbeats 4000000
namespace R
open PySem PySem.Spec PyProof.Rows L2 RZ
open PySem.W (Datum)
def prnt (l : List Nat) : Bool := l.all fun c => decide (32 ≤ c) && decide (c ≤ 126)
def okRec (f : List Nat) (s : Int) : Option (List Nat) → Bool
  | none => false
  | some l => prnt l && !(decide (s < (l.length : Int)) || (decide (f = [70]) && decide ((l.length : Int) < s)))
def okRecs (f : List Nat) (s : Int) : Option (List (Option (List Nat))) → Bool
  | none => false
  | some rs => rs.all (okRec f s)
theorem lt_one (a b : Nat) : ([a] < [b]) ↔ a < b := by
  rw [List.cons_lt_cons_iff]
  exact ⟨fun h => h.elim id fun h => absurd h.2 (List.not_lt_nil _), .inl⟩
/-- the blocks that parts make: each in the block that is begun, as long as it has room -/
def fillStep (b : Int) (acc : List (List Nat)) (p : List Nat) : List (List Nat) :=
  match acc.getLast? with
  | none => acc ++ [p]
  | some l => if (l.length : Int) + p.length ≤ b then acc.dropLast ++ [l ++ p] else acc ++ [p]
def fill (b : Int) (ps : List (List Nat)) : List (List Nat) := ps.foldl (fillStep b) []
theorem fillStep_len (b : Int) (acc : List (List Nat)) (p : List Nat) : (fillStep b acc p).length ≤ acc.length + 1 := by
  unfold fillStep
  split
  · simp
  · split
    · rw [List.length_append, List.length_dropLast, List.length_singleton]; omega
    · simp
theorem fold_len (b : Int) : ∀ (ps acc : List (List Nat)), (ps.foldl (fillStep b) acc).length ≤ acc.length + ps.length
  | [], acc => by simp
  | p :: ps, acc => by
    rw [List.foldl_cons]
    have h1 := fold_len b ps (fillStep b acc p)
    have h2 := fillStep_len b acc p
    rw [List.length_cons]
    omega
theorem fill_take (b : Int) (ps : List (List Nat)) {i : Nat} {p : List Nat} (h : ps[i]? = some p) : fill b (ps.take (i + 1)) = fillStep b (fill b (ps.take i)) p := by
  unfold fill
  rw [List.take_add_one, h, Option.toList_some, List.foldl_append]
  rfl
theorem fill_all (b : Int) (hb : b < 1000000) : ∀ (ps acc : List (List Nat)), (∀ p ∈ ps, p.length < 1000000) → (∀ l ∈ acc, l.length < 1000000) → ∀ l ∈ ps.foldl (fillStep b) acc, l.length < 1000000
  | [], acc, _, h2, l, hl => h2 l hl
  | p :: ps, acc, h1, h2, l, hl => by
    rw [List.foldl_cons] at hl
    refine fill_all b hb ps _ (fun q hq => h1 q (List.mem_cons_of_mem _ hq)) (fun m hm => ?_) l hl
    have hp := h1 p List.mem_cons_self
    unfold fillStep at hm
    split at hm
    · rcases List.mem_append.mp hm with hm | hm
      · exact h2 m hm
      · rw [List.mem_singleton.mp hm]; exact hp
    · split at hm
      · rename_i l' _ hle
        rcases List.mem_append.mp hm with hm | hm
        · exact h2 m (List.dropLast_subset _ hm)
        · rw [List.mem_singleton.mp hm, List.length_append]; omega
      · rcases List.mem_append.mp hm with hm | hm
        · exact h2 m hm
        · rw [List.mem_singleton.mp hm]; exact hp
theorem snoc_cases {α : Type} (xs : List α) : xs = [] ∨ ∃ ys y, xs = ys ++ [y] := by
  cases h : xs.getLast? with
  | none => exact .inl (List.getLast?_eq_none_iff.mp h)
  | some y =>
    obtain ⟨ys, e⟩ := List.getLast?_eq_some_iff.mp h
    exact .inr ⟨ys, y, e⟩
theorem fillStep_nil (b : Int) (p : List Nat) : fillStep b [] p = [p] := rfl
theorem fillStep_snoc (b : Int) (ys : List (List Nat)) (l p : List Nat) : fillStep b (ys ++ [l]) p = if (l.length : Int) + p.length ≤ b then ys ++ [l ++ p] else ys ++ [l] ++ [p] := by
  unfold fillStep
  rw [List.getLast?_concat]
  dsimp only
  rw [List.dropLast_concat]
/-- the number of three figures ahead -/
def lenIn (t : List Nat) : Option Nat := if (t.take 3).length = 3 ∧ (t.take 3).all isDig = true then some (PySem.NumText.digitsVal (t.take 3)) else none
section
variable {P : Program} {w : World} {K : PySem.W.Frag} {mg : Str → Option Value} {base : Heap}
end
end R
set_option maxRecDepth 100000
set_option maxHeartbeats 8000000
set_option pp.maxSteps 1500
set_option pp.deepTerms false
namespace R
open PySem PySem.Spec PyProof.Rows L2 RZ
open PySem.W (Datum)
def okTx : Option (List (Option (List Nat))) → Bool
  | none => false
  | some rs => rs.all Option.isSome
theorem okTx_ls {r : Option (List (Option (List Nat)))} (h : okTx r = true) : ∃ ls : List (List Nat), r = some (ls.map some) := by
  cases r with
  | none => cases h
  | some rs =>
    refine ⟨rs.map fun o => o.getD [], ?_⟩
    rw [List.map_map]
    congr 1
    have h2 : rs.all Option.isSome = true := h
    rw [List.all_eq_true] at h2
    conv => lhs; rw [← List.map_id rs]
    refine List.map_congr_left fun o ho => ?_
    cases o with
    | none => exact absurd (h2 _ ho) (by decide)
    | some l => rfl
theorem okTx_of (ls : List (List Nat)) : okTx (some (ls.map some)) = true := by
  show (ls.map some).all Option.isSome = true
  rw [List.all_eq_true]
  intro o ho
  obtain ⟨l, _, rfl⟩ := List.mem_map.mp ho
  rfl
theorem items_some {K : PySem.W.Frag} {H : Hp} : ∀ {xs : List V} {ls : List (List Nat)}, Items K H xs (ls.map some) → xs = txs ls ∧ ∀ l ∈ ls, l.length < 16777216
  | [], [], _ => ⟨rfl, fun l h => by cases h⟩
  | _, l :: ls, .cons (.str _ hz) t => by
    obtain ⟨h1, h2⟩ := items_some t
    refine ⟨by rw [h1]; rfl, fun m hm => ?_⟩
    rcases List.mem_cons.mp hm with rfl | hm
    · exact hz
    · exact h2 m hm
section
variable {P : Program} {w : World} {K : PySem.W.Frag} {mg : Str → Option Value} {base : Heap}
def sp_look_texts (K : PySem.W.Frag) (CR : Addr) : Sp := fun vs H Q E => ∃ (v : V) (r : Option (List (Option (List Nat)))), vs = [v] ∧ Recs K H v r ∧ (okTx r = true → ∀ H', Same H H' → Q .non H') ∧ (okTx r = false → ∀ H', Same H H' → E (.ref CR) none H')
theorem ok_look_texts (T : Txt K mg) : FnOk P w K mg base (L2.CX P w) 1 T.look_texts.a T.look_texts.d ["records"] (sp_look_texts K T.BadRecord.C) := by
  refine T.look_texts.F.okX sc_look_texts (fun vs H Q E h => ?_) (fun cdv A outer s0 H vs Q E hr h => ?_)
  · obtain ⟨v, r, rfl, _⟩ := h
    rfl
  · obtain ⟨v, r, rfl, hR, k1, k2⟩ := h
    refine ⟨_, (pss_one (ps_if (PW.pt (pw_or (pt_not (pt_val (pe_callB call_isi (by rfl) T.z_isinstance (by decide +kernel) (pa_cons (pv 0) (pa_cons (pe_bltn (v := .ty "list") (by rfl) T.z_list (by decide +kernel) rfl) pa_nil))))) (pw_or1 (pt_not (pt_val (pe_callB (cr_all rfl) (by rfl) T.z_all (by decide +kernel) (pa_cons (pe_lc (own := [("record", 1)]) (g := gName 1) rfl sc_look_texts.nd (pi_listC (K := K) rfl (pv 0)) (blkOk_by (N := N_look_texts) (sc := defScope s_look_texts) (by decide +kernel)) (fun _ _ _ _ _ => (pg_name (i := 1) sc_look_texts.nd rfl (.inl rfl))) (fun _ _ _ _ _ => pts_nil) (fun _ _ _ _ _ => (pe_callB (call_isiC (K := K) rfl) (by rfl) T.z_isinstance (by decide +kernel) (pa_cons (pv 1) (pa_cons (pe_bltn (v := .ty "str") (by rfl) T.z_str (by decide +kernel) rfl) pa_nil))))) pa_nil)))))))
      (pss_one (ps_raise rfl (takes_of rfl rfl rfl rfl) (pmk_own PySem.F.excBase_ValueError T.BadRecord.x T.BadRecord.g T.BadRecord.k (raises_own T.BadRecord.b T.BadRecord.t) (by exact rfl))))
      pss_nil)), ?_⟩
    obtain ⟨n, hn, hl⟩ := hR.pl
    refine ⟨_, rfl, _, _, _, _, _, rfl, .ty _, hn.ty, kit_list hn, _, rfl, ?_⟩
    rw [hl]
    cases hR with
    | no h hn => exact iteT (k2 rfl _ (Same.refl _))
    | lst hS hi hz =>
      rename_i a xs rs
      refine iteF ?_
      refine ⟨_, rfl, a, rfl, ⟨_, hS⟩, fun D nD => lc_items (i := 1) Option.isSome hS hi hz nD (fun _ => rfl) (fun x r H' hr' hI s1 Q2 q2 => ?_) (fun H' s1 hD => ?_)⟩
      · obtain ⟨n1, hn1, hl1⟩ := hI.pl
        refine ⟨_, rfl, _, _, _, _, _, rfl, .ty _, hn1.ty, kit_str hn1, ?_⟩
        rw [hl1]
        exact q2 _ (Same.refl _)
      · refine ⟨_, _, rfl, SqL.of hD, _, rfl, ?_⟩
        have e : ((rs.map Option.isSome).all id) = okTx (some rs) := by
          rw [List.all_map]
          rfl
        rw [e]
        exact iteNB (fun e => k2 e _ s1) (fun e => k1 e _ s1)
/-- what the loop holds -/
structure RunI (H0 H : Hp) (i r f : Addr) (as : List Addr) (ins rst : List (List Nat)) (rs : List (List (List Nat))) : Prop where
  s : Same H0 H
  hi : H i = some (.lst (txs ins))
  hr : H r = some (.lst (txs rst))
  hf : H f = some (.lst (as.map V.ref))
  ro : Rows H as rs
  nd : (i :: r :: f :: as).Nodup
  fr : ∀ a ∈ i :: r :: f :: as, H0 a = none
  ne : ∀ l ∈ rs, l ≠ []
theorem RunI.same {H0 H H' : Hp} {i r f : Addr} {as : List Addr} {ins rst : List (List Nat)} {rs : List (List (List Nat))} (h : RunI H0 H i r f as ins rst rs) (s : Same H H') : RunI H0 H' i r f as ins rst rs :=
  ⟨h.s.trans s, s _ _ h.hi, s _ _ h.hr, s _ _ h.hf, h.ro.same s, h.nd, h.fr, h.ne⟩
theorem rows_last {rs : List (List (List Nat))} (h : rs ≠ []) (hne : ∀ l ∈ rs, l ≠ []) : ∃ rs0 l0 w, rs = rs0 ++ [l0 ++ [w]] ∧ lastL rs = w := by
  rcases snoc_cases rs with rfl | ⟨rs0, l, rfl⟩
  · exact absurd rfl h
  rcases snoc_cases l with rfl | ⟨l0, w, rfl⟩
  · exact absurd rfl (hne [] (List.mem_append_right _ List.mem_cons_self))
  · refine ⟨rs0, l0, w, rfl, ?_⟩
    unfold lastL
    rw [List.getLast?_concat, Option.getD_some, List.getLast?_concat]
    rfl
theorem insL_len {ins : List (List Nat)} (h : ins ≠ []) (rst : List (List Nat)) (rs : List (List (List Nat))) : (insL ins rst rs).length + rst.tail.length + 1 = ins.length + rst.length := by
  have h1 := List.length_erase_of_mem (bestL_mem h rs)
  have h2 : 0 < ins.length := List.length_pos_iff.mpr h
  unfold insL
  cases rst with
  | nil => simp; omega
  | cons x r => simp; omega
theorem runsF_nil (m : Nat) (rst : List (List Nat)) (rs : List (List (List Nat))) : runsF m [] rst rs = rs := by cases m <;> rfl
theorem sum_snoc (rs : List (List (List Nat))) (l : List (List Nat)) : ((rs ++ [l]).map List.length).sum = (rs.map List.length).sum + l.length := by
  rw [List.map_append, List.sum_append]
  show _ + (l.length + 0) = _
  omega
theorem sum_len {rs : List (List (List Nat))} (h : ∀ l ∈ rs, l ≠ []) : rs.length ≤ (rs.map List.length).sum := by
  induction rs with
  | nil => exact Nat.le_refl _
  | cons l r ih =>
    rw [List.length_cons, List.map_cons, List.sum_cons]
    have h1 := ih fun x hx => h x (List.mem_cons_of_mem _ hx)
    have h2 := List.length_pos_iff.mpr (h l List.mem_cons_self)
    omega
theorem ableL_nil (ins : List (List Nat)) : ableL ins [] = [] := by
  unfold ableL
  exact List.filter_eq_nil_iff.mpr fun a _ h => by simp at h
theorem putL_sum (ins : List (List Nat)) (rs : List (List (List Nat))) : ((putL ins rs).map List.length).sum = (rs.map List.length).sum + 1 := by
  unfold putL
  by_cases e : ableL ins rs = []
  · rw [if_pos e, sum_snoc]; rfl
  · rw [if_neg e]
    rcases snoc_cases rs with rfl | ⟨rs0, l, rfl⟩
    · exact absurd (ableL_nil ins) e
    · rw [List.dropLast_concat, List.getLast?_concat, sum_snoc, sum_snoc, Option.getD_some, List.length_append]
      rfl
theorem len_sum {rs : List (List (List Nat))} {l : List (List Nat)} (h : l ∈ rs) : l.length ≤ (rs.map List.length).sum := by
  induction rs with
  | nil => cases h
  | cons x r ih =>
    rw [List.map_cons, List.sum_cons]
    rcases List.mem_cons.mp h with rfl | h
    · omega
    · have := ih h; omega
theorem cut_txs_to (ls : List (List Nat)) (k : Nat) : cutV (txs ls) none (some (k : Int)) = txs (ls.take k) := by
  show sl (ls.map _) none (some (k : Int)) = _
  rw [sl_to, ← List.map_take]
  rfl
theorem cut_txs_from (ls : List (List Nat)) (k : Nat) : cutV (txs ls) (some (k : Int)) none = txs (ls.drop k) := by
  show sl (ls.map _) (some (k : Int)) none = _
  rw [sl_from, ← List.map_drop]
  rfl
def MidR (H0 : Hp) : TS := fun D σ H => ∃ (i r f b a : Addr) (as : List Addr) (ins rst l ab : List (List Nat)) (rs rs0 : List (List (List Nat))) (o0 o1 o6 : Option V), σ = [o0, o1, some (.ref i), some (.ref r), some (.ref f), some (.ref b), o6, none] ∧
  Same H0 H ∧ H i = some (.lst (txs ins)) ∧ H r = some (.lst (txs rst)) ∧ H f = some (.lst ((as ++ [a]).map V.ref)) ∧ Rows H as rs0 ∧ H a = some (.lst (txs l)) ∧ (i :: r :: f :: (as ++ [a])).Nodup ∧ (∀ x ∈ i :: r :: f :: (as ++ [a]), H0 x = none) ∧ (∀ l ∈ rs0, l ≠ []) ∧
  H b = some (.lst (txs ab)) ∧ ab ≠ [] ∧ least ab = bestL ins rs ∧ putL ins rs = rs0 ++ [l ++ [bestL ins rs]] ∧ ins ≠ [] ∧ l.length < 1000000 ∧ ins.length < 1000000 ∧
  ∀ H' b6 as2, RunI H0 H' i r f as2 (insL ins rst rs) rst.tail (putL ins rs) → D.nx [o0, o1, some (.ref i), some (.ref r), some (.ref f), some (.ref b), some b6, none] H'
def sp_runs_of (K : PySem.W.Frag) (CR CN : Addr) : Sp := fun vs H Q E => ∃ (v x : V) (r : Option (List (Option (List Nat)))) (n : String), vs = [v, x] ∧ Recs K H v r ∧ Pl K H x n ∧ (okTx r = false → ∀ H', Same H H' → E (.ref CR) none H') ∧
  (okTx r = true → isWhole x 1 50 = false → ∀ H', Same H H' → E (.ref CN) none H') ∧
  ∀ (ls : List (List Nat)) (k : Nat), r = some (ls.map some) → x = .int k → 1 ≤ k → k ≤ 50 → ls.length ≤ 100000 ∧ ∀ f as H', Same H H' → H' f = some (.lst (as.map V.ref)) → Rows H' as (runsF ls.length (ls.take k) (ls.drop k) []) → (f :: as).Nodup → (∀ a ∈ f :: as, H a = none) → Q (.ref f) H'
theorem ok_runs_of (T : Txt K mg) : FnOk P w K mg base (L2.CX P w) 3 T.runs_of.a T.runs_of.d ["records", "room"] (sp_runs_of K T.BadRecord.C T.BadNumber.C) := by
  refine T.runs_of.F.okX sc_runs_of (fun vs H Q E h => ?_) (fun cdv A outer s0 H vs Q E hr h => ?_)
  · obtain ⟨v, x, r, n, rfl, _⟩ := h
    rfl
  · obtain ⟨v, x, r, n, rfl, hR, hp, k1, k2, k3⟩ := h
    refine ⟨_, (pss_cons (ps_expr (pe_call (ok_look_texts T) (hr.mono (by decide)) (by rfl) T.look_texts.g T.look_texts.F.kp T.look_texts.b .nil (passes_call (takes_of rfl rfl rfl rfl) (fun _ _ _ _ h => h)) (pa_cons (pv 0) pa_nil)))
    (pss_cons (ps_expr (pe_call (ok_look_number T) (hr.mono (by decide)) (by rfl) T.look_number.g T.look_number.F.kp T.look_number.b .nil (passes_call (takes_of rfl rfl rfl rfl) (fun _ _ _ _ h => h)) (pa_cons (pv 1) (pa_cons pe_int (pa_cons pe_int pa_nil)))))
    (pss_cons (ps_set (i := 2) sc_runs_of.nd rfl (.inl rfl) (pe_callTy call_list_of (by rfl) T.z_list (by decide +kernel) (pa_cons (pe_slice sl_list (pv 0) po_none (po_some (pv 1))) pa_nil)))
    (pss_cons (ps_set (i := 3) sc_runs_of.nd rfl (.inl rfl) (pe_callTy call_list_of (by rfl) T.z_list (by decide +kernel) (pa_cons (pe_slice sl_list (pv 0) (po_some (pv 1)) po_none) pa_nil)))
    (pss_cons (ps_set (i := 4) sc_runs_of.nd rfl (.inr rfl) (pe_lst pa_nil))
    (pss_cons (ps_while (passes_of rfl) (pt_cmpR (op_neP hr.units) (pv 2) (pe_lst pa_nil) (nomark _))
      (pss_cons (ps_setLc (i := 5) (own := [("one", 7)]) (g := gName 7) rfl sc_runs_of.nd rfl rfl (sw_true rfl rfl rfl (by decide +kernel)) (pi_listC (K := K) rfl (pv 2)) (blkOk_by (N := N_runs_of) (sc := defScope s_runs_of) (by decide +kernel)) (fun _ _ _ _ _ => (pg_name (i := 7) sc_runs_of.nd rfl (.inl rfl))) (fun _ _ _ _ _ => (pts_one (PW.pt (pw_and (pt_cmpR (op_nePC (K := K) rfl hr.units) (pv 4) (pe_lst pa_nil) (nomark _)) (pw_and1 (pt_cmpR op_geS (pv 7) (pe_ix (ix_listC (K := K) rfl) (pe_ix (ix_listC (K := K) rfl) (pv 4) (pe_un un_neg pe_int) (fun _ _ => rfl)) (pe_un un_neg pe_int) (fun _ _ => rfl)) (nomark _))))))) (fun _ _ _ _ _ => (pv 7)))
      (pss_cons (ps_if (pt_cmpR (op_eqP hr.units) (pv 5) (pe_lst pa_nil) (nomark _))
        (pss_cons (ps_expr (pe_bm PySem.F.plainAttrs_list PySem.F.slot_list_append PySem.F.type_list_append mt_append (pv 4) (pa_cons (pe_lst pa_nil) pa_nil)))
        (pss_one (ps_set (i := 5) sc_runs_of.nd rfl (.inl rfl) (pv 2))))
        pss_nil)
      (PSs.mid (t' := MidR H) (pss_cons (ps_set (i := 6) sc_runs_of.nd rfl (.inl rfl) (pe_callB (cr_minD rfl hr.units) (by rfl) T.z_min (by decide +kernel) (pa_cons (pv 5) pa_nil)))
      (pss_cons (ps_expr (pe_bm PySem.F.plainAttrs_list PySem.F.slot_list_append PySem.F.type_list_append mt_append (pe_ix ix_list (pv 4) (pe_un un_neg pe_int) (fun _ _ => rfl)) (pa_cons (pv 6) pa_nil)))
      (pss_cons (ps_expr (pe_bm PySem.F.plainAttrs_list PySem.F.slot_list_remove PySem.F.type_list_remove mt_removeS (pv 2) (pa_cons (pv 6) pa_nil)))
      (pss_one (ps_if (pt_cmpR (op_neP hr.units) (pv 3) (pe_lst pa_nil) (nomark _))
        (pss_one (ps_expr (pe_bm PySem.F.plainAttrs_list PySem.F.slot_list_append PySem.F.type_list_append mt_append (pv 2) (pa_cons (pe_bm PySem.F.plainAttrs_list PySem.F.slot_list_pop PySem.F.type_list_pop mt_popAt (pv 3) (pa_cons pe_int pa_nil)) pa_nil))))
        pss_nil))))) ?m1))))
    (pss_one (ps_ret (pv 4))))))))), ?_⟩
    case m1 =>
      rintro D σ H1 ⟨i, r, f, b, a, as, ins, rst, l, ab, rs, rs0, o0, o1, o6, rfl, sm, hi, hrr, hf, hro, ha, hnd, hfr, hne, hb, hab, hle, hput, hins, hl, hil, kD⟩
      have nd1 : i ∉ r :: f :: (as ++ [a]) := (List.nodup_cons.mp hnd).1
      have nd2 : r ∉ f :: (as ++ [a]) := (List.nodup_cons.mp (List.nodup_cons.mp hnd).2).1
      have nd3 : f ∉ as ++ [a] := (List.nodup_cons.mp (List.nodup_cons.mp (List.nodup_cons.mp hnd).2).2).1
      have nd4 : (as ++ [a]).Nodup := (List.nodup_cons.mp (List.nodup_cons.mp (List.nodup_cons.mp hnd).2).2).2
      have nda : a ∉ as := by
        have := List.nodup_append.mp nd4
        exact fun h => this.2.2 a h a List.mem_cons_self rfl
      have ai : i ≠ a := fun e => nd1 (by rw [e]; exact List.mem_cons_of_mem _ (List.mem_cons_of_mem _ (List.mem_append_right _ List.mem_cons_self)))
      have ar : r ≠ a := fun e => nd2 (by rw [e]; exact List.mem_cons_of_mem _ (List.mem_append_right _ List.mem_cons_self))
      have af : f ≠ a := fun e => nd3 (by rw [e]; exact List.mem_append_right _ List.mem_cons_self)
      have ri : r ≠ i := fun e => nd1 (by rw [← e]; exact List.mem_cons_self)
      have fi : f ≠ i := fun e => nd1 (by rw [← e]; exact List.mem_cons_of_mem _ List.mem_cons_self)
      have fr' : f ≠ r := fun e => nd2 (by rw [← e]; exact List.mem_cons_self)
      have ias : i ∉ as := fun h => nd1 (List.mem_cons_of_mem _ (List.mem_cons_of_mem _ (List.mem_append_left _ h)))
      have ras : r ∉ as := fun h => nd2 (List.mem_cons_of_mem _ (List.mem_append_left _ h))
      have f0 : ∀ x, x = i ∨ x = r ∨ x = a → H x = none := fun x hx => hfr x (by
        rcases hx with rfl | rfl | rfl
        · exact List.mem_cons_self
        · exact List.mem_cons_of_mem _ List.mem_cons_self
        · exact List.mem_cons_of_mem _ (List.mem_cons_of_mem _ (List.mem_cons_of_mem _ (List.mem_append_right _ List.mem_cons_self))))
      have keep : ∀ {H2 : Hp} {x : Addr} {o : HO}, Same H H2 → H x = none → Same H (upd H2 x o) := fun {H2 x o} s n y q hy => by
        rw [upd_ne (ne_of_none hy n)]; exact s y q hy
      refine ⟨_, rfl, minS hab (SqL.of hb) ?_⟩
      rw [hle]
      have hbm := bestL_mem hins rs
      generalize hw : bestL ins rs = wd at *
      refine ⟨_, rfl, _, rfl, f, _, _, .ref a, rfl, rfl, SqL.of hf, (by rw [List.map_append]; exact atI_last _ _), .inl ⟨rfl, _, SqL.of ha⟩, _, rfl, a, _, _, rfl, rfl, ha, szl (by rw [strs_len]; omega), ?_⟩
      have ea : txs l ++ [V.str (S wd)] = txs (l ++ [wd]) := by rw [strs_app]; rfl
      rw [ea]
      have hi2 : upd H1 a (.lst (txs (l ++ [wd]))) i = some (.lst (txs ins)) := by rw [upd_ne ai]; exact hi
      refine ⟨_, rfl, .inl ⟨rfl, _, SqL.of hi2⟩, _, rfl, i, ins, wd, rfl, rfl, hi2, hbm, ?_⟩
      have s3 : Same H (upd (upd H1 a (.lst (txs (l ++ [wd])))) i (.lst (txs (ins.erase wd)))) := keep (keep sm (f0 a (.inr (.inr rfl)))) (f0 i (.inl rfl))
      have hr3 : upd (upd H1 a (.lst (txs (l ++ [wd])))) i (.lst (txs (ins.erase wd))) r = some (.lst (txs rst)) := by rw [upd_ne ri, upd_ne ar]; exact hrr
      have hf3 : upd (upd H1 a (.lst (txs (l ++ [wd])))) i (.lst (txs (ins.erase wd))) f = some (.lst ((as ++ [a]).map V.ref)) := by rw [upd_ne fi, upd_ne af]; exact hf
      have ro3 : Rows (upd (upd H1 a (.lst (txs (l ++ [wd])))) i (.lst (txs (ins.erase wd)))) (as ++ [a]) (rs0 ++ [l ++ [wd]]) := Rows.snoc ((hro.upd nda).upd ias) (by rw [upd_ne ai.symm]; exact upd_same)
      have ne3 : ∀ x ∈ rs0 ++ [l ++ [wd]], x ≠ [] := fun x hx => by
        rcases List.mem_append.mp hx with hx | hx
        · exact hne x hx
        · rw [List.mem_singleton.mp hx]; simp
      have hi3 : upd (upd H1 a (.lst (txs (l ++ [wd])))) i (.lst (txs (ins.erase wd))) i = some (.lst (txs (ins.erase wd))) := upd_same
      generalize upd (upd H1 a (.lst (txs (l ++ [wd])))) i (.lst (txs (ins.erase wd))) = H3 at *
      refine ⟨_, rfl, sz (by decide), fun e ne => ?_⟩
      have se := same_new (o := .lst []) ne
      refine ne_strs (ms := []) (SqL.of (se _ _ hr3)) (SqL.of upd_same) ⟨_, rfl, iteN (fun hn => ?_) (fun hn => ?_)⟩
      · cases rst with
        | nil => exact absurd rfl hn
        | cons y ys =>
          refine ⟨_, rfl, .inl ⟨rfl, _, SqL.of (se _ _ hi3)⟩, _, rfl, .inl ⟨rfl, _, SqL.of (se _ _ hr3)⟩, r, _, 0, 0, _, rfl, rfl, se _ _ hr3, by decide, by decide, by simp [seqIndex?, txs], rfl, i, txs (ins.erase wd), _, rfl, rfl, ?_, ?_, ?_⟩
          · rw [upd_ne ri.symm]; exact se _ _ hi3
          · have := List.length_erase_le (a := wd) (l := ins)
            exact szl (by rw [strs_len]; omega)
          · have e1 : txs (ins.erase wd) ++ [V.str (S y)] = txs (insL ins (y :: ys) rs) := by
              rw [show insL ins (y :: ys) rs = ins.erase wd ++ [y] by rw [← hw]; rfl, strs_app]; rfl
            rw [e1]
            refine kD _ _ (as ++ [a]) ⟨keep (keep (s3.trans se) (f0 r (.inr (.inl rfl)))) (f0 i (.inl rfl)), upd_same, ?_, ?_, ?_, hnd, hfr, by rw [hput]; exact ne3⟩
            · rw [upd_ne ri, upd_same]; rfl
            · rw [upd_ne fi, upd_ne fr']; exact se _ _ hf3
            · rw [hput]
              exact ((ro3.same se).upd (fun h => by
                rcases List.mem_append.mp h with h | h
                · exact ras h
                · exact ar (List.mem_singleton.mp h))).upd (fun h => by
                rcases List.mem_append.mp h with h | h
                · exact ias h
                · exact ai (List.mem_singleton.mp h))
      · subst hn
        have e1 : ins.erase wd = insL ins [] rs := by rw [← hw]; rfl
        rw [e1] at hi3
        exact kD _ _ (as ++ [a]) ⟨s3.trans se, se _ _ hi3, se _ _ hr3, se _ _ hf3, by rw [hput]; exact ro3.same se, hnd, hfr, by rw [hput]; exact ne3⟩
    refine ⟨_, rfl, v, r, rfl, hR, fun yes H1 s1 => ?_, fun no H1 s1 => k1 no H1 s1⟩
    refine ⟨_, rfl, x, n, 1, 50, rfl, hp.same s1, fun yes2 => ?_, fun no => k2 yes no H1 s1⟩
    obtain ⟨ls, rfl⟩ := okTx_ls yes
    obtain ⟨k, rfl, hk1, hk2⟩ : ∃ k : Nat, x = .int k ∧ 1 ≤ k ∧ k ≤ 50 := by
      cases x with
      | int j =>
        have : (decide (1 ≤ j) && decide (j ≤ 50)) = true := yes2
        simp only [Bool.and_eq_true, decide_eq_true_eq] at this
        exact ⟨j.toNat, by congr 1; omega, by omega, by omega⟩
      | _ => cases yes2
    obtain ⟨hlen, fin⟩ := k3 ls k rfl rfl hk1 hk2
    cases hR with
    | lst hS hi hz =>
    rename_i a xs
    obtain ⟨rfl, hls⟩ := items_some hi
    have hS1 := sql_same hS s1
    refine ⟨_, rfl, _, rfl, _, rfl, a, _, rfl, hS1, fun p np => ?_⟩
    rw [cut_txs_to]
    refine ⟨p, _, rfl, .inl (SqL.of upd_same), fun i ni => ?_⟩
    have s2 := (s1.trans (same_new (o := .lst (txs (ls.take k))) np)).trans (same_new (o := .lst (txs (ls.take k))) ni)
    have hi0 := (s1.trans (same_new (o := .lst (txs (ls.take k))) np)).free ni
    obtain ⟨H2, e2⟩ : ∃ G, G = upd (upd H1 p (.lst (txs (ls.take k)))) i (.lst (txs (ls.take k))) := ⟨_, rfl⟩
    rw [← e2] at s2 ⊢
    have gi2 : H2 i = some (.lst (txs (ls.take k))) := by rw [e2]; exact upd_same
    refine ⟨_, rfl, _, rfl, _, rfl, a, _, rfl, sql_same hS s2, fun p2 np2 => ?_⟩
    rw [cut_txs_from]
    refine ⟨p2, _, rfl, .inl (SqL.of upd_same), fun r ni2 => ?_⟩
    have s23 := (same_new (o := .lst (txs (ls.drop k))) np2).trans (same_new (o := .lst (txs (ls.drop k))) ni2)
    have s3 := s2.trans s23
    have hr0 := (s2.trans (same_new (o := .lst (txs (ls.drop k))) np2)).free ni2
    have hri : r ≠ i := (ne_of_none (same_new np2 _ _ gi2) ni2).symm
    obtain ⟨H3, e3⟩ : ∃ G, G = upd (upd H2 p2 (.lst (txs (ls.drop k)))) r (.lst (txs (ls.drop k))) := ⟨_, rfl⟩
    rw [← e3] at s3 s23 ⊢
    have gr3 : H3 r = some (.lst (txs (ls.drop k))) := by rw [e3]; exact upd_same
    have gi3 := s23 _ _ gi2
    refine ⟨sz (by decide), fun f nf => ?_⟩
    have sf := same_new (o := .lst []) nf
    have hfi : f ≠ i := (ne_of_none gi3 nf).symm
    have hfr : f ≠ r := (ne_of_none gr3 nf).symm
    generalize hFin : runsF ls.length (ls.take k) (ls.drop k) [] = Fin at fin
    refine ⟨fun m σ H' => ∃ (ins rst : List (List Nat)) (rs : List (List (List Nat))) (as : List Addr) (o5 o6 : Option V), σ = [some (.ref a), some (.int (k : Nat)), some (.ref i), some (.ref r), some (.ref f), o5, o6, none] ∧ RunI H H' i r f as ins rst rs ∧ m = ins.length + rst.length ∧ runsF m ins rst rs = Fin ∧ m + (rs.map List.length).sum = ls.length,
      ⟨ls.length, ls.take k, ls.drop k, [], [], none, none, rfl, ⟨s3.trans sf, sf _ _ gi3, sf _ _ gr3, upd_same, trivial, ?_, ?_, fun l h => by cases h⟩, ?_, hFin, by simp⟩, fun m σ H' w0 => ?_⟩
    · refine List.nodup_cons.mpr ⟨fun h => ?_, List.nodup_cons.mpr ⟨fun h => hfr (List.mem_singleton.mp h).symm, List.nodup_cons.mpr ⟨List.not_mem_nil, List.nodup_nil⟩⟩⟩
      rcases List.mem_cons.mp h with h | h
      · exact hri h.symm
      · exact hfi (List.mem_singleton.mp h).symm
    · intro x hx
      rcases List.mem_cons.mp hx with rfl | hx
      · exact hi0
      rcases List.mem_cons.mp hx with rfl | hx
      · exact hr0
      rw [List.mem_singleton.mp hx]
      exact s3.free nf
    · rw [← List.length_append, List.take_append_drop]
    obtain ⟨ins, rst, rs, as, o5, o6, rfl, I, em, hrun, htot⟩ := w0
    refine ⟨_, rfl, sz (by decide), fun e ne => ne_strs (ms := []) (SqL.of (same_new ne _ _ I.hi)) (SqL.of upd_same) ⟨_, rfl, iteN (fun hne => ?_) (fun heq => ?_)⟩⟩
    · have I1 := I.same (same_new (o := .lst []) ne)
      have hsum : (rs.map List.length).sum ≤ 100000 := by omega
      have hrl : rs.length ≤ 100000 := Nat.le_trans (sum_len I1.ne) hsum
      refine ⟨fun σ' H2 => ∃ m', m' < m ∧ ∃ (ins rst : List (List Nat)) (rs : List (List (List Nat))) (as : List Addr) (o5 o6 : Option V), σ' = [some (.ref a), some (.int (k : Nat)), some (.ref i), some (.ref r), some (.ref f), o5, o6, none] ∧ RunI H H2 i r f as ins rst rs ∧ m' = ins.length + rst.length ∧ runsF m' ins rst rs = Fin ∧ m' + (rs.map List.length).sum = ls.length, fun σ' H2 h => h, ?_⟩
      refine ⟨_, rfl, i, rfl, ⟨_, SqL.of I1.hi⟩, fun D nD => lc_filter (ls := ins) (i := 7) (fun o => !decide (rs = []) && !decide (o < lastL rs)) (SqL.of I1.hi) (by omega) nD (fun _ => rfl) (fun _ => rfl) (fun l H5 hl5 s5 Q2 q2 => ?_) (fun H5 s5 hD => ?_)⟩
      · have I5 := I1.same s5
        refine ⟨_, rfl, sz (by decide), fun p5 np5 => ne_rows (bs := []) (ms := []) (SqL.of (same_new np5 _ _ I5.hf)) (I5.ro.same (same_new np5)) (SqL.of upd_same) trivial ⟨_, rfl, iteN (fun hrs => ?_) (fun hrs => ?_)⟩⟩
        · have I6 := I5.same (same_new (o := .lst []) np5)
          obtain ⟨rs0, l0, wd, erw, hlast⟩ := rows_last hrs I6.ne
          obtain ⟨as0, b, rfl, ro0, hb⟩ := Rows.unsnoc (by rw [← erw]; exact I6.ro)
          refine ⟨_, rfl, _, rfl, _, rfl, f, _, _, .ref b, rfl, rfl, SqL.of I6.hf, (by rw [List.map_append]; exact atI_last _ _), _, rfl, b, _, _, .str (S wd), rfl, rfl, SqL.of hb, (by rw [strs_app]; exact atI_last _ _), l, wd, rfl, rfl, _, rfl, ?_⟩
          have := q2 _ (same_new (o := .lst []) np5)
          rw [decide_eq_false hrs, hlast] at this
          exact this
        · have := q2 _ (same_new (o := .lst []) np5)
          rw [decide_eq_true hrs] at this
          exact this
      · have I5 := I1.same s5
        have hD' : H5 D = some (.lst (txs (ableL ins rs))) := hD
        have nxt : ∀ (σ' : L2.St) (H6 : Hp) (b6 : V) (as2 : List Addr) (b : Addr), σ' = [some (.ref a), some (.int (k : Nat)), some (.ref i), some (.ref r), some (.ref f), some (.ref b), some b6, none] → RunI H H6 i r f as2 (insL ins rst rs) rst.tail (putL ins rs) → ∃ m', m' < m ∧ ∃ (ins rst : List (List Nat)) (rs : List (List (List Nat))) (as : List Addr) (o5 o6 : Option V), σ' = [some (.ref a), some (.int (k : Nat)), some (.ref i), some (.ref r), some (.ref f), o5, o6, none] ∧ RunI H H6 i r f as ins rst rs ∧ m' = ins.length + rst.length ∧ runsF m' ins rst rs = Fin ∧ m' + (rs.map List.length).sum = ls.length := by
          intro σ' H6 b6 as2 b eσ R6
          have h7 := insL_len hne rst rs
          refine ⟨(insL ins rst rs).length + rst.tail.length, by omega, _, _, _, as2, _, _, eσ, R6, rfl, ?_, ?_⟩
          · rw [← hrun, show m = (insL ins rst rs).length + rst.tail.length + 1 by omega]
            show _ = if ins = [] then rs else _
            rw [if_neg hne]
          · rw [putL_sum]; omega
        refine ⟨_, rfl, sz (by decide), fun p6 np6 => eq_strs (ms := []) (SqL.of (same_new np6 _ _ hD')) (SqL.of upd_same) ⟨_, rfl, iteD (fun eab => ?_) (fun eab => ?_)⟩⟩
        · have I6 := I5.same (same_new (o := .lst []) np6)
          refine ⟨_, rfl, .inl ⟨rfl, _, SqL.of I6.hf⟩, sz (by decide), fun q nq => ?_⟩
          have I7 := I6.same (same_new (o := .lst []) nq)
          have hq0 : H q = none := I6.s.free nq
          refine ⟨f, _, _, rfl, rfl, I7.hf, szl (by rw [List.length_map, I7.ro.len]; omega), ?_⟩
          have nd1 : i ∉ r :: f :: as := (List.nodup_cons.mp I7.nd).1
          have nd2 : r ∉ f :: as := (List.nodup_cons.mp (List.nodup_cons.mp I7.nd).2).1
          have nd3 : f ∉ as := (List.nodup_cons.mp (List.nodup_cons.mp (List.nodup_cons.mp I7.nd).2).2).1
          have fi : f ≠ i := fun e => nd1 (by rw [← e]; exact List.mem_cons_of_mem _ List.mem_cons_self)
          have fr' : f ≠ r := fun e => nd2 (by rw [← e]; exact List.mem_cons_self)
          have qi : q ≠ i := (ne_of_none I6.hi nq).symm
          have qr : q ≠ r := (ne_of_none I6.hr nq).symm
          have qf : q ≠ f := (ne_of_none I6.hf nq).symm
          have qas : q ∉ as := fun h => by
            obtain ⟨j, hj⟩ := List.getElem?_of_mem h
            obtain ⟨l, _, hl⟩ := Rows.get I6.ro hj
            rw [nq] at hl
            cases hl
          have emap : as.map V.ref ++ [.ref q] = (as ++ [q]).map V.ref := by rw [List.map_append]; rfl
          rw [emap]
          refine ⟨_, rfl, i, r, f, i, q, as, ins, rst, [], ins, rs, rs, _, _, _, rfl, ?_, ?_, ?_, upd_same, I7.ro.upd nd3, ?_, ?_, ?_, I7.ne, ?_, hne, ?_, ?_, hne, by decide, by omega, fun H8 b6 as2 R8 => nxt _ _ b6 as2 i rfl R8⟩
          · intro y o hy
            rw [upd_ne (ne_of_none hy (I7.fr f (List.mem_cons_of_mem _ (List.mem_cons_of_mem _ List.mem_cons_self))))]
            exact I7.s y o hy
          · rw [upd_ne fi.symm]; exact I7.hi
          · rw [upd_ne fr'.symm]; exact I7.hr
          · rw [upd_ne qf]; exact upd_same
          · refine List.nodup_cons.mpr ⟨fun h => ?_, List.nodup_cons.mpr ⟨fun h => ?_, List.nodup_cons.mpr ⟨fun h => ?_, ?_⟩⟩⟩
            · rcases List.mem_cons.mp h with h | h
              · exact nd1 (by rw [h]; exact List.mem_cons_self)
              rcases List.mem_cons.mp h with h | h
              · exact fi h.symm
              rcases List.mem_append.mp h with h | h
              · exact nd1 (List.mem_cons_of_mem _ (List.mem_cons_of_mem _ h))
              · exact qi (List.mem_singleton.mp h).symm
            · rcases List.mem_cons.mp h with h | h
              · exact fr' h.symm
              rcases List.mem_append.mp h with h | h
              · exact nd2 (List.mem_cons_of_mem _ h)
              · exact qr (List.mem_singleton.mp h).symm
            · rcases List.mem_append.mp h with h | h
              · exact nd3 h
              · exact qf (List.mem_singleton.mp h).symm
            · have h4 := (List.nodup_cons.mp (List.nodup_cons.mp (List.nodup_cons.mp I7.nd).2).2).2
              refine List.nodup_append.mpr ⟨h4, List.nodup_cons.mpr ⟨List.not_mem_nil, List.nodup_nil⟩, fun x hx y hy e => ?_⟩
              rw [List.mem_singleton.mp hy] at e
              exact qas (e ▸ hx)
          · intro x hx
            rcases List.mem_cons.mp hx with rfl | hx
            · exact I7.fr _ List.mem_cons_self
            rcases List.mem_cons.mp hx with rfl | hx
            · exact I7.fr _ (List.mem_cons_of_mem _ List.mem_cons_self)
            rcases List.mem_cons.mp hx with rfl | hx
            · exact I7.fr _ (List.mem_cons_of_mem _ (List.mem_cons_of_mem _ List.mem_cons_self))
            rcases List.mem_append.mp hx with hx | hx
            · exact I7.fr _ (List.mem_cons_of_mem _ (List.mem_cons_of_mem _ (List.mem_cons_of_mem _ hx)))
            · rw [List.mem_singleton.mp hx]; exact hq0
          · rw [upd_ne fi.symm]; exact I7.hi
          · unfold bestL; rw [if_pos eab]
          · show putL ins rs = rs ++ [[] ++ [bestL ins rs]]
            unfold putL; rw [if_pos eab]; rfl
        · have I6 := I5.same (same_new (o := .lst []) np6)
          have hrs : rs ≠ [] := fun h => eab (by rw [h]; exact ableL_nil ins)
          rcases snoc_cases rs with rfl | ⟨rs0, l, rfl⟩
          · exact absurd rfl hrs
          obtain ⟨as0, b, rfl, ro0, hb⟩ := Rows.unsnoc I6.ro
          have hll := len_sum (rs := rs0 ++ [l]) (List.mem_append_right _ List.mem_cons_self)
          refine ⟨i, r, f, D, b, as0, ins, rst, l, ableL ins (rs0 ++ [l]), rs0 ++ [l], rs0, _, _, _, rfl, I6.s, I6.hi, I6.hr, I6.hf, ro0, hb, I6.nd, I6.fr, fun x hx => I6.ne x (List.mem_append_left _ hx), same_new np6 _ _ hD', eab, ?_, ?_, hne, by omega, by omega, fun H8 b6 as2 R8 => nxt _ _ b6 as2 D rfl R8⟩
          · unfold bestL; rw [if_neg eab]
          · unfold putL; rw [if_neg eab, List.dropLast_concat, List.getLast?_concat]; rfl
    · subst heq
      rw [runsF_nil] at hrun
      subst hrun
      have I1 := I.same (same_new (o := .lst []) ne)
      have h3 := (List.nodup_cons.mp (List.nodup_cons.mp I1.nd).2).2
      exact ⟨_, rfl, fin f as _ I1.s I1.hf I1.ro h3 fun x hx => I1.fr x (List.mem_cons_of_mem _ (List.mem_cons_of_mem _ hx))⟩
end
end R
set_option maxRecDepth 100000
set_option maxHeartbeats 8000000
set_option pp.maxSteps 1500
set_option pp.deepTerms false
namespace R
open PySem PySem.Spec PyProof.Rows L2 RZ
open PySem.W (Datum)
theorem items_same {K : PySem.W.Frag} {H H' : Hp} (s : Same H H') : ∀ {xs : List V} {rs : List (Option (List Nat))}, Items K H xs rs → Items K H' xs rs
  | _, _, .nil => .nil
  | _, _, .cons h t => .cons (h.same s) (items_same s t)
theorem Recs.same {K : PySem.W.Frag} {H H' : Hp} {v : V} {r : Option (List (Option (List Nat)))} (h : Recs K H v r) (s : Same H H') : Recs K H' v r := by
  cases h with
  | no h hn => exact .no (h.same s) hn
  | lst h hi hz => exact .lst (sql_same h s) (items_same s hi) hz
/-- a value that may be a list of lists of texts -/
inductive Rws (K : PySem.W.Frag) (H : Hp) : V → Option (List (Option (List (Option (List Nat))))) → Prop
  | no {x : V} {n : String} (h : Pl K H x n) (hn : (n == "list") = false) : Rws K H x none
  | lst {a : Addr} {xs : List V} {rs : List (Option (List (Option (List Nat))))} (h : SqL K H a xs) (hi : ∀ (i : Nat) (x : V), xs[i]? = some x → ∃ r, rs[i]? = some r ∧ Recs K H x r) (hl : xs.length = rs.length) (hz : xs.length < 16777216) : Rws K H (.ref a) (some rs)
theorem Rws.pl {K : PySem.W.Frag} {H : Hp} {x : V} {r : Option (List (Option (List (Option (List Nat)))))} (h : Rws K H x r) : ∃ n, Pl K H x n ∧ (n == "list") = r.isSome := by
  cases h with
  | no h hn => exact ⟨_, h, hn⟩
  | lst h hi hl hz => exact ⟨"list", .lst h, rfl⟩
def txO (r : Option (List (Option (List Nat)))) : List (List Nat) := (r.getD []).map fun o => o.getD []
theorem txO_of (ls : List (List Nat)) : txO (some (ls.map some)) = ls := by
  unfold txO
  rw [Option.getD_some, List.map_map]
  conv => rhs; rw [← List.map_id ls]
  rfl
def rowOk (r : Option (List (Option (List Nat)))) : Bool := okTx r && decide (txO r = srt (txO r))
def goodR : Option (List (Option (List (Option (List Nat))))) → Bool
  | none => false
  | some rs => rs.all rowOk
theorem goodR_rows {rs : List (Option (List (Option (List Nat))))} (h : rs.all rowOk = true) : rs = (rs.map txO).map fun l => some (l.map some) := by
  rw [List.all_eq_true] at h
  rw [List.map_map]
  conv => lhs; rw [← List.map_id rs]
  refine List.map_congr_left fun o ho => ?_
  have h1 : (okTx o && decide (txO o = srt (txO o))) = true := h o ho
  rw [Bool.and_eq_true] at h1
  obtain ⟨ls, rfl⟩ := okTx_ls h1.1
  show some (ls.map some) = some ((txO (some (ls.map some))).map some)
  rw [txO_of]
section
variable {P : Program} {w : World} {K : PySem.W.Frag} {mg : Str → Option Value} {base : Heap}
def sp_merged (K : PySem.W.Frag) (CR : Addr) : Sp := fun vs H Q E => ∃ (v : V) (r : Option (List (Option (List (Option (List Nat)))))), vs = [v] ∧ Rws K H v r ∧ (∀ rs, r = some rs → ∀ o ∈ rs, (txO o).length < 64) ∧ (goodR r = false → ∀ H', Same H H' → E (.ref CR) none H') ∧
  ∀ rows : List (List (List Nat)), r = some (rows.map fun l => some (l.map some)) → (∀ l ∈ rows, Up l) → rows.length ≤ 100000 ∧ (rows.map List.length).sum ≤ 100000 ∧ ∀ q H', Grow H q H' (txs (mergeF (rows.map List.length).sum rows [])) → Q (.ref q) H'
/-- what the loop holds -/
structure MerI (H0 H : Hp) (d q : Addr) (as : List Addr) (left : List (List (List Nat))) (fs : List (List Nat)) : Prop where
  s : Same H0 H
  hd : H d = some (.lst (as.map V.ref))
  ro : Rows H as left
  hq : H q = some (.lst (txs fs))
  nd : (d :: q :: as).Nodup
  fr : ∀ a ∈ d :: q :: as, H0 a = none
theorem MerI.same {H0 H H' : Hp} {d q : Addr} {as : List Addr} {left : List (List (List Nat))} {fs : List (List Nat)} (h : MerI H0 H d q as left fs) (s : Same H H') : MerI H0 H' d q as left fs := ⟨h.s.trans s, s _ _ h.hd, h.ro.same s, s _ _ h.hq, h.nd, h.fr⟩
theorem rows_at {H : Hp} {as : List Addr} {ls : List (List (List Nat))} {k : Nat} {l : List (List Nat)} (h : Rows H as ls) (e : ls[k]? = some l) : ∃ b, as[k]? = some b ∧ H b = some (.lst (txs l)) := by
  have hk := (List.getElem?_eq_some_iff.mp e).1
  have hk2 : k < as.length := by rw [h.len]; exact hk
  obtain ⟨l', e', hb⟩ := h.get (List.getElem?_eq_getElem hk2)
  rw [e] at e'
  cases e'
  exact ⟨_, List.getElem?_eq_getElem hk2, hb⟩
theorem mergeF_nil {rs : List (List (List Nat))} (h : ∀ l ∈ rs, l = []) (n : Nat) (fs : List (List Nat)) : mergeF n rs fs = fs := by
  cases n with
  | zero => rfl
  | succ n =>
    unfold mergeF
    rw [show headsL rs = [] from hdsFrom_nil.mpr h]
theorem mergeF_step {n : Nat} {rs : List (List (List Nat))} {fs : List (List Nat)} {p : Hd} {ps : List Hd} (h : headsL rs = p :: ps) : mergeF (n + 1) rs fs = mergeF n (rs.set (leastP p ps).2 ((rs.getD (leastP p ps).2 []).tail)) (fs ++ [(leastP p ps).1]) := by
  show (match headsL rs with
    | [] => fs
    | p :: ps => mergeF n (rs.set (leastP p ps).2 ((rs.getD (leastP p ps).2 []).tail)) (fs ++ [(leastP p ps).1])) = _
  rw [h]
theorem ok_merged (T : Txt K mg) : FnOk P w K mg base (L2.CX P w) 2 T.merged.a T.merged.d ["rows"] (sp_merged K T.BadRecord.C) := by
  refine T.merged.F.okX sc_merged (fun vs H Q E h => ?_) (fun cdv A outer s0 H vs Q E hr h => ?_)
  · obtain ⟨v, r, rfl, _⟩ := h
    rfl
  · obtain ⟨v, r, rfl, hR, h64, k1, k2⟩ := h
    refine ⟨_, (pss_cons (ps_if (pt_not (pt_val (pe_callB call_isi (by rfl) T.z_isinstance (by decide +kernel) (pa_cons (pv 0) (pa_cons (pe_bltn (v := .ty "list") (by rfl) T.z_list (by decide +kernel) rfl) pa_nil)))))
      (pss_one (ps_raise rfl (takes_of rfl rfl rfl rfl) (pmk_own PySem.F.excBase_ValueError T.BadRecord.x T.BadRecord.g T.BadRecord.k (raises_own T.BadRecord.b T.BadRecord.t) (by exact rfl))))
      pss_nil)
    (pss_cons (ps_for (passes_of rfl) rfl
      (pi_list (pv 0)) (pg_name (i := 1) sc_merged.nd rfl (.inl rfl))
      (pss_cons (ps_expr (pe_call (ok_look_texts T) (hr.mono (by decide)) (by rfl) T.look_texts.g T.look_texts.F.kp T.look_texts.b .nil (passes_call (takes_of rfl rfl rfl rfl) (fun _ _ _ _ h => h)) (pa_cons (pv 1) pa_nil)))
      (pss_one (ps_if (pt_cmpR (op_neP hr.units) (pv 1) (pe_callB cr_sortedS (by rfl) T.z_sorted (by decide +kernel) (pa_cons (pv 1) pa_nil)) (nomark _))
        (pss_one (ps_raise rfl (takes_of rfl rfl rfl rfl) (pmk_own PySem.F.excBase_ValueError T.BadRecord.x T.BadRecord.g T.BadRecord.k (raises_own T.BadRecord.b T.BadRecord.t) (by exact rfl))))
        pss_nil))))
    (pss_cons (ps_setLc (i := 2) (own := [("row", 1)]) (g := gName 1) rfl sc_merged.nd rfl rfl (sw_true rfl rfl rfl (by decide +kernel)) (pi_listC (K := K) rfl (pv 0)) (blkOk_by (N := N_merged) (sc := defScope s_merged) (by decide +kernel)) (fun _ _ _ _ _ => (pg_name (i := 1) sc_merged.nd rfl (.inl rfl))) (fun _ _ _ _ _ => pts_nil) (fun _ _ _ _ _ => (pe_callTy (call_list_ofC (K := K) rfl) (by rfl) T.z_list (by decide +kernel) (pa_cons (pv 1) pa_nil))))
    (pss_cons (ps_set (i := 3) sc_merged.nd rfl (.inl rfl) (pe_lst pa_nil))
    (pss_cons (ps_while (passes_of rfl) (pt_val (pe_callB (cr_any rfl) (by rfl) T.z_any (by decide +kernel) (pa_cons (pe_lc (own := [("row", 1)]) (g := gName 1) rfl sc_merged.nd (pi_listC (K := K) rfl (pv 2)) (blkOk_by (N := N_merged) (sc := defScope s_merged) (by decide +kernel)) (fun _ _ _ _ _ => (pg_name (i := 1) sc_merged.nd rfl (.inl rfl))) (fun _ _ _ _ _ => pts_nil) (fun _ _ _ _ _ => (pe_cmpR (op_nePC (K := K) rfl hr.units) (pv 1) (pe_lst pa_nil) (nomark _)))) pa_nil)))
      (pss_cons (ps_setLc (i := 4) (own := [("k", 7), ("row", 1)]) (g := gTup K 2 (gCons (gName 7) (gCons (gName 1) gNil))) rfl sc_merged.nd rfl rfl (sw_true rfl rfl rfl (by decide +kernel)) (pi_enum (by rfl) T.z_enumerate (pa_cons (pv 2) pa_nil)) (blkOk_by (N := N_merged) (sc := defScope s_merged) (by decide +kernel)) (fun _ _ _ _ _ => (pg_tup rfl (pgs_cons (pg_name (i := 7) sc_merged.nd rfl (.inl rfl)) (pgs_cons (pg_name (i := 1) sc_merged.nd rfl (.inl rfl)) pgs_nil)))) (fun _ _ _ _ _ => (pts_one (pt_cmpR (op_nePC (K := K) rfl hr.units) (pv 1) (pe_lst pa_nil) (nomark _)))) (fun _ _ _ _ _ => (pe_tup (pa_cons (pe_ix (ix_listC (K := K) rfl) (pv 1) pe_int (fun _ _ => rfl)) (pa_cons (pv 7) pa_nil)))))
      (pss_cons (ps_asg (pe_callB (cr_minD rfl hr.units) (by rfl) T.z_min (by decide +kernel) (pa_cons (pv 4) pa_nil)) (pg_tup rfl (pgs_cons (pg_name (i := 5) sc_merged.nd rfl (.inl rfl)) (pgs_cons (pg_name (i := 6) sc_merged.nd rfl (.inl rfl)) pgs_nil))))
      (pss_one (ps_expr (pe_bm PySem.F.plainAttrs_list PySem.F.slot_list_append PySem.F.type_list_append mt_append (pv 3) (pa_cons (pe_bm PySem.F.plainAttrs_list PySem.F.slot_list_pop PySem.F.type_list_pop mt_popAt (pe_ix ix_list (pv 2) (pv 6) (fun _ _ => rfl)) (pa_cons pe_int pa_nil)) pa_nil)))))))
    (pss_one (ps_ret (pv 3)))))))), ?_⟩
    obtain ⟨n, hn, hl⟩ := hR.pl
    refine ⟨_, rfl, _, _, _, _, _, rfl, .ty _, hn.ty, kit_list hn, _, rfl, ?_⟩
    rw [hl]
    cases hR with
    | no h hn => exact iteT (k1 rfl _ (Same.refl _))
    | lst hS hi hll hz =>
    rename_i a xs rs
    refine iteF ?_
    refine ⟨_, rfl, a, rfl, ⟨_, hS⟩, for_it (walk_list (xs := xs)) (fun i σ H' => Same H H' ∧ (rs.take i).all rowOk = true ∧ ∃ o1, σ = [some (.ref a), o1, none, none, none, none, none, none]) ⟨Same.refl _, rfl, none, rfl⟩ (fun i σ H' _ h => sql_same hS h.1) ?_ ?_⟩
    · rintro i x σ H1 H2 hlt ⟨sm, hall, o1, rfl⟩ ⟨rfl, hx⟩
      obtain ⟨r, hr', hrec⟩ := hi i x hx
      have bad : rowOk r = false → goodR (some rs) = false := fun e => by
        show rs.all _ = false
        cases hb : rs.all rowOk with
        | false => rfl
        | true => rw [List.all_eq_true] at hb; rw [hb r (List.mem_of_getElem? hr')] at e; cases e
      refine ⟨_, rfl, x, r, rfl, hrec.same sm, fun yes H3 s3 => ?_, fun no H3 s3 => k1 (bad (by unfold rowOk; rw [no]; rfl)) _ (sm.trans s3)⟩
      obtain ⟨ls, rfl⟩ := okTx_ls yes
      have hrec3 := (hrec.same sm).same s3
      cases hrec3 with
      | lst hS3 hi3 hz3 =>
      rename_i b ys
      obtain ⟨rfl, _⟩ := items_some hi3
      have l64 := h64 rs rfl _ (List.mem_of_getElem? hr')
      rw [txO_of] at l64
      refine ⟨_, rfl, _, rfl, ?_⟩
      dsimp only [tNil]
      refine sort_txs hS3 l64 ?_
      intro p np
      refine ne_strs (sql_same hS3 (same_new np)) (SqL.of upd_same) ⟨_, rfl, iteN (fun hne => ?_) (fun he => ?_)⟩
      · exact k1 (bad (by unfold rowOk; rw [txO_of, decide_eq_false hne, Bool.and_false])) _ ((sm.trans s3).trans (same_new np))
      · refine ⟨(sm.trans s3).trans (same_new np), ?_, _, rfl⟩
        rw [List.take_add_one, hr', Option.toList_some, List.all_append, hall]
        show (true && (rowOk _ && true)) = true
        unfold rowOk
        rw [txO_of, okTx_of, decide_eq_true he]
        rfl
    rintro σ H1 ⟨s1, hall, o1, rfl⟩
    rw [hll, List.take_length] at hall
    obtain ⟨rows, hrows⟩ : ∃ rows : List (List (List Nat)), rs = rows.map fun l => some (l.map some) := ⟨_, goodR_rows hall⟩
    have hup : ∀ l ∈ rows, Up l := fun l hl => by
      rw [hrows, List.all_eq_true] at hall
      have h1 : (okTx (some (l.map some)) && decide (txO (some (l.map some)) = srt (txO (some (l.map some))))) = true := hall _ (List.mem_map.mpr ⟨l, hl, rfl⟩)
      rw [Bool.and_eq_true, txO_of] at h1
      exact up_srt.mp (of_decide_eq_true h1.2)
    obtain ⟨hrl, hsum, fin⟩ := k2 rows (by rw [hrows]) hup
    have hxl : xs.length = rows.length := by rw [hll, hrows, List.length_map]
    have hrow : ∀ (i : Nat) (x : V) (H' : Hp), xs[i]? = some x → Same H H' → ∃ l b, rows[i]? = some l ∧ x = .ref b ∧ SqL K H' b (txs l) := fun i x H' hx sH => by
      obtain ⟨r, hr', hrec⟩ := hi i x hx
      rw [hrows, List.getElem?_map] at hr'
      obtain ⟨l, hl, rfl⟩ := Option.map_eq_some_iff.mp hr'
      cases hrec.same sH with
      | lst hS3 hi3 hz3 =>
        obtain ⟨rfl, _⟩ := items_some hi3
        exact ⟨l, _, hl, rfl, hS3⟩
    -- the rows, each anew
    refine ⟨_, rfl, a, rfl, ⟨_, sql_same hS s1⟩, fun D nD => ?_⟩
    refine lc_it (walk_list (xs := xs)) (fun i H' => ∃ as : List Addr, Same H1 H' ∧ H' D = some (.lst (as.map V.ref)) ∧ Rows H' as (rows.take i) ∧ (D :: as).Nodup ∧ ∀ x ∈ D :: as, H1 x = none)
      ⟨[], same_new nD, upd_same, trivial, List.nodup_cons.mpr ⟨List.not_mem_nil, List.nodup_nil⟩, fun x hx => by rw [List.mem_singleton.mp hx]; exact nD⟩ (fun i H' _ p => by obtain ⟨_, p, _⟩ := p; exact sql_same hS (s1.trans p)) (fun i x H2 H3 hlt p y => ?_) (fun H2 p => ?_)
    · obtain ⟨as, s2, hD, hro, hnd, hfr⟩ := p
      obtain ⟨rfl, hx⟩ := y
      obtain ⟨l, b, hl, rfl, hb⟩ := hrow i x H3 hx (s1.trans s2)
      refine ⟨rfl, _, rfl, b, _, rfl, .inl hb, fun p np => ?_⟩
      have sp := same_new (o := .lst (txs l)) np
      have pD : p ≠ D := (ne_of_none hD np).symm
      have pas : p ∉ as := fun h => by
        obtain ⟨j, hj⟩ := List.getElem?_of_mem h
        obtain ⟨l, _, hl⟩ := Rows.get hro hj
        rw [np] at hl
        cases hl
      refine ⟨as.map V.ref, sp _ _ hD, szl ?_, as ++ [p], ?_, ?_, ?_, ?_, ?_⟩
      · rw [List.length_map, hro.len, List.length_take]; omega
      · intro z o hz
        rw [upd_ne (ne_of_none hz nD)]
        exact sp _ _ (s2 _ _ hz)
      · rw [upd_same, List.map_append]; rfl
      · rw [List.take_add_one, hl]
        refine Rows.snoc ((hro.same sp).upd (List.nodup_cons.mp hnd).1) ?_
        rw [upd_ne pD]; exact upd_same
      · refine List.nodup_cons.mpr ⟨fun h => ?_, List.nodup_append.mpr ⟨(List.nodup_cons.mp hnd).2, List.nodup_cons.mpr ⟨List.not_mem_nil, List.nodup_nil⟩, fun x hx y hy e => pas (by rw [← List.mem_singleton.mp hy, ← e]; exact hx)⟩⟩
        rcases List.mem_append.mp h with h | h
        · exact (List.nodup_cons.mp hnd).1 h
        · exact pD (List.mem_singleton.mp h).symm
      · intro x hx
        rcases List.mem_cons.mp hx with rfl | hx
        · exact nD
        rcases List.mem_append.mp hx with hx | hx
        · exact hfr x (List.mem_cons_of_mem _ hx)
        · rw [List.mem_singleton.mp hx]; exact s2.free np
    obtain ⟨as0, s2, hD, hro, hnd, hfr⟩ := p
    rw [hxl, List.take_length] at hro
    refine ⟨sz (by decide), fun q nq => ?_⟩
    have sq := same_new (o := .lst []) nq
    generalize hFin : mergeF (rows.map List.length).sum rows [] = Fin at fin
    refine ⟨fun m σ H' => ∃ (left : List (List (List Nat))) (fs : List (List Nat)) (as : List Addr) (o4 o5 o6 : Option V), σ = [some (.ref a), o1, some (.ref D), some (.ref q), o4, o5, o6, none] ∧ MerI H H' D q as left fs ∧ left.length ≤ 100000 ∧ m = (left.map List.length).sum ∧ mergeF m left fs = Fin ∧ m + fs.length ≤ 100000,
      ⟨_, rows, [], as0, none, none, none, rfl, ⟨(s1.trans s2).trans sq, sq _ _ hD, hro.same sq, upd_same, ?_, ?_⟩, hrl, rfl, hFin, by rw [List.length_nil]; omega⟩, fun m σ H' w0 => ?_⟩
    · have qD : q ≠ D := (ne_of_none hD nq).symm
      refine List.nodup_cons.mpr ⟨fun h => ?_, List.nodup_cons.mpr ⟨fun h => ?_, (List.nodup_cons.mp hnd).2⟩⟩
      · rcases List.mem_cons.mp h with h | h
        · exact qD h.symm
        · exact (List.nodup_cons.mp hnd).1 h
      · obtain ⟨j, hj⟩ := List.getElem?_of_mem h
        obtain ⟨l, _, hl⟩ := Rows.get hro hj
        rw [nq] at hl
        cases hl
    · intro x hx
      rcases List.mem_cons.mp hx with rfl | hx
      · exact s1.free nD
      rcases List.mem_cons.mp hx with rfl | hx
      · exact (s1.trans s2).free nq
      · exact s1.free (hfr x (List.mem_cons_of_mem _ hx))
    obtain ⟨left, fs, as, o4, o5, o6, rfl, I, hll2, em, hmer, htot⟩ := w0
    -- is there one left
    refine ⟨_, rfl, D, rfl, ⟨_, SqL.of I.hd⟩, fun D2 nD2 => lc_map (walk_list (xs := as.map V.ref)) ((left.map fun l => !decide (l = [])).map V.bl) (by simp [I.ro.len]) (by rw [List.length_map, I.ro.len]; omega) nD2 yat_same (fun _ s => SqL.of (s _ _ I.hd)) (fun j x H5 H6 y hj hy t1 t2 hY Q2 q2 => ⟨rfl, ?_⟩) (fun H5 t1 hD2 => ?_) gName_mono⟩
    · obtain ⟨rfl, hx⟩ := hY
      rw [List.getElem?_map] at hx
      obtain ⟨b, hb, rfl⟩ := Option.map_eq_some_iff.mp hx
      obtain ⟨l, hl, hHb⟩ := I.ro.get hb
      rw [List.getElem?_map, List.getElem?_map, hl] at hy
      have ey : V.bl (!decide (l = [])) = y := Option.some.inj hy
      subst ey
      exact ⟨_, rfl, sz (by decide), fun p np => ne_strs (ms := []) (SqL.of (same_new np _ _ (t2 _ _ hHb))) (SqL.of upd_same) (q2 _ (same_new np))⟩
    have I5 := I.same t1
    refine ⟨D2, _, rfl, SqL.of hD2, _, rfl, iteB (fun hany => ?_) (fun hno => ?_)⟩
    · have hh : headsL left ≠ [] := fun e => by
        rw [List.any_map] at hany
        obtain ⟨l, hl, h2⟩ := List.any_eq_true.mp hany
        have h3 : (!decide (l = [])) = true := h2
        rw [decide_eq_true (hdsFrom_nil.mp e l hl)] at h3
        cases h3
      refine ⟨fun σ' H2 => ∃ m', m' < m ∧ ∃ (left : List (List (List Nat))) (fs : List (List Nat)) (as : List Addr) (o4 o5 o6 : Option V), σ' = [some (.ref a), o1, some (.ref D), some (.ref q), o4, o5, o6, none] ∧ MerI H H2 D q as left fs ∧ left.length ≤ 100000 ∧ m' = (left.map List.length).sum ∧ mergeF m' left fs = Fin ∧ m' + fs.length ≤ 100000, fun σ' H2 h => h, ?_⟩
      -- the heads
      refine ⟨_, rfl, D, _, rfl, SqL.of I5.hd, fun D3 nD3 => ?_⟩
      refine lc_it walk_enum (fun i H6 => ∃ ts : List Addr, Same H5 H6 ∧ H6 D3 = some (.lst (ts.map V.ref)) ∧ Heads H6 ts (headsL (left.take i)) ∧ ts.length ≤ i) ⟨[], same_new nD3, upd_same, trivial, Nat.le_refl _⟩ (fun i H6 _ p => by obtain ⟨_, p, _⟩ := p; exact SqL.of (p _ _ I5.hd)) (fun i x H6 H7 hlt p y => ?_) (fun H6 p => ?_)
      · obtain ⟨ts, s6, hD3, hhd, htl⟩ := p
        obtain ⟨T2, u, v, rfl, h1, rfl, h3, h4⟩ := y
        have h3' : u = V.int (i : Nat) := (Option.some.inj h3).symm
        subst h3'
        have h4' : (as.map V.ref)[i]? = some v := h4
        rw [List.getElem?_map] at h4'
        obtain ⟨b, hb, rfl⟩ := Option.map_eq_some_iff.mp h4'
        obtain ⟨l, hl, hHb⟩ := I5.ro.get hb
        have sT := same_new (o := .tup [.int (i : Nat), .ref b]) h1
        refine ⟨T2, _, rfl, .inl (.inl upd_same), rfl, .int (i : Nat), [.ref b], rfl, .ref b, [], rfl, rfl, rfl, ?_⟩
        have e8 : headsL (left.take (i + 1)) = headsL (left.take i) ++ hdOf l i := by
          rw [List.take_add_one, hl]
          show hdsFrom 0 (left.take i ++ [l]) = _
          rw [hdsFrom_snoc, List.length_take, Nat.zero_add, Nat.min_eq_left (by
            have := (List.getElem?_eq_some_iff.mp hl).1
            omega)]
          rfl
        refine ⟨_, rfl, sz (by decide), fun p np => ne_strs (ms := []) (SqL.of (same_new np _ _ (sT _ _ (s6 _ _ hHb)))) (SqL.of upd_same) ⟨_, rfl, ?_⟩⟩
        have s68 := sT.trans (same_new (o := .lst []) np)
        refine iteN (fun hne => ?_) (fun he => ?_)
        · cases l with
          | nil => exact absurd rfl hne
          | cons wd tl =>
            have hb8 := s68 _ _ (s6 _ _ hHb)
            refine ⟨_, rfl, b, _, _, .str (S wd), rfl, rfl, SqL.of hb8, (show atI (txs (wd :: tl)) ((0 : Nat) : Int) = some (.str (S wd)) from atI_nat rfl), _, rfl, sz (show 2 ≤ 16777216 by decide), fun t nt => ?_⟩
            have st := same_new (o := .tup [.str (S wd), .int (i : Nat)]) nt
            have h9 := st _ _ (s68 _ _ hD3)
            refine ⟨ts.map V.ref, h9, szl ?_, ts ++ [t], ?_, ?_, ?_, ?_⟩
            · rw [List.length_map]
              have := (List.getElem?_eq_some_iff.mp hl).1
              omega
            · intro z o hz
              rw [upd_ne (ne_of_none hz nD3)]
              exact st _ _ (s68 _ _ (s6 _ _ hz))
            · rw [upd_same, List.map_append]; rfl
            · rw [e8]
              exact Heads.snoc (Heads.upd_lst h9 (((hhd.same s68).same st))) (by rw [upd_ne (ne_of upd_same h9 (by intro z; cases z))]; exact upd_same)
            · rw [List.length_append]; show _ + 1 ≤ _; omega
        · subst he
          refine ⟨ts, s6.trans s68, s68 _ _ hD3, ?_, by omega⟩
          rw [e8]
          show Heads _ ts (headsL (left.take i) ++ [])
          rw [List.append_nil]
          exact hhd.same s68
      obtain ⟨ts, s6, hD3, hhd, _⟩ := p
      rw [List.length_map, I5.ro.len, List.take_length] at hhd
      have I6 := I5.same s6
      cases hps : headsL left with
      | nil => exact absurd hps hh
      | cons p ps =>
      rw [hps] at hhd
      have hmem : leastP p ps ∈ hdsFrom 0 left := by
        have := leastP_mem ps p
        rw [← hps] at this
        exact this
      obtain ⟨j, tl, hj1, hj2⟩ := hdsFrom_mem hmem
      rw [Nat.zero_add] at hj1
      obtain ⟨b, hb, hHb⟩ := rows_at I6.ro hj2
      have hnd2 := (List.nodup_cons.mp (List.nodup_cons.mp I6.nd).2).2
      have hbm : b ∈ as := List.mem_of_getElem? hb
      have bD : D ≠ b := fun e => (List.nodup_cons.mp I6.nd).1 (by rw [e]; exact List.mem_cons_of_mem _ hbm)
      have bq : q ≠ b := fun e => (List.nodup_cons.mp (List.nodup_cons.mp I6.nd).2).1 (by rw [e]; exact hbm)
      have Dq : D ≠ q := fun e => (List.nodup_cons.mp I6.nd).1 (by rw [e]; exact List.mem_cons_self)
      refine ⟨_, rfl, ?_⟩
      dsimp only [tNil]
      refine minP (SqL.of hD3) hhd ?_
      intro t ht
      refine ⟨t, _, rfl, SqT.of ht, rfl, _, _, rfl, _, _, rfl, rfl, ?_⟩
      have hq2 : upd H6 b (.lst (txs tl)) q = some (.lst (txs fs)) := by rw [upd_ne bq]; exact I6.hq
      refine ⟨_, rfl, .inl ⟨rfl, _, SqL.of I6.hq⟩, _, rfl, _, rfl, D, _, _, .ref b, rfl, rfl, SqL.of I6.hd, at_of (j := j) (by rw [hj1]) (by rw [List.getElem?_map, hb]; rfl), .inl ⟨rfl, _, SqL.of hHb⟩, b, _, 0, 0, _, rfl, rfl, hHb, by decide, by decide, by simp [seqIndex?, txs], rfl, q, txs fs, _, rfl, rfl, hq2, szl (by rw [strs_len]; omega), ?_⟩
      have hsum2 := sum_set hj2
      have eq1 : txs fs ++ [V.str (S (leastP p ps).1)] = txs (fs ++ [(leastP p ps).1]) := by rw [strs_app]; rfl
      refine ⟨((left.set j tl).map List.length).sum, by omega, left.set j tl, fs ++ [(leastP p ps).1], as, _, _, _, rfl, ⟨?_, ?_, ?_, ?_, I6.nd, I6.fr⟩, by rw [List.length_set]; exact hll2, rfl, ?_, ?_⟩
      · intro z o hz
        rw [upd_ne (ne_of_none hz (I6.fr q (List.mem_cons_of_mem _ List.mem_cons_self))), upd_ne (ne_of_none hz (I6.fr b (List.mem_cons_of_mem _ (List.mem_cons_of_mem _ hbm))))]
        exact I6.s z o hz
      · rw [upd_ne Dq, upd_ne bD]; exact I6.hd
      · exact (Rows.set (tl := tl) I6.ro hb hnd2).upd (List.nodup_cons.mp (List.nodup_cons.mp I6.nd).2).1
      · rw [← eq1]; exact upd_same
      · rw [← hmer, show m = ((left.set j tl).map List.length).sum + 1 by omega]
        rw [mergeF_step hps, hj1, show left.getD j [] = (leastP p ps).1 :: tl by rw [List.getD_eq_getElem?_getD, hj2]; rfl]
        rfl
      · rw [List.length_append]; show _ + (_ + 1) ≤ _; omega
    · have he : ∀ l ∈ left, l = [] := fun l hl => by
        rw [List.any_map] at hno
        have := List.any_eq_false.mp hno l hl
        by_cases h : l = []
        · exact h
        · exact absurd (show (id ∘ fun l : List (List Nat) => !decide (l = [])) l = true by show (!decide (l = [])) = true; rw [decide_eq_false h]; rfl) this
      rw [mergeF_nil he] at hmer
      subst hmer
      exact ⟨_, rfl, fin q _ ⟨I5.fr q (List.mem_cons_of_mem _ List.mem_cons_self), I5.s, I5.hq⟩⟩
end
end R
set_option maxRecDepth 100000
set_option maxHeartbeats 8000000
set_option pp.maxSteps 1500
set_option pp.deepTerms false
namespace R
open PySem PySem.Spec PyProof.Rows L2 RZ
open PySem.W (Datum)
/-! ### merging puts all in order -/
theorem leastP_le : ∀ (xs : List Hd) (x : Hd), (leastP x xs).1 ≤ x.1 ∧ ∀ y ∈ xs, (leastP x xs).1 ≤ y.1
  | [], x => ⟨List.le_refl _, fun y h => by cases h⟩
  | y :: r, x => by
    have hc : (if (if y.1 = x.1 then decide (y.2 < x.2) else decide (y.1 < x.1)) = true then y else x).1 ≤ x.1 ∧ (if (if y.1 = x.1 then decide (y.2 < x.2) else decide (y.1 < x.1)) = true then y else x).1 ≤ y.1 := by
      by_cases e : y.1 = x.1
      · rw [if_pos e]
        by_cases e2 : decide (y.2 < x.2) = true
        · rw [if_pos e2]; exact ⟨by rw [e]; exact List.le_refl _, List.le_refl _⟩
        · rw [if_neg e2]; exact ⟨List.le_refl _, by rw [e]; exact List.le_refl _⟩
      · rw [if_neg e]
        by_cases e2 : y.1 < x.1
        · rw [if_pos (decide_eq_true e2)]; exact ⟨List.le_of_lt e2, List.le_refl _⟩
        · rw [if_neg (by rw [decide_eq_false e2]; decide)]; exact ⟨List.le_refl _, e2⟩
    obtain ⟨h1, h2⟩ := leastP_le r (if (if y.1 = x.1 then decide (y.2 < x.2) else decide (y.1 < x.1)) = true then y else x)
    refine ⟨List.le_trans h1 hc.1, fun z hz => ?_⟩
    rcases List.mem_cons.mp hz with rfl | hz
    · exact List.le_trans h1 hc.2
    · exact h2 z hz
theorem hdsFrom_in : ∀ {rs : List (List (List Nat))} {k j : Nat} {h : List Nat} {t : List (List Nat)}, rs[j]? = some (h :: t) → (h, k + j) ∈ hdsFrom k rs
  | l :: r, k, 0, h, t, e => by
    cases e
    exact List.mem_cons_self
  | l :: r, k, j + 1, h, t, e => by
    have := hdsFrom_in (rs := r) (k := k + 1) (j := j) e
    rw [show k + 1 + j = k + (j + 1) by omega] at this
    exact List.mem_append_right _ this
  | [], _, _, _, _, e => by simp at e
theorem set_perm : ∀ {rs : List (List (List Nat))} {k : Nat} {w : List Nat} {tl : List (List Nat)}, rs[k]? = some (w :: tl) → (w :: (rs.set k tl).flatten).Perm rs.flatten
  | l :: r, 0, w, tl, e => by
    cases e
    exact List.Perm.refl _
  | l :: r, k + 1, w, tl, e => by
    have := set_perm (rs := r) (k := k) (w := w) (tl := tl) e
    rw [List.set_cons_succ, List.flatten_cons, List.flatten_cons]
    exact List.perm_middle.symm.trans (this.append_left l)
  | [], _, _, _, e => by simp at e
theorem up_snoc {fs : List (List Nat)} {w : List Nat} (h : Up fs) (hw : ∀ a ∈ fs, a ≤ w) : Up (fs ++ [w]) :=
  List.pairwise_append.mpr ⟨h, List.pairwise_singleton _ _, fun a ha b hb => by rw [List.mem_singleton.mp hb]; exact hw a ha⟩
theorem sum_zero {rs : List (List (List Nat))} (h : (rs.map List.length).sum = 0) : ∀ l ∈ rs, l = [] := fun l hl => by
  have := len_sum hl
  exact List.length_eq_zero_iff.mp (by omega)
theorem flat_nil {rs : List (List (List Nat))} (h : ∀ l ∈ rs, l = []) : rs.flatten = [] := by
  rw [List.flatten_eq_nil_iff]
  exact h
theorem sum_nil {rs : List (List (List Nat))} (h : ∀ l ∈ rs, l = []) : (rs.map List.length).sum = 0 := by
  induction rs with
  | nil => rfl
  | cons x r ih =>
    rw [List.map_cons, List.sum_cons, h x List.mem_cons_self, ih fun l hl => h l (List.mem_cons_of_mem _ hl)]
    rfl
theorem mergeF_all : ∀ (n : Nat) (rs : List (List (List Nat))) (fs : List (List Nat)), (rs.map List.length).sum = n → (∀ l ∈ rs, Up l) → Up fs → (∀ a ∈ fs, ∀ b ∈ rs.flatten, a ≤ b) → Up (mergeF n rs fs) ∧ (mergeF n rs fs).Perm (fs ++ rs.flatten)
  | 0, rs, fs, hn, hr, hf, hb => ⟨hf, by rw [flat_nil (sum_zero hn), List.append_nil]; exact List.Perm.refl _⟩
  | n + 1, rs, fs, hn, hr, hf, hb => by
    cases hps : headsL rs with
    | nil => rw [sum_nil (hdsFrom_nil.mp hps)] at hn; cases hn
    | cons p ps =>
      have hmem : leastP p ps ∈ hdsFrom 0 rs := by
        have := leastP_mem ps p
        rw [← hps] at this
        exact this
      obtain ⟨j, tl, hj1, hj2⟩ := hdsFrom_mem hmem
      rw [Nat.zero_add] at hj1
      rw [mergeF_step hps, hj1, show rs.getD j [] = (leastP p ps).1 :: tl by rw [List.getD_eq_getElem?_getD, hj2]; rfl]
      show Up (mergeF n (rs.set j tl) _) ∧ (mergeF n (rs.set j tl) _).Perm _
      generalize hw : leastP p ps = wk at *
      obtain ⟨wd, k0⟩ := wk
      dsimp only at hj2
      have hwl : wd :: tl ∈ rs := List.mem_of_getElem? hj2
      have hmin : ∀ b ∈ rs.flatten, wd ≤ b := fun b hb => by
        obtain ⟨l, hl, hbl⟩ := List.mem_flatten.mp hb
        obtain ⟨i, hi⟩ := List.getElem?_of_mem hl
        cases l with
        | nil => cases hbl
        | cons h t =>
          have hin := hdsFrom_in (k := 0) hi
          have hle : wd ≤ h := by
            obtain ⟨h1, h2⟩ := leastP_le ps p
            rw [hw] at h1 h2
            have hin2 : (h, 0 + i) ∈ p :: ps := by rw [← hps]; exact hin
            rcases List.mem_cons.mp hin2 with e | e
            · rw [← e] at h1; exact h1
            · exact h2 _ e
          rcases List.mem_cons.mp hbl with rfl | hbl
          · exact hle
          · exact List.le_trans hle ((List.pairwise_cons.mp (hr _ hl)).1 b hbl)
      have hp := set_perm hj2
      have hsum := sum_set hj2
      obtain ⟨g1, g2⟩ := mergeF_all n (rs.set j tl) (fs ++ [wd]) (by omega) (fun l hl => by
        rcases List.mem_or_eq_of_mem_set hl with h | rfl
        · exact hr l h
        · exact (List.pairwise_cons.mp (hr _ hwl)).2) (up_snoc hf fun a ha => hb a ha wd (List.mem_flatten.mpr ⟨_, hwl, List.mem_cons_self⟩)) (fun a ha b hb2 => by
        have hb3 : b ∈ rs.flatten := hp.subset (List.mem_cons_of_mem _ hb2)
        rcases List.mem_append.mp ha with ha | ha
        · exact hb a ha b hb3
        · rw [List.mem_singleton.mp ha]; exact hmin b hb3)
      refine ⟨g1, g2.trans ?_⟩
      rw [List.append_assoc]
      exact hp.append_left fs
theorem mergeF_srt {rs : List (List (List Nat))} (h : ∀ l ∈ rs, Up l) : mergeF (rs.map List.length).sum rs [] = srt rs.flatten := by
  obtain ⟨h1, h2⟩ := mergeF_all _ rs [] rfl h List.Pairwise.nil (fun a ha => by cases ha)
  exact srt_of h2 h1
/-! ### the rows rise, and all is there -/
theorem least_le {xs : List (List Nat)} : ∀ b ∈ xs, least xs ≤ b := by
  have h : ∀ (xs : List (List Nat)) (x : List Nat), leastL x xs ≤ x ∧ ∀ y ∈ xs, leastL x xs ≤ y := by
    intro xs
    induction xs with
    | nil => exact fun x => ⟨List.le_refl _, fun y h => by cases h⟩
    | cons y r ih =>
      intro x
      obtain ⟨h1, h2⟩ := ih (if y < x then y else x)
      have hc : (if y < x then y else x) ≤ x ∧ (if y < x then y else x) ≤ y := by
        by_cases e : y < x
        · rw [if_pos e]; exact ⟨List.le_of_lt e, List.le_refl _⟩
        · rw [if_neg e]; exact ⟨List.le_refl _, e⟩
      refine ⟨List.le_trans h1 hc.1, fun z hz => ?_⟩
      rcases List.mem_cons.mp hz with rfl | hz
      · exact List.le_trans h1 hc.2
      · exact h2 z hz
  intro b hb
  cases xs with
  | nil => cases hb
  | cons x r =>
    rcases List.mem_cons.mp hb with rfl | hb
    · exact (h r b).1
    · exact (h r x).2 b hb
theorem able_of {ins : List (List Nat)} {rs : List (List (List Nat))} {o : List Nat} (h : o ∈ ableL ins rs) : o ∈ ins ∧ rs ≠ [] ∧ lastL rs ≤ o := by
  obtain ⟨h1, h2⟩ := List.mem_filter.mp (show o ∈ ins.filter _ from h)
  rw [Bool.and_eq_true, Bool.not_eq_true', decide_eq_false_iff_not, Bool.not_eq_true', decide_eq_false_iff_not] at h2
  exact ⟨h1, h2.1, h2.2⟩
theorem putL_ok {ins : List (List Nat)} {rs : List (List (List Nat))} (hi : ins ≠ []) (hu : ∀ l ∈ rs, Up l) (hn : ∀ l ∈ rs, l ≠ []) : (∀ l ∈ putL ins rs, Up l) ∧ (∀ l ∈ putL ins rs, l ≠ []) ∧ (putL ins rs).flatten = rs.flatten ++ [bestL ins rs] := by
  unfold putL
  by_cases e : ableL ins rs = []
  · rw [if_pos e]
    refine ⟨fun l hl => ?_, fun l hl => ?_, by rw [List.flatten_append]; rfl⟩
    · rcases List.mem_append.mp hl with hl | hl
      · exact hu l hl
      · rw [List.mem_singleton.mp hl]; exact List.pairwise_singleton _ _
    · rcases List.mem_append.mp hl with hl | hl
      · exact hn l hl
      · rw [List.mem_singleton.mp hl]; simp
  · rw [if_neg e]
    have hb : bestL ins rs ∈ ableL ins rs := by unfold bestL; rw [if_neg e]; exact least_mem e
    obtain ⟨_, hrs, hle⟩ := able_of hb
    obtain ⟨rs0, l0, w, rfl, hlast⟩ := rows_last hrs hn
    rw [hlast] at hle
    rw [List.dropLast_concat, List.getLast?_concat, Option.getD_some]
    have hu0 := hu (l0 ++ [w]) (List.mem_append_right _ List.mem_cons_self)
    refine ⟨fun l hl => ?_, fun l hl => ?_, by rw [List.flatten_append, List.flatten_append, List.append_assoc]; rw [List.flatten_cons, List.flatten_cons]; simp⟩
    · rcases List.mem_append.mp hl with hl | hl
      · exact hu l (List.mem_append_left _ hl)
      · rw [List.mem_singleton.mp hl]
        refine up_snoc hu0 fun a ha => ?_
        rcases List.mem_append.mp ha with ha | ha
        · exact List.le_trans ((List.pairwise_append.mp hu0).2.2 a ha w List.mem_cons_self) hle
        · rw [List.mem_singleton.mp ha]; exact hle
    · rcases List.mem_append.mp hl with hl | hl
      · exact hn l (List.mem_append_left _ hl)
      · rw [List.mem_singleton.mp hl]; simp
theorem insL_perm {ins : List (List Nat)} (h : ins ≠ []) (rst : List (List Nat)) (rs : List (List (List Nat))) : (bestL ins rs :: (insL ins rst rs ++ rst.tail)).Perm (ins ++ rst) := by
  have hp := List.perm_cons_erase (bestL_mem h rs)
  unfold insL
  cases rst with
  | nil => rw [List.tail_nil, List.append_nil, List.append_nil]; exact hp.symm
  | cons x r =>
    show (bestL ins rs :: ((ins.erase (bestL ins rs) ++ [x]) ++ r)).Perm _
    rw [List.append_assoc]
    exact (hp.symm.append_right (x :: r))
theorem runsF_all : ∀ (m : Nat) (ins rst : List (List Nat)) (rs : List (List (List Nat))), m = ins.length + rst.length → (ins = [] → rst = []) → (∀ l ∈ rs, Up l) → (∀ l ∈ rs, l ≠ []) →
    (∀ l ∈ runsF m ins rst rs, Up l) ∧ (∀ l ∈ runsF m ins rst rs, l ≠ []) ∧ (runsF m ins rst rs).flatten.Perm (rs.flatten ++ (ins ++ rst))
  | 0, ins, rst, rs, hm, _, hu, hn => by
    have h1 : ins = [] := List.length_eq_zero_iff.mp (by omega)
    have h2 : rst = [] := List.length_eq_zero_iff.mp (by omega)
    subst h1 h2
    exact ⟨hu, hn, by rw [List.append_nil, List.append_nil]; exact List.Perm.refl _⟩
  | m + 1, ins, rst, rs, hm, he, hu, hn => by
    by_cases hi : ins = []
    · have := he hi
      subst hi this
      cases hm
    · show (∀ l ∈ (if ins = [] then rs else _), Up l) ∧ _
      rw [show runsF (m + 1) ins rst rs = runsF m (insL ins rst rs) rst.tail (putL ins rs) from if_neg hi]
      rw [if_neg hi]
      obtain ⟨p1, p2, p3⟩ := putL_ok hi hu hn
      have hl := insL_len hi rst rs
      obtain ⟨g1, g2, g3⟩ := runsF_all m (insL ins rst rs) rst.tail (putL ins rs) (by omega) (fun h => by
        unfold insL at h
        cases rst with
        | nil => rfl
        | cons x r => simp at h) p1 p2
      refine ⟨g1, g2, g3.trans ?_⟩
      rw [p3, List.append_assoc]
      exact (insL_perm hi rst rs).append_left rs.flatten
theorem runs_ok (ls : List (List Nat)) {k : Nat} (hk : 1 ≤ k) : (∀ l ∈ runsF ls.length (ls.take k) (ls.drop k) [], Up l) ∧ (∀ l ∈ runsF ls.length (ls.take k) (ls.drop k) [], l ≠ []) ∧ (runsF ls.length (ls.take k) (ls.drop k) []).flatten.Perm ls := by
  have h := runsF_all ls.length (ls.take k) (ls.drop k) [] (by rw [← List.length_append, List.take_append_drop]) (fun e => by
    cases ls with
    | nil => exact List.drop_nil
    | cons x r =>
      obtain ⟨j, rfl⟩ : ∃ j, k = j + 1 := ⟨k - 1, by omega⟩
      cases e) (fun l h => by cases h) (fun l h => by cases h)
  refine ⟨h.1, h.2.1, h.2.2.trans ?_⟩
  rw [List.take_append_drop]
  exact List.Perm.refl _
/-! ### turns -/
def turnsF (w : Nat) : Nat → Nat → Nat
  | 0, _ => 0
  | f + 1, n => if n ≤ 1 then 0 else 1 + turnsF w f ((n + w - 1) / w)
theorem turns_small (w : Nat) {n : Nat} (h : n ≤ 1) (f : Nat) : turnsF w f n = 0 := by
  cases f with
  | zero => rfl
  | succ f => exact if_pos h
theorem turn_less {n w : Nat} (h : 1 < n) (hw : 2 ≤ w) : (n + w - 1) / w < n := by
  rw [Nat.div_lt_iff_lt_mul (by omega)]
  have : n * 2 ≤ n * w := Nat.mul_le_mul_left n hw
  have h2 : (n - 1) * 2 ≤ (n - 1) * w := Nat.mul_le_mul_left _ hw
  have h3 : n * w = (n - 1) * w + w := by
    obtain ⟨j, rfl⟩ : ∃ j, n = j + 1 := ⟨n - 1, by omega⟩
    rw [Nat.add_mul, Nat.one_mul]; rfl
  omega
section
variable {P : Program} {w : World} {K : PySem.W.Frag} {mg : Str → Option Value} {base : Heap}
def sp_passes (K : PySem.W.Frag) (CN : Addr) : Sp := fun vs H Q E => ∃ (v x : V) (n1 n2 : String), vs = [v, x] ∧ Pl K H v n1 ∧ Pl K H x n2 ∧ (isWhole v 0 100000 = false → E (.ref CN) none H) ∧ (isWhole v 0 100000 = true → isWhole x 2 50 = false → E (.ref CN) none H) ∧
  ∀ n k : Nat, v = .int n → x = .int k → n ≤ 100000 → 2 ≤ k → k ≤ 50 → Q (.int (turnsF k n n : Nat)) H
theorem ok_passes (T : Txt K mg) : FnOk P w K mg base (L2.CX P w) 3 T.passes.a T.passes.d ["rows", "ways"] (sp_passes K T.BadNumber.C) := by
  refine T.passes.F.okX sc_passes (fun vs H Q E h => ?_) (fun cdv A outer s0 H vs Q E hr h => ?_)
  · obtain ⟨v, x, n1, n2, rfl, _⟩ := h
    rfl
  · obtain ⟨v, x, n1, n2, rfl, h1, h2, k1, k2, k3⟩ := h
    refine ⟨_, (pss_cons (ps_if (pt_not (pt_val (pe_call (ok_is_whole T) (hr.mono (by decide)) (by rfl) T.is_whole.g T.is_whole.F.kp T.is_whole.b .nil (passes_call (takes_of rfl rfl rfl rfl) (fun _ _ _ _ h => h)) (pa_cons (pv 0) (pa_cons pe_int (pa_cons pe_int pa_nil))))))
      (pss_one (ps_raise rfl (takes_of rfl rfl rfl rfl) (pmk_own PySem.F.excBase_ValueError T.BadNumber.x T.BadNumber.g T.BadNumber.k (raises_own T.BadNumber.b T.BadNumber.t) (by exact rfl))))
      pss_nil)
    (pss_cons (ps_expr (pe_call (ok_look_number T) (hr.mono (by decide)) (by rfl) T.look_number.g T.look_number.F.kp T.look_number.b .nil (passes_call (takes_of rfl rfl rfl rfl) (fun _ _ _ _ h => h)) (pa_cons (pv 1) (pa_cons pe_int (pa_cons pe_int pa_nil)))))
    (pss_cons (ps_set (i := 2) sc_passes.nd rfl (.inl rfl) pe_int)
    (pss_cons (ps_while (passes_of rfl) (pt_cmpR op_gt (pv 0) pe_int (nomark _))
      (pss_cons (ps_set (i := 0) sc_passes.nd rfl (.inl rfl) (pe_op op_fdiv (pe_op op_sub (pe_op op_add (pv 0) (pv 1)) pe_int) (pv 1)))
      (pss_one (ps_aug (i := 2) sc_passes.nd rfl (.inl rfl) pe_int ip_add))))
    (pss_one (ps_ret (pv 2))))))), ?_⟩
    refine ⟨_, rfl, v, n1, 0, 100000, rfl, h1, _, rfl, iteNB (fun e => k1 e) (fun e => ?_)⟩
    refine ⟨_, rfl, x, n2, 2, 50, rfl, h2, fun e2 => ?_, fun e2 => k2 e e2⟩
    obtain ⟨n, rfl, hn⟩ : ∃ n : Nat, v = .int n ∧ n ≤ 100000 := by
      cases v with
      | int j =>
        have : (decide (0 ≤ j) && decide (j ≤ 100000)) = true := e
        simp only [Bool.and_eq_true, decide_eq_true_eq] at this
        exact ⟨j.toNat, by congr 1; omega, by omega⟩
      | _ => cases e
    obtain ⟨k, rfl, hk1, hk2⟩ : ∃ k : Nat, x = .int k ∧ 2 ≤ k ∧ k ≤ 50 := by
      cases x with
      | int j =>
        have : (decide (2 ≤ j) && decide (j ≤ 50)) = true := e2
        simp only [Bool.and_eq_true, decide_eq_true_eq] at this
        exact ⟨j.toNat, by congr 1; omega, by omega, by omega⟩
      | _ => cases e2
    have fin := k3 n k rfl rfl hn hk1 hk2
    generalize hFin : turnsF k n n = Fin at fin
    refine ⟨fun m σ H' => ∃ n' t : Nat, σ = [some (.int (n' : Nat)), some (.int (k : Nat)), some (.int (t : Nat))] ∧ H' = H ∧ n' ≤ m ∧ t + turnsF k m n' = Fin, ⟨n, n, 0, rfl, rfl, Nat.le_refl _, by rw [Nat.zero_add]; exact hFin⟩, fun m σ H' w0 => ?_⟩
    obtain ⟨n', t, rfl, eH, hm, ht⟩ := w0
    subst eH
    refine ⟨_, rfl, _, _, rfl, rfl, _, rfl, iteD (fun e1 => ?_) (fun e1 => ?_)⟩
    · have hn1 : 1 < n' := by omega
      obtain ⟨m', rfl⟩ : ∃ m', m = m' + 1 := ⟨m - 1, by omega⟩
      refine ⟨fun σ' H2 => ∃ m2, m2 < m' + 1 ∧ ∃ n' t : Nat, σ' = [some (.int (n' : Nat)), some (.int (k : Nat)), some (.int (t : Nat))] ∧ H2 = H' ∧ n' ≤ m2 ∧ t + turnsF k m2 n' = Fin, fun σ' H2 h => h, ?_⟩
      have ev : (((n' : Nat) : Int) + (k : Nat) - 1) / (k : Nat) = (((n' + k - 1) / k : Nat) : Int) := by
        rw [show ((n' : Nat) : Int) + (k : Nat) - 1 = ((n' + k - 1 : Nat) : Int) by omega]
        exact (Int.natCast_ediv _ _).symm
      refine ⟨_, rfl, _, rfl, _, _, rfl, rfl, _, _, rfl, rfl, _, rfl, _, _, rfl, rfl, ⟨by omega, by omega⟩, ?_⟩
      dsimp only
      rw [ev]
      have hl := turn_less hn1 hk1
      refine ⟨_, rfl, _, _, rfl, rfl, m', Nat.lt_succ_self _, (n' + k - 1) / k, t + 1, rfl, rfl, by omega, ?_⟩
      rw [← ht, show turnsF k (m' + 1) n' = 1 + turnsF k m' ((n' + k - 1) / k) from if_neg (by omega)]
      omega
    · rw [turns_small k (by omega)] at ht
      subst ht
      exact ⟨_, rfl, fin⟩
end
end R
set_option maxRecDepth 100000
set_option maxHeartbeats 8000000
set_option pp.maxSteps 1500
set_option pp.deepTerms false
namespace R
open PySem PySem.Spec PyProof.Rows L2 RZ
open PySem.W (Datum)
/-- the rows, so many at a time -/
def chunks (w : Nat) (rs : List (List (List Nat))) (n : Nat) : List (List (List (List Nat))) := (List.range n).map fun j => (rs.drop (j * w)).take w
theorem chunks_flat (w : Nat) (hw : 1 ≤ w) : ∀ (n : Nat) (rs : List (List (List Nat))), ((chunks w rs n).map List.flatten).flatten = (rs.take (n * w)).flatten
  | 0, rs => by
    rw [Nat.zero_mul]
    rfl
  | n + 1, rs => by
    unfold chunks
    rw [List.range_succ, List.map_append, List.map_append, List.flatten_append]
    have ih := chunks_flat w hw n rs
    unfold chunks at ih
    rw [ih, Nat.succ_mul, List.take_add, List.flatten_append]
    show _ ++ ([((rs.drop (n * w)).take w).flatten]).flatten = _
    rw [List.flatten_cons, List.flatten_nil, List.append_nil]
theorem chunk_cover {n w : Nat} (hn : 1 ≤ n) (hw : 1 ≤ w) : n ≤ (n + w - 1) / w * w := by
  have h1 := Nat.div_add_mod (n + w - 1) w
  have h2 := Nat.mod_lt (n + w - 1) (show w > 0 by omega)
  rw [Nat.mul_comm] at h1
  omega
theorem chunk_small {n w j : Nat} (hw : 1 ≤ w) (h : j < (n + w - 1) / w) : j * w < n := by
  have h1 : (j + 1) * w ≤ (n + w - 1) / w * w := Nat.mul_le_mul_right w h
  have h2 := Nat.div_mul_le_self (n + w - 1) w
  rw [Nat.add_mul, Nat.one_mul] at h1
  omega
theorem cut_refs (as : List Addr) (k w : Nat) : cutV (as.map V.ref) (some (k : Int)) (some ((k : Int) + (w : Nat))) = ((as.drop k).take w).map V.ref := by
  show sl (as.map V.ref) (some (k : Int)) (some ((k : Int) + (w : Nat))) = _
  rw [show (k : Int) + (w : Nat) = ((k + w : Nat) : Int) by omega, sl_mid, List.map_take, List.map_drop, List.take_drop]
theorem Rows.drop {H : Hp} : ∀ {as : List Addr} {ls : List (List (List Nat))} (k : Nat), Rows H as ls → Rows H (as.drop k) (ls.drop k)
  | as, ls, 0, h => h
  | a :: as, l :: ls, k + 1, h => Rows.drop (as := as) (ls := ls) k h.2
  | [], [], _ + 1, _ => trivial
  | [], _ :: _, _ + 1, h => h.elim
  | _ :: _, [], _ + 1, h => h.elim
theorem Rows.take {H : Hp} : ∀ {as : List Addr} {ls : List (List (List Nat))} (k : Nat), Rows H as ls → Rows H (as.take k) (ls.take k)
  | _, _, 0, _ => trivial
  | a :: as, l :: ls, k + 1, h => ⟨h.1, Rows.take (as := as) (ls := ls) k h.2⟩
  | [], [], _ + 1, _ => trivial
  | [], _ :: _, _ + 1, h => h.elim
  | _ :: _, [], _ + 1, h => h.elim
theorem items_txs {K : PySem.W.Frag} {H : Hp} : ∀ {ls : List (List Nat)}, (∀ l ∈ ls, l.length < 16777216) → Items K H (txs ls) (ls.map some)
  | [], _ => .nil
  | l :: r, h => .cons (.str l (h l List.mem_cons_self)) (items_txs fun x hx => h x (List.mem_cons_of_mem _ hx))
theorem Rws.of {K : PySem.W.Frag} {H : Hp} {a : Addr} {as : List Addr} {ls : List (List (List Nat))} (h : SqL K H a (as.map V.ref)) (r : Rows H as ls) (h1 : ls.length < 16777216) (h2 : ∀ l ∈ ls, l.length < 16777216 ∧ ∀ w ∈ l, w.length < 16777216) : Rws K H (.ref a) (some (ls.map fun l => some (l.map some))) := by
  refine .lst h (fun i x hx => ?_) (by rw [List.length_map, List.length_map, r.len]) (by rw [List.length_map, r.len]; exact h1)
  rw [List.getElem?_map] at hx
  obtain ⟨b, hb, rfl⟩ := Option.map_eq_some_iff.mp hx
  obtain ⟨l, hl, hH⟩ := r.get hb
  have hm := h2 l (List.mem_of_getElem? hl)
  exact ⟨some (l.map some), by rw [List.getElem?_map, hl]; rfl, .lst (SqL.of hH) (items_txs hm.2) (by rw [strs_len]; exact hm.1)⟩
theorem goodR_up {ls : List (List (List Nat))} (h : ∀ l ∈ ls, Up l) : goodR (some (ls.map fun l => some (l.map some))) = true := by
  show (ls.map _).all rowOk = true
  rw [List.all_eq_true]
  intro o ho
  obtain ⟨l, hl, rfl⟩ := List.mem_map.mp ho
  unfold rowOk
  rw [txO_of, okTx_of, decide_eq_true (up_srt.mpr (h l hl))]
  rfl
theorem rows_map_inj {a b : List (List (List Nat))} (h : (a.map fun l => some (l.map some)) = b.map fun l => some (l.map some)) : a = b := by
  have e : ∀ c : List (List (List Nat)), (c.map fun l => some (l.map some)).map txO = c := fun c => by
    rw [List.map_map]
    conv => rhs; rw [← List.map_id c]
    exact List.map_congr_left fun l _ => txO_of l
  rw [← e a, h, e b]
theorem flat_len (rs : List (List (List Nat))) : (rs.map List.length).sum = rs.flatten.length := List.length_flatten.symm
theorem rgc_of {m n u : Nat} (e : m = n) (hn : n ≤ 60) (hu : 2 ≤ u) (hu2 : u ≤ 50) : RgC 0 (m : Nat) (u : Nat) ((n + u - 1) / u) := by
  subst e
  refine ⟨by omega, by omega, ?_, ?_⟩
  · unfold Builtin.Range.small
    rw [rangeSize_pos (by omega) (by omega)]
    have h1 : (((m : Nat) : Int) + (u : Nat) - 1) / (u : Nat) ≤ 1000 := by
      rw [show ((m : Nat) : Int) + (u : Nat) - 1 = ((m + u - 1 : Nat) : Int) by omega]
      have h2 := Nat.div_le_self (m + u - 1) u
      have h3 : (((m + u - 1 : Nat) : Int) / ((u : Nat) : Int)) = (((m + u - 1) / u : Nat) : Int) := (Int.natCast_ediv _ _).symm
      rw [h3]
      omega
    have h0 : 0 ≤ (((m : Nat) : Int) + (u : Nat) - 1) / (u : Nat) := Int.ediv_nonneg (by omega) (by omega)
    generalize (((m : Nat) : Int) + (u : Nat) - 1) / (u : Nat) = z at h0 h1
    simp only [Builtin.Range.rangeFitsLong, Bool.and_eq_true, Bool.or_eq_true, decide_eq_true_eq, beq_iff_eq, show ((u : Nat) : Int) > 0 by omega, if_true]
    omega
  · rw [rangeSize_pos (by omega) (by omega)]
    rw [show ((m : Nat) : Int) + (u : Nat) - 1 = ((m + u - 1 : Nat) : Int) by omega]
    exact (Int.natCast_ediv _ _).symm
section
variable {P : Program} {w : World} {K : PySem.W.Frag} {mg : Str → Option Value} {base : Heap}
def sp_sorted_by (K : PySem.W.Frag) (CR CN : Addr) : Sp := fun vs H Q E => ∃ (v x y : V) (r : Option (List (Option (List Nat)))) (n1 n2 : String), vs = [v, x, y] ∧ Recs K H v r ∧ Pl K H x n1 ∧ Pl K H y n2 ∧
  (okTx r = false → ∀ H', Same H H' → E (.ref CR) none H') ∧ (okTx r = true → isWhole x 1 50 = false → ∀ H', Same H H' → E (.ref CN) none H') ∧ (okTx r = true → isWhole x 1 50 = true → isWhole y 2 50 = false → ∀ H', Same H H' → E (.ref CN) none H') ∧
  (∀ ls : List (List Nat), r = some (ls.map some) → ls.length ≤ 60 ∧ ∀ l ∈ ls, l.length < 16777216) ∧
  ∀ (ls : List (List Nat)) (k u : Nat), r = some (ls.map some) → x = .int k → y = .int u → 1 ≤ k → k ≤ 50 → 2 ≤ u → u ≤ 50 → ∀ p q H', Same H H' → H' q = some (.lst (txs (srt ls))) →
    H' p = some (.tup [.ref q, .int (turnsF u (runsF ls.length (ls.take k) (ls.drop k) []).length (runsF ls.length (ls.take k) (ls.drop k) []).length : Nat)]) → H p = none → H q = none → Q (.ref p) H'
theorem ok_sorted_by (T : Txt K mg) : FnOk P w K mg base (L2.CX P w) 4 T.sorted_by.a T.sorted_by.d ["records", "room", "ways"] (sp_sorted_by K T.BadRecord.C T.BadNumber.C) := by
  refine T.sorted_by.F.okX sc_sorted_by (fun vs H Q E h => ?_) (fun cdv A outer s0 H vs Q E hr h => ?_)
  · obtain ⟨v, x, y, r, n1, n2, rfl, _⟩ := h
    rfl
  · obtain ⟨v, x, y, r, n1, n2, rfl, hR, h1, h2, k1, k2, k3, hb, fin⟩ := h
    refine ⟨_, (pss_cons (ps_set (i := 3) sc_sorted_by.nd rfl (.inr rfl) (pe_callN (ok_runs_of T) (hr.mono (by decide)) (by rfl) T.runs_of.g T.runs_of.F.kp T.kb_runs_of_room (passes_call (takes_of rfl rfl rfl rfl) (fun _ _ _ _ h => h)) (pa_cons (pv 0) pa_nil) (pk_cons (pv 1) pk_nil)))
    (pss_cons (ps_expr (pe_call (ok_look_number T) (hr.mono (by decide)) (by rfl) T.look_number.g T.look_number.F.kp T.look_number.b .nil (passes_call (takes_of rfl rfl rfl rfl) (fun _ _ _ _ h => h)) (pa_cons (pv 2) (pa_cons pe_int (pa_cons pe_int pa_nil)))))
    (pss_cons (ps_set (i := 4) sc_sorted_by.nd rfl (.inl rfl) pe_int)
    (pss_cons (ps_while (passes_of rfl) (pt_cmpR op_gt (pe_callB call_len_seq (by rfl) T.z_len PySem.boot_len (pa_cons (pv 3) pa_nil)) pe_int (nomark _))
      (pss_cons (ps_set (i := 3) sc_sorted_by.nd rfl (.inr rfl) (pe_lc (own := [("k", 5)]) (g := gName 5) rfl sc_sorted_by.nd (pi_range3 (by rfl) T.z_range (pa_cons pe_int (pa_cons (pe_callB call_len_seq (by rfl) T.z_len PySem.boot_len (pa_cons (pv 3) pa_nil)) (pa_cons (pv 2) pa_nil)))) (blkOk_by (N := N_sorted_by) (sc := defScope s_sorted_by) (by decide +kernel)) (fun _ _ _ _ _ => (pg_name (i := 5) sc_sorted_by.nd rfl (.inl rfl))) (fun _ _ _ _ _ => pts_nil) (fun _ _ _ _ _ => (pe_call (ok_merged T) (hr.mono (by decide)) (by rfl) T.merged.g T.merged.F.kp T.merged.b .nil passL (pa_cons (pe_slice (sl_listC (K := K) rfl) (pv 3) (po_some (pv 5)) (po_some (pe_op op_add (pv 5) (pv 2)))) pa_nil)))))
      (pss_one (ps_aug (i := 4) sc_sorted_by.nd rfl (.inl rfl) pe_int ip_add))))
    (pss_one (ps_ret (pe_tup (pa_cons (pe_ifExp (pt_cmpR (op_neP hr.units) (pv 3) (pe_lst pa_nil) (nomark _)) (pe_ix ix_list (pv 3) pe_int (fun _ _ => rfl)) (pe_lst pa_nil)) (pa_cons (pv 4) pa_nil))))))))), ?_⟩
    refine ⟨_, rfl, _, rfl, rfl, rfl, v, x, r, n1, rfl, hR, h1, fun no H1 s1 => k1 no _ s1, fun yes no H1 s1 => k2 yes no _ s1, fun ls k er ex hk1 hk2 => ⟨by have := (hb ls er).1; omega, fun f as H1 s1 hf hro hnd hfr => ?_⟩⟩
    have hyes : okTx r = true := by rw [er]; exact okTx_of ls
    have hxw : isWhole x 1 50 = true := by
      rw [ex]
      show (decide ((1 : Int) ≤ (k : Nat)) && decide (((k : Nat) : Int) ≤ 50)) = true
      rw [decide_eq_true (by omega), decide_eq_true (by omega)]; rfl
    refine ⟨_, rfl, y, n2, 2, 50, rfl, h2.same s1, fun e2 => ?_, fun e2 => k3 hyes hxw e2 _ s1⟩
    obtain ⟨u, rfl, hu1, hu2⟩ : ∃ u : Nat, y = .int u ∧ 2 ≤ u ∧ u ≤ 50 := by
      cases y with
      | int j =>
        have : (decide (2 ≤ j) && decide (j ≤ 50)) = true := e2
        simp only [Bool.and_eq_true, decide_eq_true_eq] at this
        exact ⟨j.toNat, by congr 1; omega, by omega, by omega⟩
      | _ => cases e2
    obtain ⟨hlen, hlong⟩ := hb ls er
    have hfin := fin ls k u er ex rfl hk1 hk2 hu1 hu2
    obtain ⟨r1, r2, r3⟩ := runs_ok ls hk1
    generalize hrw : runsF ls.length (ls.take k) (ls.drop k) [] = rw0 at *
    generalize hFin : turnsF u rw0.length rw0.length = Fin at hfin
    refine ⟨fun m σ H' => ∃ (f : Addr) (as : List Addr) (rs : List (List (List Nat))) (t : Nat) , σ = [some v, some x, some (.int (u : Nat)), some (.ref f), some (.int (t : Nat)), none] ∧ Same H H' ∧ H' f = some (.lst (as.map V.ref)) ∧ Rows H' as rs ∧ (∀ a ∈ as, H a = none) ∧ (∀ l ∈ rs, Up l) ∧ rs.flatten.Perm ls ∧ rs.length ≤ 60 ∧ rs.length ≤ m ∧ t + turnsF u m rs.length = Fin,
      ⟨rw0.length, f, as, rw0, 0, rfl, s1, hf, hro, fun a ha => hfr a (List.mem_cons_of_mem _ ha), r1, r3, ?_, Nat.le_refl _, by rw [Nat.zero_add]; exact hFin⟩, fun m σ H' w0 => ?_⟩
    · have := sum_len r2
      rw [flat_len, r3.length_eq] at this
      omega
    obtain ⟨f2, as2, rs, t, rfl, s2, hf2, hro2, hfr2, hup, hperm, hl60, hm, ht⟩ := w0
    refine ⟨_, rfl, f2, _, rfl, .inl (SqL.of hf2), _, _, rfl, rfl, _, rfl, ?_⟩
    rw [List.length_map, hro2.len]
    refine iteD (fun e1 => ?_) (fun e1 => ?_)
    · have hn1 : 1 < rs.length := by omega
      obtain ⟨m', rfl⟩ : ∃ m', m = m' + 1 := ⟨m - 1, by omega⟩
      have hless := turn_less hn1 hu1
      have hfl : rs.flatten.length ≤ 60 := by rw [hperm.length_eq]; exact hlen
      have hwl : ∀ wd ∈ rs.flatten, wd.length < 16777216 := fun wd hw => hlong wd (hperm.subset hw)
      refine ⟨fun σ' H2 => ∃ m2, m2 < m' + 1 ∧ ∃ (f : Addr) (as : List Addr) (rs : List (List (List Nat))) (t : Nat) , σ' = [some v, some x, some (.int (u : Nat)), some (.ref f), some (.int (t : Nat)), none] ∧ Same H H2 ∧ H2 f = some (.lst (as.map V.ref)) ∧ Rows H2 as rs ∧ (∀ a ∈ as, H a = none) ∧ (∀ l ∈ rs, Up l) ∧ rs.flatten.Perm ls ∧ rs.length ≤ 60 ∧ rs.length ≤ m2 ∧ t + turnsF u m2 rs.length = Fin, fun σ' H2 h => h, ?_⟩
      refine ⟨_, rfl, f2, _, rfl, .inl (SqL.of hf2), _, rfl, 0, ((as2.map V.ref).length : Nat), (u : Nat), (rs.length + u - 1) / u, rfl, rgc_of (by rw [List.length_map, hro2.len]) (by omega) hu1 hu2, fun D nD => ?_⟩
      refine lc_it walk_rangeC (fun i H6 => ∃ bs : List Addr, Same H' H6 ∧ H6 D = some (.lst (bs.map V.ref)) ∧ Rows H6 bs ((chunks u rs i).map fun c => srt c.flatten) ∧ (∀ b ∈ bs, H' b = none ∧ b ≠ D)) ⟨[], same_new nD, upd_same, trivial, fun b hb => by cases hb⟩ (fun _ _ _ _ => trivial) (fun i z H6 H7 hlt p yy => ?_) (fun H6 p => ?_)
      · obtain ⟨bs, s6, hD, hbs, hbf⟩ := p
        obtain ⟨rfl, rfl⟩ := yy
        have hi := chunk_small (by omega) hlt
        have es : (0 : Int) + (i : Nat) * (u : Nat) = ((i * u : Nat) : Int) := by rw [Int.zero_add]; exact (Int.natCast_mul i u).symm
        refine ⟨rfl, _, rfl, _, rfl, _, rfl, _, rfl, _, rfl, _, _, rfl, rfl, _, rfl, f2, _, rfl, SqL.of (s6 _ _ hf2), fun p np => ?_⟩
        rw [es, cut_refs]
        have sp := same_new (o := .lst (((as2.drop (i * u)).take u).map V.ref)) np
        have hroc : Rows (upd H7 p (.lst (((as2.drop (i * u)).take u).map V.ref))) ((as2.drop (i * u)).take u) ((rs.drop (i * u)).take u) := ((hro2.drop _).take _).same (s6.trans sp)
        have hsub : ∀ l ∈ (rs.drop (i * u)).take u, l ∈ rs := fun l hl => List.mem_of_mem_drop (List.mem_of_mem_take hl)
        have hsubf : ∀ l ∈ (rs.drop (i * u)).take u, l.length ≤ 60 ∧ ∀ wd ∈ l, wd.length < 16777216 := fun l hl => ⟨by
          have := len_sum (hsub l hl)
          rw [flat_len] at this
          omega, fun wd hw => hwl wd (List.mem_flatten.mpr ⟨l, hsub l hl, hw⟩)⟩
        have hcl : ((rs.drop (i * u)).take u).length ≤ 60 := by rw [List.length_take, List.length_drop]; omega
        have hcs : ((rs.drop (i * u)).take u).flatten.length ≤ 60 := by
          have h5 : (rs.flatten).length = ((rs.take (i * u)).flatten ++ (((rs.drop (i * u)).take u).flatten ++ ((rs.drop (i * u)).drop u).flatten)).length := by
            rw [← List.flatten_append, List.take_append_drop, ← List.flatten_append, List.take_append_drop]
          rw [List.length_append, List.length_append] at h5
          omega
        refine ⟨.ref p, some (((rs.drop (i * u)).take u).map fun l => some (l.map some)), rfl, Rws.of (SqL.of upd_same) hroc (by omega) (fun l hl => ⟨by have := (hsubf l hl).1; omega, (hsubf l hl).2⟩), fun rs' ers o ho => ?_, fun no => ?_, fun rows erows hupr => ⟨?_, ?_, fun q H8 g8 => ?_⟩⟩
        · cases ers
          obtain ⟨l, hl, rfl⟩ := List.mem_map.mp ho
          rw [txO_of]
          have := (hsubf l hl).1
          omega
        · rw [goodR_up fun l hl => hup l (hsub l hl)] at no
          cases no
        · have := rows_map_inj (Option.some.inj erows)
          rw [← this]; omega
        · have := rows_map_inj (Option.some.inj erows)
          rw [← this, flat_len]; omega
        · have := rows_map_inj (Option.some.inj erows)
          subst this
          rw [mergeF_srt hupr] at g8
          have qD : q ≠ D := fun e => by
            have h9 := g8.1
            rw [e, sp _ _ hD] at h9
            cases h9
          refine ⟨bs.map V.ref, g8.2.1 _ _ (sp _ _ hD), szl ?_, bs ++ [q], ?_, ?_, ?_, ?_⟩
          · rw [List.length_map, hbs.len, List.length_map]
            show (chunks u rs i).length < 16777216
            unfold chunks
            rw [List.length_map, List.length_range]
            omega
          · intro z o hz
            rw [upd_ne (ne_of_none hz nD)]
            exact g8.2.1 _ _ (sp _ _ (s6 _ _ hz))
          · rw [upd_same, List.map_append]; rfl
          · have ec : (chunks u rs (i + 1)).map (fun c => srt c.flatten) = (chunks u rs i).map (fun c => srt c.flatten) ++ [srt ((rs.drop (i * u)).take u).flatten] := by
              unfold chunks
              rw [List.range_succ, List.map_append, List.map_append]
              rfl
            rw [ec]
            refine Rows.snoc (((hbs.same sp).same g8.2.1).upd fun h => (hbf D h).2 rfl) ?_
            rw [upd_ne qD]; exact g8.2.2
          · intro b hb
            rcases List.mem_append.mp hb with hb | hb
            · exact hbf b hb
            · rw [List.mem_singleton.mp hb]
              exact ⟨s6.free (sp.free g8.1), qD⟩
      obtain ⟨bs, s6, hD, hbs, hbf⟩ := p
      have hcov := chunk_cover (n := rs.length) (w := u) (by omega) (by omega)
      have hflat : (((chunks u rs ((rs.length + u - 1) / u)).map fun c => srt c.flatten).flatten).Perm rs.flatten := by
        have h5 := chunks_flat u (by omega) ((rs.length + u - 1) / u) rs
        rw [List.take_of_length_le hcov] at h5
        rw [← h5]
        have : ∀ cs : List (List (List (List Nat))), ((cs.map fun c => srt c.flatten).flatten).Perm ((cs.map List.flatten).flatten) := by
          intro cs
          induction cs with
          | nil => exact List.Perm.refl _
          | cons c r ih =>
            rw [List.map_cons, List.map_cons, List.flatten_cons, List.flatten_cons]
            exact (srt_perm _).append ih
        exact this _
      have hcl2 : ((chunks u rs ((rs.length + u - 1) / u)).map fun c => srt c.flatten).length = (rs.length + u - 1) / u := by
        unfold chunks
        rw [List.length_map, List.length_map, List.length_range]
      refine ⟨_, rfl, _, _, rfl, rfl, m', Nat.lt_succ_self _, D, bs, _, t + 1, rfl, s2.trans s6, hD, hbs, fun b hb => s2.free (hbf b hb).1, fun l hl => ?_, hflat.trans hperm, by rw [hcl2]; omega, by rw [hcl2]; omega, ?_⟩
      · obtain ⟨c, _, rfl⟩ := List.mem_map.mp hl
        exact srt_up _
      · rw [hcl2, ← ht, show turnsF u (m' + 1) rs.length = 1 + turnsF u m' ((rs.length + u - 1) / u) from if_neg (by omega)]
        omega
    · rw [turns_small u (by omega)] at ht
      subst ht
      refine ⟨_, rfl, sz (by decide), fun p np => ne_rows (bs := []) (ms := []) (SqL.of (same_new np _ _ hf2)) (hro2.same (same_new np)) (SqL.of upd_same) trivial ⟨_, rfl, iteN (fun hne => ?_) (fun he => ?_)⟩⟩
      · have sp := same_new (o := .lst []) np
        match rs, as2, hro2, hne, e1 with
        | [l], [b], hro2, _, _ =>
          refine ⟨_, rfl, f2, _, _, .ref b, rfl, rfl, SqL.of (sp _ _ hf2), (show atI [V.ref b] ((0 : Nat) : Int) = some (.ref b) from atI_nat rfl), _, rfl, sz (show 2 ≤ 16777216 by decide), fun q nq => ?_⟩
          have sq := same_new (o := .tup [.ref b, .int (t : Nat)]) nq
          have el : l = srt ls := srt_of (by
            have h6 := hperm
            rw [List.flatten_cons, List.flatten_nil, List.append_nil] at h6
            exact h6) (hup l List.mem_cons_self)
          refine hfin q b _ ((s2.trans sp).trans sq) ?_ upd_same ((s2.trans sp).free nq) (hfr2 b List.mem_cons_self)
          rw [← el]
          exact sq _ _ (sp _ _ hro2.1)
        | l :: m :: rs, _, _, _, e1 => exact absurd (by show (1 : Int) < ((rs.length + 1 + 1 : Nat) : Int); omega) e1
        | [l], [], hro2, _, _ => exact hro2.elim
        | [l], _ :: _ :: _, hro2, _, _ => exact hro2.2.elim
        | [], _, _, hne, _ => exact absurd rfl hne
      · subst he
        have sp := same_new (o := .lst []) np
        refine ⟨sz (by decide), fun b nb => ⟨_, rfl, sz (show 2 ≤ 16777216 by decide), fun q nq => ?_⟩⟩
        have sb := same_new (o := .lst []) nb
        have sq := same_new (o := .tup [.ref b, .int (t : Nat)]) nq
        have el : ls = [] := hperm.symm.eq_nil
        refine hfin q b _ (((s2.trans sp).trans sb).trans sq) ?_ upd_same (((s2.trans sp).trans sb).free nq) ((s2.trans sp).free nb)
        rw [el, ← srt_of (List.Perm.refl ([] : List (List Nat))) List.Pairwise.nil]
        exact sq _ _ upd_same
end
end R
set_option maxRecDepth 100000
set_option maxHeartbeats 8000000
set_option pp.maxSteps 1500
set_option pp.deepTerms false
namespace R
open PySem PySem.Spec PyProof.Rows L2 RZ
open PySem.W (Datum)
theorem cr_sortedSC {X : Cx} {K : PySem.W.Frag} (h : X.K = K) : CallR X (.builtin "sorted") (rSortedS K) := by subst h; exact cr_sortedS
theorem call_lenC {X : Cx} {K : PySem.W.Frag} (h : X.K = K) : CallR X (.builtin "len") (fun xs H Q => ∃ (p : Addr) (ys : List V), xs = [.ref p] ∧ (SqL K H p ys ∨ SqT K H p ys) ∧ Q (.int (ys.length : Nat)) H) := by subst h; exact call_len_seq
theorem srt_head {ab : List (List Nat)} (h : ab ≠ []) : (srt ab)[0]? = some (least ab) := by
  have hp := srt_perm ab
  cases hs : srt ab with
  | nil => rw [hs] at hp; exact absurd hp.symm.eq_nil h
  | cons x r =>
    have hx : x ∈ ab := hp.subset (by rw [hs]; exact List.mem_cons_self)
    have hm : least ab ∈ x :: r := by rw [← hs]; exact hp.symm.subset (least_mem h)
    have hu := srt_up ab
    rw [hs] at hu
    have h1 : least ab ≤ x := least_le x hx
    have h2 : x ≤ least ab := by
      rcases List.mem_cons.mp hm with e | e
      · rw [e]; exact List.le_refl _
      · exact (List.pairwise_cons.mp hu).1 _ e
    rw [List.le_antisymm h1 h2]; rfl
section
variable {P : Program} {w : World} {K : PySem.W.Frag} {mg : Str → Option Value} {base : Heap}
def MidQ (H0 : Hp) : TS := fun D σ H => ∃ (i r f b a : Addr) (as : List Addr) (ins rst l ab : List (List Nat)) (rs rs0 : List (List (List Nat))) (o0 o1 o6 : Option V), σ = [o0, o1, some (.ref i), some (.ref r), some (.ref f), some (.ref b), o6, none] ∧
  Same H0 H ∧ H i = some (.lst (txs ins)) ∧ H r = some (.lst (txs rst)) ∧ H f = some (.lst ((as ++ [a]).map V.ref)) ∧ Rows H as rs0 ∧ H a = some (.lst (txs l)) ∧ (i :: r :: f :: (as ++ [a])).Nodup ∧ (∀ x ∈ i :: r :: f :: (as ++ [a]), H0 x = none) ∧ (∀ l ∈ rs0, l ≠ []) ∧
  H b = some (.lst (txs ab)) ∧ ab ≠ [] ∧ least ab = bestL ins rs ∧ putL ins rs = rs0 ++ [l ++ [bestL ins rs]] ∧ ins ≠ [] ∧ l.length < 1000000 ∧ ins.length < 64 ∧ ab.length < 64 ∧
  ∀ H' b6 as2 r2, RunI H0 H' i r2 f as2 (insL ins rst rs) rst.tail (putL ins rs) → D.nx [o0, o1, some (.ref i), some (.ref r2), some (.ref f), some (.ref b), some b6, none] H'
def sp__law_runs (K : PySem.W.Frag) : Sp := fun vs H Q _ => ∃ (a : Addr) (k : Nat) (ls : List (List Nat)), vs = [.ref a, .int (k : Nat)] ∧ SqL K H a (txs ls) ∧ 1 ≤ k ∧ k ≤ 60 ∧ ls.length < 60 ∧
  ∀ f as H', Same H H' → H' f = some (.lst (as.map V.ref)) → Rows H' as (runsF ls.length (ls.take k) (ls.drop k) []) → (f :: as).Nodup → (∀ a ∈ f :: as, H a = none) → Q (.ref f) H'
theorem ok__law_runs (T : Txt K mg) : FnOk P w K mg base (L2.CX P w) 1 T._law_runs.a T._law_runs.d ["_law_records", "_law_space_of"] (sp__law_runs K) := by
  refine T._law_runs.F.okX sc__law_runs (fun vs H Q E h => ?_) (fun cdv A outer s0 H vs Q E hr h => ?_)
  · obtain ⟨a, k, ls, rfl, _⟩ := h
    rfl
  · obtain ⟨a, k, ls, rfl, hS, hk1, hk2, hlen, fin⟩ := h
    refine ⟨_, (pss_cons (ps_set (i := 2) sc__law_runs.nd rfl (.inl rfl) (pe_slice sl_list (pv 0) po_none (po_some (pv 1))))
    (pss_cons (ps_set (i := 3) sc__law_runs.nd rfl (.inl rfl) (pe_slice sl_list (pv 0) (po_some (pv 1)) po_none))
    (pss_cons (ps_set (i := 4) sc__law_runs.nd rfl (.inr rfl) (pe_lst pa_nil))
    (pss_cons (ps_while (passes_of rfl) (pt_cmpR (op_neP hr.units) (pv 2) (pe_lst pa_nil) (nomark _))
      (pss_cons (ps_setLc (i := 5) (own := [("_law_one", 7)]) (g := gName 7) rfl sc__law_runs.nd rfl rfl (sw_true rfl rfl rfl (by decide +kernel)) (pi_listC (K := K) rfl (pv 2)) (blkOk_by (N := N__law_runs) (sc := defScope s__law_runs) (by decide +kernel)) (fun _ _ _ _ _ => (pg_name (i := 7) sc__law_runs.nd rfl (.inl rfl))) (fun _ _ _ _ _ => (pts_one (PW.pt (pw_and (pt_cmpR (op_nePC (K := K) rfl hr.units) (pv 4) (pe_lst pa_nil) (nomark _)) (pw_and1 (pt_cmpR op_geS (pv 7) (pe_ix (ix_listC (K := K) rfl) (pe_ix (ix_listC (K := K) rfl) (pv 4) (pe_un un_neg pe_int) (fun _ _ => rfl)) (pe_un un_neg pe_int) (fun _ _ => rfl)) (nomark _))))))) (fun _ _ _ _ _ => (pv 7)))
      (pss_cons (ps_if (pt_cmpR (op_eqP hr.units) (pv 5) (pe_lst pa_nil) (nomark _))
        (pss_cons (ps_expr (pe_bm PySem.F.plainAttrs_list PySem.F.slot_list_append PySem.F.type_list_append mt_append (pv 4) (pa_cons (pe_lst pa_nil) pa_nil)))
        (pss_one (ps_set (i := 5) sc__law_runs.nd rfl (.inl rfl) (pe_callTy call_list_of (by rfl) T.z_list (by decide +kernel) (pa_cons (pv 2) pa_nil)))))
        pss_nil)
      (PSs.mid (t' := MidQ H) (pss_cons (ps_set (i := 6) sc__law_runs.nd rfl (.inl rfl) (pe_ix ix_list (pe_callB cr_sortedS (by rfl) T.z_sorted (by decide +kernel) (pa_cons (pv 5) pa_nil)) pe_int (fun _ _ => rfl)))
      (pss_cons (ps_expr (pe_bm PySem.F.plainAttrs_list PySem.F.slot_list_append PySem.F.type_list_append mt_append (pe_ix ix_list (pv 4) (pe_un un_neg pe_int) (fun _ _ => rfl)) (pa_cons (pv 6) pa_nil)))
      (pss_cons (ps_expr (pe_bm PySem.F.plainAttrs_list PySem.F.slot_list_remove PySem.F.type_list_remove mt_removeS (pv 2) (pa_cons (pv 6) pa_nil)))
      (pss_one (ps_if (pt_cmpR (op_neP hr.units) (pv 3) (pe_lst pa_nil) (nomark _))
        (pss_cons (ps_expr (pe_bm PySem.F.plainAttrs_list PySem.F.slot_list_append PySem.F.type_list_append mt_append (pv 2) (pa_cons (pe_ix ix_list (pv 3) pe_int (fun _ _ => rfl)) pa_nil)))
        (pss_one (ps_set (i := 3) sc__law_runs.nd rfl (.inl rfl) (pe_slice sl_list (pv 3) (po_some pe_int) po_none))))
        pss_nil))))) ?m1))))
    (pss_one (ps_ret (pv 4))))))), ?_⟩
    case m1 =>
      rintro D σ H1 ⟨i, r, f, b, a, as, ins, rst, l, ab, rs, rs0, o0, o1, o6, rfl, sm, hi, hrr, hf, hro, ha, hnd, hfr, hne, hb, hab, hle, hput, hins, hl, hil, habl, kD⟩
      have nd1 : i ∉ r :: f :: (as ++ [a]) := (List.nodup_cons.mp hnd).1
      have nd2 : r ∉ f :: (as ++ [a]) := (List.nodup_cons.mp (List.nodup_cons.mp hnd).2).1
      have nd3 : f ∉ as ++ [a] := (List.nodup_cons.mp (List.nodup_cons.mp (List.nodup_cons.mp hnd).2).2).1
      have nd4 : (as ++ [a]).Nodup := (List.nodup_cons.mp (List.nodup_cons.mp (List.nodup_cons.mp hnd).2).2).2
      have nda : a ∉ as := by
        have := List.nodup_append.mp nd4
        exact fun h => this.2.2 a h a List.mem_cons_self rfl
      have ai : i ≠ a := fun e => nd1 (by rw [e]; exact List.mem_cons_of_mem _ (List.mem_cons_of_mem _ (List.mem_append_right _ List.mem_cons_self)))
      have ar : r ≠ a := fun e => nd2 (by rw [e]; exact List.mem_cons_of_mem _ (List.mem_append_right _ List.mem_cons_self))
      have af : f ≠ a := fun e => nd3 (by rw [e]; exact List.mem_append_right _ List.mem_cons_self)
      have ri : r ≠ i := fun e => nd1 (by rw [← e]; exact List.mem_cons_self)
      have fi : f ≠ i := fun e => nd1 (by rw [← e]; exact List.mem_cons_of_mem _ List.mem_cons_self)
      have fr' : f ≠ r := fun e => nd2 (by rw [← e]; exact List.mem_cons_self)
      have ias : i ∉ as := fun h => nd1 (List.mem_cons_of_mem _ (List.mem_cons_of_mem _ (List.mem_append_left _ h)))
      have ras : r ∉ as := fun h => nd2 (List.mem_cons_of_mem _ (List.mem_append_left _ h))
      have f0 : ∀ x, x = i ∨ x = r ∨ x = a → H x = none := fun x hx => hfr x (by
        rcases hx with rfl | rfl | rfl
        · exact List.mem_cons_self
        · exact List.mem_cons_of_mem _ List.mem_cons_self
        · exact List.mem_cons_of_mem _ (List.mem_cons_of_mem _ (List.mem_cons_of_mem _ (List.mem_append_right _ List.mem_cons_self))))
      have keep : ∀ {H2 : Hp} {x : Addr} {o : HO}, Same H H2 → H x = none → Same H (upd H2 x o) := fun {H2 x o} s n y q hy => by
        rw [upd_ne (ne_of_none hy n)]; exact s y q hy
      refine ⟨_, rfl, ?_⟩
      dsimp only [tNil]
      refine sort_txs (SqL.of hb) habl fun ps nps => ?_
      have sS := same_new (o := .lst (txs (srt ab))) nps
      have sm := sm.trans sS
      have hi := sS _ _ hi
      have hrr := sS _ _ hrr
      have hf := sS _ _ hf
      have hro := hro.same sS
      have ha := sS _ _ ha
      refine ⟨ps, _, _, .str (S (least ab)), rfl, rfl, SqL.of upd_same, (show atI (txs (srt ab)) ((0 : Nat) : Int) = some _ from atI_nat (by
        show ((srt ab).map fun l => V.str (S l))[0]? = _
        rw [List.getElem?_map, srt_head hab]; rfl)), ?_⟩
      rw [hle]
      generalize upd H1 ps (.lst (txs (srt ab))) = H1 at *
      have hbm := bestL_mem hins rs
      generalize hw : bestL ins rs = wd at *
      refine ⟨_, rfl, _, rfl, f, _, _, .ref a, rfl, rfl, SqL.of hf, (by rw [List.map_append]; exact atI_last _ _), .inl ⟨rfl, _, SqL.of ha⟩, _, rfl, a, _, _, rfl, rfl, ha, szl (by rw [strs_len]; omega), ?_⟩
      have ea : txs l ++ [V.str (S wd)] = txs (l ++ [wd]) := by rw [strs_app]; rfl
      rw [ea]
      have hi2 : upd H1 a (.lst (txs (l ++ [wd]))) i = some (.lst (txs ins)) := by rw [upd_ne ai]; exact hi
      refine ⟨_, rfl, .inl ⟨rfl, _, SqL.of hi2⟩, _, rfl, i, ins, wd, rfl, rfl, hi2, hbm, ?_⟩
      have s3 : Same H (upd (upd H1 a (.lst (txs (l ++ [wd])))) i (.lst (txs (ins.erase wd)))) := keep (keep sm (f0 a (.inr (.inr rfl)))) (f0 i (.inl rfl))
      have hr3 : upd (upd H1 a (.lst (txs (l ++ [wd])))) i (.lst (txs (ins.erase wd))) r = some (.lst (txs rst)) := by rw [upd_ne ri, upd_ne ar]; exact hrr
      have hf3 : upd (upd H1 a (.lst (txs (l ++ [wd])))) i (.lst (txs (ins.erase wd))) f = some (.lst ((as ++ [a]).map V.ref)) := by rw [upd_ne fi, upd_ne af]; exact hf
      have ro3 : Rows (upd (upd H1 a (.lst (txs (l ++ [wd])))) i (.lst (txs (ins.erase wd)))) (as ++ [a]) (rs0 ++ [l ++ [wd]]) := Rows.snoc ((hro.upd nda).upd ias) (by rw [upd_ne ai.symm]; exact upd_same)
      have ne3 : ∀ x ∈ rs0 ++ [l ++ [wd]], x ≠ [] := fun x hx => by
        rcases List.mem_append.mp hx with hx | hx
        · exact hne x hx
        · rw [List.mem_singleton.mp hx]; simp
      have hi3 : upd (upd H1 a (.lst (txs (l ++ [wd])))) i (.lst (txs (ins.erase wd))) i = some (.lst (txs (ins.erase wd))) := upd_same
      generalize upd (upd H1 a (.lst (txs (l ++ [wd])))) i (.lst (txs (ins.erase wd))) = H3 at *
      refine ⟨_, rfl, sz (by decide), fun e ne => ?_⟩
      have se := same_new (o := .lst []) ne
      refine ne_strs (ms := []) (SqL.of (se _ _ hr3)) (SqL.of upd_same) ⟨_, rfl, iteN (fun hn => ?_) (fun hn => ?_)⟩
      · cases rst with
        | nil => exact absurd rfl hn
        | cons y ys =>
          refine ⟨_, rfl, .inl ⟨rfl, _, SqL.of (se _ _ hi3)⟩, _, rfl, r, _, _, .str (S y), rfl, rfl, SqL.of (se _ _ hr3), (show atI (txs (y :: ys)) ((0 : Nat) : Int) = some _ from atI_nat rfl), i, txs (ins.erase wd), _, rfl, rfl, se _ _ hi3, ?_, ?_⟩
          · have := List.length_erase_le (a := wd) (l := ins)
            exact szl (by rw [strs_len]; omega)
          · have e1 : txs (ins.erase wd) ++ [V.str (S y)] = txs (insL ins (y :: ys) rs) := by
              rw [show insL ins (y :: ys) rs = ins.erase wd ++ [y] by rw [← hw]; rfl, strs_app]; rfl
            rw [e1]
            have s4 : Same H (upd (upd H3 e (.lst [])) i (.lst (txs (insL ins (y :: ys) rs)))) := keep (s3.trans se) (f0 i (.inl rfl))
            have hr4 : upd (upd H3 e (.lst [])) i (.lst (txs (insL ins (y :: ys) rs))) r = some (.lst (txs (y :: ys))) := by rw [upd_ne ri]; exact se _ _ hr3
            have hf4 : upd (upd H3 e (.lst [])) i (.lst (txs (insL ins (y :: ys) rs))) f = some (.lst ((as ++ [a]).map V.ref)) := by rw [upd_ne fi]; exact se _ _ hf3
            have hi4 : upd (upd H3 e (.lst [])) i (.lst (txs (insL ins (y :: ys) rs))) i = some (.lst (txs (insL ins (y :: ys) rs))) := upd_same
            have ro4 : Rows (upd (upd H3 e (.lst [])) i (.lst (txs (insL ins (y :: ys) rs)))) (as ++ [a]) (rs0 ++ [l ++ [wd]]) := (ro3.same se).upd (fun h => by
                rcases List.mem_append.mp h with h | h
                · exact ias h
                · exact ai (List.mem_singleton.mp h))
            generalize upd (upd H3 e (.lst [])) i (.lst (txs (insL ins (y :: ys) rs))) = H4 at *
            refine ⟨_, rfl, _, rfl, r, _, rfl, SqL.of hr4, fun r2 nr2 => ?_⟩
            rw [show cutV (txs (y :: ys)) (some 1) none = txs ys from cut_txs_from (y :: ys) 1]
            have s5 := same_new (o := .lst (txs ys)) nr2
            have hr20 : H r2 = none := s4.free nr2
            refine kD _ _ (as ++ [a]) r2 ⟨s4.trans s5, s5 _ _ hi4, upd_same, s5 _ _ hf4, by rw [hput]; exact ro4.same s5, ?_, ?_, by rw [hput]; exact ne3⟩
            · have r2i : r2 ≠ i := (ne_of_none hi4 nr2).symm
              have r2f : r2 ≠ f := (ne_of_none hf4 nr2).symm
              have r2a : r2 ∉ as ++ [a] := fun h => by
                obtain ⟨j, hj⟩ := List.getElem?_of_mem h
                obtain ⟨l, _, hl⟩ := Rows.get ro4 hj
                rw [nr2] at hl
                cases hl
              refine List.nodup_cons.mpr ⟨fun h => ?_, List.nodup_cons.mpr ⟨fun h => ?_, (List.nodup_cons.mp (List.nodup_cons.mp hnd).2).2⟩⟩
              · rcases List.mem_cons.mp h with h | h
                · exact r2i h.symm
                · exact nd1 (List.mem_cons_of_mem _ h)
              · rcases List.mem_cons.mp h with h | h
                · exact r2f h
                · exact r2a h
            · intro x hx
              rcases List.mem_cons.mp hx with rfl | hx
              · exact hfr _ List.mem_cons_self
              rcases List.mem_cons.mp hx with rfl | hx
              · exact hr20
              · exact hfr _ (List.mem_cons_of_mem _ (List.mem_cons_of_mem _ hx))
      · subst hn
        have e1 : ins.erase wd = insL ins [] rs := by rw [← hw]; rfl
        rw [e1] at hi3
        exact kD _ _ (as ++ [a]) r ⟨s3.trans se, se _ _ hi3, se _ _ hr3, se _ _ hf3, by rw [hput]; exact ro3.same se, hnd, hfr, by rw [hput]; exact ne3⟩
    refine ⟨_, rfl, _, rfl, _, rfl, a, _, rfl, hS, fun i ni => ?_⟩
    rw [cut_txs_to]
    have s2 := same_new (o := .lst (txs (ls.take k))) ni
    have hi0 := ni
    obtain ⟨H2, e2⟩ : ∃ G, G = upd H i (.lst (txs (ls.take k))) := ⟨_, rfl⟩
    rw [← e2] at s2 ⊢
    have gi2 : H2 i = some (.lst (txs (ls.take k))) := by rw [e2]; exact upd_same
    refine ⟨_, rfl, _, rfl, _, rfl, a, _, rfl, sql_same hS s2, fun r nr => ?_⟩
    rw [cut_txs_from]
    have s23 := same_new (o := .lst (txs (ls.drop k))) nr
    have s3 := s2.trans s23
    have hr0 := s2.free nr
    have hri : r ≠ i := (ne_of_none gi2 nr).symm
    obtain ⟨H3, e3⟩ : ∃ G, G = upd H2 r (.lst (txs (ls.drop k))) := ⟨_, rfl⟩
    rw [← e3] at s3 s23 ⊢
    have gr3 : H3 r = some (.lst (txs (ls.drop k))) := by rw [e3]; exact upd_same
    have gi3 := s23 _ _ gi2
    refine ⟨sz (by decide), fun f nf => ?_⟩
    have sf := same_new (o := .lst []) nf
    have hfi : f ≠ i := (ne_of_none gi3 nf).symm
    have hfr : f ≠ r := (ne_of_none gr3 nf).symm
    generalize hFin : runsF ls.length (ls.take k) (ls.drop k) [] = Fin at fin
    refine ⟨fun m σ H' => ∃ (ins rst : List (List Nat)) (rs : List (List (List Nat))) (as : List Addr) (o5 o6 : Option V) (r : Addr), σ = [some (.ref a), some (.int (k : Nat)), some (.ref i), some (.ref r), some (.ref f), o5, o6, none] ∧ RunI H H' i r f as ins rst rs ∧ m = ins.length + rst.length ∧ runsF m ins rst rs = Fin ∧ m + (rs.map List.length).sum = ls.length,
      ⟨ls.length, ls.take k, ls.drop k, [], [], none, none, r, rfl, ⟨s3.trans sf, sf _ _ gi3, sf _ _ gr3, upd_same, trivial, ?_, ?_, fun l h => by cases h⟩, ?_, hFin, by simp⟩, fun m σ H' w0 => ?_⟩
    · refine List.nodup_cons.mpr ⟨fun h => ?_, List.nodup_cons.mpr ⟨fun h => hfr (List.mem_singleton.mp h).symm, List.nodup_cons.mpr ⟨List.not_mem_nil, List.nodup_nil⟩⟩⟩
      rcases List.mem_cons.mp h with h | h
      · exact hri h.symm
      · exact hfi (List.mem_singleton.mp h).symm
    · intro x hx
      rcases List.mem_cons.mp hx with rfl | hx
      · exact hi0
      rcases List.mem_cons.mp hx with rfl | hx
      · exact hr0
      rw [List.mem_singleton.mp hx]
      exact s3.free nf
    · rw [← List.length_append, List.take_append_drop]
    clear hri hr0 hfr gr3 e3 s23 s3 gi3
    obtain ⟨ins, rst, rs, as, o5, o6, r, rfl, I, em, hrun, htot⟩ := w0
    refine ⟨_, rfl, sz (by decide), fun e ne => ne_strs (ms := []) (SqL.of (same_new ne _ _ I.hi)) (SqL.of upd_same) ⟨_, rfl, iteN (fun hne => ?_) (fun heq => ?_)⟩⟩
    · have I1 := I.same (same_new (o := .lst []) ne)
      have hsum : (rs.map List.length).sum ≤ 100000 := by omega
      have hil : ins.length < 60 := by omega
      have hrl : rs.length ≤ 100000 := Nat.le_trans (sum_len I1.ne) hsum
      refine ⟨fun σ' H2 => ∃ m', m' < m ∧ ∃ (ins rst : List (List Nat)) (rs : List (List (List Nat))) (as : List Addr) (o5 o6 : Option V) (r : Addr), σ' = [some (.ref a), some (.int (k : Nat)), some (.ref i), some (.ref r), some (.ref f), o5, o6, none] ∧ RunI H H2 i r f as ins rst rs ∧ m' = ins.length + rst.length ∧ runsF m' ins rst rs = Fin ∧ m' + (rs.map List.length).sum = ls.length, fun σ' H2 h => h, ?_⟩
      refine ⟨_, rfl, i, rfl, ⟨_, SqL.of I1.hi⟩, fun D nD => lc_filter (ls := ins) (i := 7) (fun o => !decide (rs = []) && !decide (o < lastL rs)) (SqL.of I1.hi) (by omega) nD (fun _ => rfl) (fun _ => rfl) (fun l H5 hl5 s5 Q2 q2 => ?_) (fun H5 s5 hD => ?_)⟩
      · have I5 := I1.same s5
        refine ⟨_, rfl, sz (by decide), fun p5 np5 => ne_rows (bs := []) (ms := []) (SqL.of (same_new np5 _ _ I5.hf)) (I5.ro.same (same_new np5)) (SqL.of upd_same) trivial ⟨_, rfl, iteN (fun hrs => ?_) (fun hrs => ?_)⟩⟩
        · have I6 := I5.same (same_new (o := .lst []) np5)
          obtain ⟨rs0, l0, wd, erw, hlast⟩ := rows_last hrs I6.ne
          obtain ⟨as0, b, rfl, ro0, hb⟩ := Rows.unsnoc (by rw [← erw]; exact I6.ro)
          refine ⟨_, rfl, _, rfl, _, rfl, f, _, _, .ref b, rfl, rfl, SqL.of I6.hf, (by rw [List.map_append]; exact atI_last _ _), _, rfl, b, _, _, .str (S wd), rfl, rfl, SqL.of hb, (by rw [strs_app]; exact atI_last _ _), l, wd, rfl, rfl, _, rfl, ?_⟩
          have := q2 _ (same_new (o := .lst []) np5)
          rw [decide_eq_false hrs, hlast] at this
          exact this
        · have := q2 _ (same_new (o := .lst []) np5)
          rw [decide_eq_true hrs] at this
          exact this
      · have I5 := I1.same s5
        have hD' : H5 D = some (.lst (txs (ableL ins rs))) := hD
        have nxt : ∀ (σ' : L2.St) (H6 : Hp) (b6 : V) (as2 : List Addr) (r : Addr) (b : Addr), σ' = [some (.ref a), some (.int (k : Nat)), some (.ref i), some (.ref r), some (.ref f), some (.ref b), some b6, none] → RunI H H6 i r f as2 (insL ins rst rs) rst.tail (putL ins rs) → ∃ m', m' < m ∧ ∃ (ins rst : List (List Nat)) (rs : List (List (List Nat))) (as : List Addr) (o5 o6 : Option V) (r : Addr), σ' = [some (.ref a), some (.int (k : Nat)), some (.ref i), some (.ref r), some (.ref f), o5, o6, none] ∧ RunI H H6 i r f as ins rst rs ∧ m' = ins.length + rst.length ∧ runsF m' ins rst rs = Fin ∧ m' + (rs.map List.length).sum = ls.length := by
          intro σ' H6 b6 as2 r b eσ R6
          have h7 := insL_len hne rst rs
          refine ⟨(insL ins rst rs).length + rst.tail.length, by omega, _, _, _, as2, _, _, r, eσ, R6, rfl, ?_, ?_⟩
          · rw [← hrun, show m = (insL ins rst rs).length + rst.tail.length + 1 by omega]
            show _ = if ins = [] then rs else _
            rw [if_neg hne]
          · rw [putL_sum]; omega
        refine ⟨_, rfl, sz (by decide), fun p6 np6 => eq_strs (ms := []) (SqL.of (same_new np6 _ _ hD')) (SqL.of upd_same) ⟨_, rfl, iteD (fun eab => ?_) (fun eab => ?_)⟩⟩
        · have I6 := I5.same (same_new (o := .lst []) np6)
          refine ⟨_, rfl, .inl ⟨rfl, _, SqL.of I6.hf⟩, sz (by decide), fun q nq => ?_⟩
          have I7 := I6.same (same_new (o := .lst []) nq)
          have hq0 : H q = none := I6.s.free nq
          refine ⟨f, _, _, rfl, rfl, I7.hf, szl (by rw [List.length_map, I7.ro.len]; omega), ?_⟩
          have nd1 : i ∉ r :: f :: as := (List.nodup_cons.mp I7.nd).1
          have nd2 : r ∉ f :: as := (List.nodup_cons.mp (List.nodup_cons.mp I7.nd).2).1
          have nd3 : f ∉ as := (List.nodup_cons.mp (List.nodup_cons.mp (List.nodup_cons.mp I7.nd).2).2).1
          have fi : f ≠ i := fun e => nd1 (by rw [← e]; exact List.mem_cons_of_mem _ List.mem_cons_self)
          have fr' : f ≠ r := fun e => nd2 (by rw [← e]; exact List.mem_cons_self)
          have qi : q ≠ i := (ne_of_none I6.hi nq).symm
          have qr : q ≠ r := (ne_of_none I6.hr nq).symm
          have qf : q ≠ f := (ne_of_none I6.hf nq).symm
          have qas : q ∉ as := fun h => by
            obtain ⟨j, hj⟩ := List.getElem?_of_mem h
            obtain ⟨l, _, hl⟩ := Rows.get I6.ro hj
            rw [nq] at hl
            cases hl
          have emap : as.map V.ref ++ [.ref q] = (as ++ [q]).map V.ref := by rw [List.map_append]; rfl
          rw [emap]
          have gi8 : upd (upd (upd H5 p6 (.lst [])) q (.lst [])) f (.lst ((as ++ [q]).map V.ref)) i = some (.lst (txs ins)) := by rw [upd_ne fi.symm]; exact I7.hi
          refine ⟨_, rfl, i, _, rfl, .inl (SqL.of gi8), fun b nb => ?_⟩
          have sb := same_new (o := .lst (txs ins)) nb
          refine ⟨i, r, f, b, q, as, ins, rst, [], ins, rs, rs, _, _, _, rfl, Same.trans ?_ sb, sb _ _ gi8, sb _ _ ?_, sb _ _ upd_same, (I7.ro.upd nd3).same sb, sb _ _ ?_, ?_, ?_, I7.ne, upd_same, hne, ?_, ?_, hne, by decide, by omega, by omega, fun H8 b6 as2 r2 R8 => nxt _ _ b6 as2 r2 b rfl R8⟩
          · intro y o hy
            rw [upd_ne (ne_of_none hy (I7.fr f (List.mem_cons_of_mem _ (List.mem_cons_of_mem _ List.mem_cons_self))))]
            exact I7.s y o hy
          · rw [upd_ne fr'.symm]; exact I7.hr
          · rw [upd_ne qf]; exact upd_same
          · refine List.nodup_cons.mpr ⟨fun h => ?_, List.nodup_cons.mpr ⟨fun h => ?_, List.nodup_cons.mpr ⟨fun h => ?_, ?_⟩⟩⟩
            · rcases List.mem_cons.mp h with h | h
              · exact nd1 (by rw [h]; exact List.mem_cons_self)
              rcases List.mem_cons.mp h with h | h
              · exact fi h.symm
              rcases List.mem_append.mp h with h | h
              · exact nd1 (List.mem_cons_of_mem _ (List.mem_cons_of_mem _ h))
              · exact qi (List.mem_singleton.mp h).symm
            · rcases List.mem_cons.mp h with h | h
              · exact fr' h.symm
              rcases List.mem_append.mp h with h | h
              · exact nd2 (List.mem_cons_of_mem _ h)
              · exact qr (List.mem_singleton.mp h).symm
            · rcases List.mem_append.mp h with h | h
              · exact nd3 h
              · exact qf (List.mem_singleton.mp h).symm
            · have h4 := (List.nodup_cons.mp (List.nodup_cons.mp (List.nodup_cons.mp I7.nd).2).2).2
              refine List.nodup_append.mpr ⟨h4, List.nodup_cons.mpr ⟨List.not_mem_nil, List.nodup_nil⟩, fun x hx y hy e => ?_⟩
              rw [List.mem_singleton.mp hy] at e
              exact qas (e ▸ hx)
          · intro x hx
            rcases List.mem_cons.mp hx with rfl | hx
            · exact I7.fr _ List.mem_cons_self
            rcases List.mem_cons.mp hx with rfl | hx
            · exact I7.fr _ (List.mem_cons_of_mem _ List.mem_cons_self)
            rcases List.mem_cons.mp hx with rfl | hx
            · exact I7.fr _ (List.mem_cons_of_mem _ (List.mem_cons_of_mem _ List.mem_cons_self))
            rcases List.mem_append.mp hx with hx | hx
            · exact I7.fr _ (List.mem_cons_of_mem _ (List.mem_cons_of_mem _ (List.mem_cons_of_mem _ hx)))
            · rw [List.mem_singleton.mp hx]; exact hq0
          · unfold bestL; rw [if_pos eab]
          · show putL ins rs = rs ++ [[] ++ [bestL ins rs]]
            unfold putL; rw [if_pos eab]; rfl
        · have I6 := I5.same (same_new (o := .lst []) np6)
          have hrs : rs ≠ [] := fun h => eab (by rw [h]; exact ableL_nil ins)
          rcases snoc_cases rs with rfl | ⟨rs0, l, rfl⟩
          · exact absurd rfl hrs
          obtain ⟨as0, b, rfl, ro0, hb⟩ := Rows.unsnoc I6.ro
          have hll := len_sum (rs := rs0 ++ [l]) (List.mem_append_right _ List.mem_cons_self)
          refine ⟨i, r, f, D, b, as0, ins, rst, l, ableL ins (rs0 ++ [l]), rs0 ++ [l], rs0, _, _, _, rfl, I6.s, I6.hi, I6.hr, I6.hf, ro0, hb, I6.nd, I6.fr, fun x hx => I6.ne x (List.mem_append_left _ hx), same_new np6 _ _ hD', eab, ?_, ?_, hne, by omega, by omega, ?_, fun H8 b6 as2 r2 R8 => nxt _ _ b6 as2 r2 D rfl R8⟩
          · unfold bestL; rw [if_neg eab]
          · unfold putL; rw [if_neg eab, List.dropLast_concat, List.getLast?_concat]; rfl
          · exact Nat.lt_of_le_of_lt (List.length_filter_le _ _) (by omega)
    · subst heq
      rw [runsF_nil] at hrun
      subst hrun
      have I1 := I.same (same_new (o := .lst []) ne)
      have h3 := (List.nodup_cons.mp (List.nodup_cons.mp I1.nd).2).2
      exact ⟨_, rfl, fin f as _ I1.s I1.hf I1.ro h3 fun x hx => I1.fr x (List.mem_cons_of_mem _ (List.mem_cons_of_mem _ hx))⟩
end
end R
set_option maxRecDepth 100000
set_option maxHeartbeats 16000000
set_option pp.maxSteps 1500
set_option pp.deepTerms false
namespace R
open PySem PySem.Spec PyProof.Rows L2 RZ
open PySem.W (Datum)
/-! ### rows are as long as the room -/
theorem able_count {ins e : List (List Nat)} {b : List Nat} {q : List Nat → Bool} (hb : b ∈ ins) (hq : ∀ o ∈ ins, q o = true → b ≤ o) : (ins.filter q).length ≤ ((ins.erase b ++ e).filter fun o => !decide (o < b)).length + 1 := by
  have h1 : (ins.filter q).length ≤ (ins.filter fun o => !decide (o < b)).length := by
    rw [← List.countP_eq_length_filter, ← List.countP_eq_length_filter]
    refine List.countP_mono_left fun o ho hqo => ?_
    rw [Bool.not_eq_true', decide_eq_false_iff_not]
    exact hq o ho hqo
  have h2 := ((List.perm_cons_erase hb).filter fun o => !decide (o < b)).length_eq
  rw [List.filter_cons_of_pos (by rw [Bool.not_eq_true', decide_eq_false_iff_not]; exact List.lt_irrefl b), List.length_cons] at h2
  rw [List.filter_append, List.length_append]
  omega
theorem lastL_snoc (rs0 : List (List (List Nat))) (l0 : List (List Nat)) (b : List Nat) : lastL (rs0 ++ [l0 ++ [b]]) = b := by
  unfold lastL
  rw [List.getLast?_concat, Option.getD_some, List.getLast?_concat]
  rfl
theorem ableL_last (ins : List (List Nat)) (rs0 : List (List (List Nat))) (l0 : List (List Nat)) (b : List Nat) : ableL ins (rs0 ++ [l0 ++ [b]]) = ins.filter fun o => !decide (o < b) := by
  unfold ableL
  rw [lastL_snoc]
  refine List.filter_congr fun o _ => ?_
  rw [decide_eq_false (by simp : ¬ rs0 ++ [l0 ++ [b]] = []), Bool.not_false, Bool.true_and]
theorem all_able {ins : List (List Nat)} {rs0 : List (List (List Nat))} {l0 : List (List Nat)} {b : List Nat} (h : ∀ o ∈ ins, b ≤ o) : ableL ins (rs0 ++ [l0 ++ [b]]) = ins := by
  rw [ableL_last]
  refine List.filter_eq_self.mpr fun o ho => ?_
  rw [Bool.not_eq_true', decide_eq_false_iff_not]
  exact h o ho
theorem insL_of (ins rst : List (List Nat)) (rs : List (List (List Nat))) : insL ins rst rs = ins.erase (bestL ins rs) ++ rst.take 1 := by
  unfold insL
  cases rst with
  | nil => simp
  | cons x r => rfl
theorem runsF_long (k : Nat) : ∀ (m : Nat) (ins rst : List (List Nat)) (rs : List (List (List Nat))), m = ins.length + rst.length → (rst ≠ [] → ins.length = k) → (∀ l ∈ rs, l ≠ []) → (∀ l ∈ rs.dropLast, k ≤ l.length) →
    (rs = [] ∨ k ≤ (ableL ins rs).length + (rs.getLast?.getD []).length ∨ (rst = [] ∧ ableL ins rs = ins)) → ∀ l ∈ (runsF m ins rst rs).dropLast, k ≤ l.length
  | 0, _, _, rs, _, _, _, hd, _ => hd
  | m + 1, ins, rst, rs, hm, hk, hne, hd, hJ => by
    by_cases hi : ins = []
    · rw [show runsF (m + 1) ins rst rs = rs from if_pos hi]; exact hd
    rw [show runsF (m + 1) ins rst rs = runsF m (insL ins rst rs) rst.tail (putL ins rs) from if_neg hi]
    have hlen := insL_len hi rst rs
    have hbm := bestL_mem hi rs
    have hk2 : rst.tail ≠ [] → (insL ins rst rs).length = k := fun h => by
      cases rst with
      | nil => exact absurd rfl h
      | cons x r =>
        have := hk (by simp)
        rw [insL_of, List.length_append, List.length_erase_of_mem hbm]
        have := List.length_pos_iff.mpr hi
        show ins.length - 1 + 1 = k
        omega
    by_cases e : ableL ins rs = []
    · have hb : bestL ins rs = least ins := by unfold bestL; rw [if_pos e]
      have hp : putL ins rs = rs ++ [[] ++ [bestL ins rs]] := by unfold putL; rw [if_pos e]; rfl
      have hle : ∀ o ∈ ins, bestL ins rs ≤ o := fun o ho => by rw [hb]; exact least_le o ho
      refine runsF_long k m _ _ _ (by omega) hk2 ?_ ?_ ?_
      · rw [hp]
        intro l hl
        rcases List.mem_append.mp hl with hl | hl
        · exact hne l hl
        · rw [List.mem_singleton.mp hl]; simp
      · rw [hp, List.dropLast_concat]
        rcases snoc_cases rs with rfl | ⟨rs0, l0, rfl⟩
        · intro l h; cases h
        · rw [List.dropLast_concat] at hd
          intro l hl
          rcases List.mem_append.mp hl with hl | hl
          · exact hd l hl
          · rw [List.mem_singleton.mp hl]
            rcases hJ with h | h | h
            · simp at h
            · rw [e, List.getLast?_concat] at h
              have h : k ≤ 0 + l0.length := h
              omega
            · rw [e] at h; exact absurd h.2.symm hi
      · right
        rw [hp, List.getLast?_concat, Option.getD_some]
        cases rst with
        | nil =>
          refine .inr ⟨rfl, all_able fun o ho => ?_⟩
          rw [insL_of] at ho
          rcases List.mem_append.mp ho with ho | ho
          · exact hle o (List.mem_of_mem_erase ho)
          · cases ho
        | cons x r =>
          refine .inl ?_
          have hk3 := hk (by simp)
          have h5 := able_count (e := [x]) (q := fun _ => true) hbm (fun o ho _ => hle o ho)
          rw [ableL_last, insL_of]
          rw [List.filter_eq_self.mpr (fun _ _ => rfl)] at h5
          show k ≤ _ + 1
          have h6 : (x :: r).take 1 = [x] := rfl
          rw [h6]
          omega
    · have hrs : rs ≠ [] := fun h => e (by rw [h]; exact ableL_nil ins)
      rcases snoc_cases rs with rfl | ⟨rs0, l0, rfl⟩
      · exact absurd rfl hrs
      have hb : bestL ins (rs0 ++ [l0]) = least (ableL ins (rs0 ++ [l0])) := by unfold bestL; rw [if_neg e]
      have hp : putL ins (rs0 ++ [l0]) = rs0 ++ [l0 ++ [bestL ins (rs0 ++ [l0])]] := by unfold putL; rw [if_neg e, List.dropLast_concat, List.getLast?_concat]; rfl
      rw [List.dropLast_concat] at hd
      refine runsF_long k m _ _ _ (by omega) hk2 ?_ ?_ ?_
      · rw [hp]
        intro l hl
        rcases List.mem_append.mp hl with hl | hl
        · exact hne l (List.mem_append_left _ hl)
        · rw [List.mem_singleton.mp hl]; simp
      · rw [hp, List.dropLast_concat]; exact hd
      · right
        rw [hp, List.getLast?_concat, Option.getD_some]
        rcases hJ with h | h | h
        · simp at h
        · refine .inl ?_
          rw [List.getLast?_concat, Option.getD_some] at h
          rw [ableL_last, insL_of, List.length_append]
          have h5 := able_count (ins := ins) (e := rst.take 1) (b := bestL ins (rs0 ++ [l0])) (q := fun o => !decide (rs0 ++ [l0] = []) && !decide (o < lastL (rs0 ++ [l0]))) hbm (fun o ho hq => by
            rw [hb]
            exact least_le o (List.mem_filter.mpr ⟨ho, hq⟩))
          have h6 : (ins.filter fun o => !decide (rs0 ++ [l0] = []) && !decide (o < lastL (rs0 ++ [l0]))) = ableL ins (rs0 ++ [l0]) := rfl
          rw [h6] at h5
          show k ≤ _ + (l0.length + 1)
          omega
        · obtain ⟨rfl, h2⟩ := h
          refine .inr ⟨rfl, all_able fun o ho => ?_⟩
          rw [insL_of] at ho
          rcases List.mem_append.mp ho with ho | ho
          · rw [hb]
            exact least_le o (by rw [h2]; exact List.mem_of_mem_erase ho)
          · cases ho
theorem runs_long (ls : List (List Nat)) (k : Nat) : ∀ l ∈ (runsF ls.length (ls.take k) (ls.drop k) []).dropLast, k ≤ l.length :=
  runsF_long k _ _ _ _ (by rw [← List.length_append, List.take_append_drop]) (fun h => by
    rw [List.length_take]
    have : 0 < (ls.drop k).length := List.length_pos_iff.mpr h
    rw [List.length_drop] at this
    omega) (fun l h => by cases h) (fun l h => by cases h) (.inl rfl)
theorem runsF_one : ∀ (m : Nat) (ins rst : List (List Nat)) (rs : List (List (List Nat))), (∀ x ∈ ins, ∀ y ∈ rst, x ≤ y) → Up rst → rs.length ≤ 1 → (∀ l ∈ rs, l ≠ []) → (∀ x ∈ ins, rs ≠ [] → lastL rs ≤ x) → (runsF m ins rst rs).length ≤ 1
  | 0, _, _, rs, _, _, h, _, _ => h
  | m + 1, ins, rst, rs, hx, hu, h1, hne, hla => by
    by_cases hi : ins = []
    · rw [show runsF (m + 1) ins rst rs = rs from if_pos hi]; exact h1
    rw [show runsF (m + 1) ins rst rs = runsF m (insL ins rst rs) rst.tail (putL ins rs) from if_neg hi]
    have hbm := bestL_mem hi rs
    obtain ⟨l0, hp, hle⟩ : ∃ l0, putL ins rs = [] ++ [l0 ++ [bestL ins rs]] ∧ ∀ o ∈ ins, bestL ins rs ≤ o := by
      by_cases e : rs = []
      · subst e
        refine ⟨[], ?_, fun o ho => ?_⟩
        · unfold putL; rw [if_pos (ableL_nil ins)]; rfl
        · unfold bestL; rw [if_pos (ableL_nil ins)]; exact least_le o ho
      · have ha : ableL ins rs = ins := List.filter_eq_self.mpr fun o ho => by
          rw [decide_eq_false e, Bool.not_false, Bool.true_and, Bool.not_eq_true', decide_eq_false_iff_not]
          exact hla o ho e
        have hna : ¬ ableL ins rs = [] := by rw [ha]; exact hi
        match rs, e, h1 with
        | [l], _, _ =>
          refine ⟨l, ?_, fun o ho => ?_⟩
          · unfold putL; rw [if_neg hna]; rfl
          · unfold bestL; rw [if_neg hna, ha]; exact least_le o ho
    refine runsF_one m _ _ _ (fun x hx2 y hy => ?_) ?_ (by rw [hp]; exact Nat.le_refl _) (fun l hl => ?_) (fun x hx2 _ => ?_)
    · have hy2 : y ∈ rst := List.mem_of_mem_tail hy
      rw [insL_of] at hx2
      rcases List.mem_append.mp hx2 with h | h
      · exact hx x (List.mem_of_mem_erase h) y hy2
      · cases rst with
        | nil => cases h
        | cons z r =>
          have h : x ∈ [z] := h
          rw [List.mem_singleton.mp h]
          exact (List.pairwise_cons.mp hu).1 y hy
    · cases rst with
      | nil => exact hu
      | cons z r => exact (List.pairwise_cons.mp hu).2
    · rw [hp] at hl
      have hl : l ∈ [l0 ++ [bestL ins rs]] := hl
      rw [List.mem_singleton.mp hl]; simp
    · rw [hp, lastL_snoc]
      rw [insL_of] at hx2
      rcases List.mem_append.mp hx2 with h | h
      · exact hle x (List.mem_of_mem_erase h)
      · exact hx _ hbm x (List.mem_of_mem_take h)
theorem one_run {ls : List (List Nat)} (hu : Up ls) {k : Nat} (hk : 1 ≤ k) : (runsF ls.length (ls.take k) (ls.drop k) []).length = min 1 ls.length := by
  have h0 : Up (ls.take k ++ ls.drop k) := by rw [List.take_append_drop]; exact hu
  have h := List.pairwise_append.mp h0
  have h1 := runsF_one ls.length (ls.take k) (ls.drop k) [] (fun x hx y hy => h.2.2 x hx y hy) h.2.1 (Nat.zero_le _) (fun l h => by cases h) (fun x _ h => absurd rfl h)
  obtain ⟨r1, r2, r3⟩ := runs_ok ls hk
  have h3 := r3.length_eq
  have h4 := sum_len r2
  rw [flat_len] at h4
  cases ls with
  | nil => rfl
  | cons x r =>
    have : 0 < (runsF (x :: r).length ((x :: r).take k) ((x :: r).drop k) []).length := by
      rcases Nat.eq_zero_or_pos (runsF (x :: r).length ((x :: r).take k) ((x :: r).drop k) []).length with h | h
      · rw [List.length_eq_zero_iff.mp h] at h3
        cases h3
      · exact h
    rw [List.length_cons] at *
    omega
theorem strs_of {p : List Nat → Prop} : ∀ {xs : List V}, (∀ (i : Nat) x, xs[i]? = some x → ∃ l, x = V.str (S l) ∧ p l) → ∃ ls : List (List Nat), xs = txs ls ∧ ls.length = xs.length ∧ ∀ l ∈ ls, p l
  | [], _ => ⟨[], rfl, rfl, fun c h => by cases h⟩
  | x :: xs, h => by
    obtain ⟨c, rfl, hc⟩ := h 0 x rfl
    obtain ⟨l, e, hl, hp⟩ := strs_of (xs := xs) fun i x hx => h (i + 1) x hx
    refine ⟨c :: l, by rw [e]; rfl, by simp [hl], fun d hd => ?_⟩
    rcases List.mem_cons.mp hd with rfl | hd
    · exact hc
    · exact hp d hd
/-- a comprehension whose test never holds -/
theorem lc_none {J : It} {n : Nat} {G : Hp → Prop} {Y : Nat → Hp → V → Hp → Prop} (w : Walk J n G Y) {tt : TT} {te : TE} {vs : List Nat} {σ : L2.St} {H1 : Hp} {D : Addr} {Qd : Hp → Prop} {i : Nat} (nD : H1 D = none) (hY : ∀ i H x H', Y i H x H' → Same H H') (hG : ∀ H, Same H1 H → G H)
    (hw : ∀ x, wipe ((wipe σ vs).set i (some x)) vs = wipe σ vs)
    (hs : ∀ j x H H', j < n → Y j H x H' → Same H1 H' → ∀ Q : Bool → Hp → Prop, (∀ H2, Same H' H2 → Q false H2) → tt ((wipe σ vs).set i (some x)) H' Q)
    (hd : ∀ H, Same H1 H → H D = some (.lst []) → Qd H) :
    ∃ W : Nat → Nat → Hp → Prop, (∃ m, W 0 m (upd H1 D (.lst []))) ∧ ∀ i' m H, W i' m H →
      (J.stop i' H ∧ Qd H) ∨ (J.go i' H ∧ ∃ Nx : Hp → Prop, (∀ H', Nx H' → ∃ m', m' < m ∧ W (i' + 1) m' H') ∧ ∀ x H', J.yld i' H x H' → (gName i) x (wipe σ vs) H' fun σ2 H2 => wipe σ2 vs = wipe σ vs ∧ tt σ2 H2 fun b H3 =>
        if b = true then te σ2 H3 fun y H4 => ∃ acc, H4 D = some (.lst acc) ∧ acc.length < sizeLine ∧ Nx (upd H4 D (.lst (acc ++ [y]))) else Nx H3) := by
  refine lc_it w (fun i H => Same H1 H ∧ H D = some (.lst [])) ⟨same_new nD, upd_same⟩ (fun i H _ p => hG H p.1) (fun j x H H' hj p y => ?_) (fun H p => hd H p.1 p.2)
  have sy := hY _ _ _ _ y
  exact ⟨hw _, hs j x H H' hj y (p.1.trans sy) _ fun H2 s2 => iteF ⟨(p.1.trans sy).trans s2, s2 _ _ (sy _ _ p.2)⟩⟩
section
variable {P : Program} {w : World} {K : PySem.W.Frag} {mg : Str → Option Value} {base : Heap}
theorem mrg_small {CR : Addr} {H : Hp} {p : Addr} {as : List Addr} {ms : List (List (List Nat))} {Q : VK} {E : XK} (h : H p = some (.lst (as.map V.ref))) (hro : Rows H as ms) (h1 : ms.length ≤ 10) (h2 : ∀ l ∈ ms, l.length ≤ 10 ∧ (∀ w ∈ l, w.length < 10) ∧ Up l) (h3 : (ms.map List.length).sum ≤ 100)
    (q : ∀ q H', Grow H q H' (txs (srt ms.flatten)) → Q (.ref q) H') : sp_merged K CR [.ref p] H Q E := by
  refine ⟨.ref p, some (ms.map fun l => some (l.map some)), rfl, Rws.of (SqL.of h) hro (by omega) (fun l hl => ⟨by have := (h2 l hl).1; omega, fun w hw => by have := (h2 l hl).2.1 w hw; omega⟩), fun rs' ers o ho => ?_, fun no => ?_, fun rows erows hup => ⟨?_, ?_, fun q1 H14 g14 => ?_⟩⟩
  · cases ers
    obtain ⟨l, hl, rfl⟩ := List.mem_map.mp ho
    rw [txO_of]
    have := (h2 l hl).1
    omega
  · rw [goodR_up fun l hl => (h2 l hl).2.2] at no
    cases no
  · have := rows_map_inj (Option.some.inj erows)
    rw [← this]; omega
  · have := rows_map_inj (Option.some.inj erows)
    rw [← this]; omega
  have := rows_map_inj (Option.some.inj erows)
  subst this
  rw [mergeF_srt hup] at g14
  exact q _ _ g14
def spLaw (K : PySem.W.Frag) : Sp := fun vs H Q _ => ∃ (a : Addr) (ns : List Int), vs = [.ref a] ∧ SqL K H a (ns.map V.int) ∧ ns.length ≤ 63 ∧ ∀ H', Q (.bl true) H'
theorem ok_law (T : Txt K mg) : FnOk P w K mg base (L2.CX P w) 5 T.law.a T.law.d ["_law_script"] (spLaw K) := by
  refine T.law.F.okX sc_law (fun vs H Q E h => ?_) (fun cdv A outer s0 H0 vs Q E hr h => ?_)
  · obtain ⟨a, ns, rfl, _⟩ := h
    rfl
  · obtain ⟨a, ns0, rfl, hS, hlen, kk⟩ := h
    refine ⟨_, (pss_cons (ps_set (i := 1) sc_law.nd rfl (.inr rfl) (pe_call (ok__law_town T) (hr.mono (by decide)) (by rfl) T._law_town.g T._law_town.F.kp T._law_town.b .nil passL (pa_cons (pv 0) pa_nil)))
    (pss_cons (ps_setLc (i := 2) (own := [("_law_k", 11)]) (g := gName 11) rfl sc_law.nd rfl rfl (sw_true rfl rfl rfl (by decide +kernel)) (pi_range1 (by rfl) T.z_range (pa_cons (pe_call (ok__law_draw T) (hr.mono (by decide)) (by rfl) T._law_draw.g T._law_draw.F.kp T._law_draw.b .nil passL (pa_cons (pv 1) (pa_cons pe_int pa_nil))) pa_nil)) (blkOk_by (N := N_law) (sc := defScope s_law) (by decide +kernel)) (fun _ _ _ _ _ => (pg_name (i := 11) sc_law.nd rfl (.inl rfl))) (fun _ _ _ _ _ => pts_nil) (fun _ _ _ _ _ => (pe_call (ok__law_text T) (hr.mono (by decide)) (by rfl) T._law_text.g T._law_text.F.kp T._law_text.b .nil passL (pa_cons (pv 1) (pa_cons pe_int pa_nil)))))
    (pss_cons (ps_set (i := 3) sc_law.nd rfl (.inl rfl) (pe_callTy call_list_of (by rfl) T.z_list (by decide +kernel) (pa_cons (pv 2) pa_nil)))
    (pss_cons (ps_set (i := 4) sc_law.nd rfl (.inr rfl) (pe_call (ok__law_pick T) (hr.mono (by decide)) (by rfl) T._law_pick.g T._law_pick.F.kp T._law_pick.b .nil passL (pa_cons (pv 1) (pa_cons (pe_lst (pa_cons pe_int (pa_cons pe_int (pa_cons pe_int (pa_cons (pe_op op_add pe_int (pe_call (ok__law_draw T) (hr.mono (by decide)) (by rfl) T._law_draw.g T._law_draw.F.kp T._law_draw.b .nil passL (pa_cons (pv 1) (pa_cons pe_int pa_nil)))) pa_nil))))) pa_nil))))
    (pss_cons (ps_set (i := 5) sc_law.nd rfl (.inl rfl) (pe_op op_add pe_int (pe_call (ok__law_draw T) (hr.mono (by decide)) (by rfl) T._law_draw.g T._law_draw.F.kp T._law_draw.b .nil passL (pa_cons (pv 1) (pa_cons pe_int pa_nil)))))
    (pss_cons (ps_set (i := 6) sc_law.nd rfl (.inr rfl) (pe_callN (ok_runs_of T) (hr.mono (by decide)) (by rfl) T.runs_of.g T.runs_of.F.kp T.kb_runs_of_room passL (pa_cons (pv 2) pa_nil) (pk_cons (pv 4) pk_nil)))
    (pss_cons (ps_if (PW.pt (pw_or (pt_cmpR (op_neP hr.units) (pv 6) (pe_call (ok__law_runs T) (hr.mono (by decide)) (by rfl) T._law_runs.g T._law_runs.F.kp T._law_runs.b .nil passL (pa_cons (pe_callTy call_list_of (by rfl) T.z_list (by decide +kernel) (pa_cons (pv 2) pa_nil)) (pa_cons (pv 4) pa_nil))) (nomark _)) (pw_or1 (pt_cmpR (op_neP hr.units) (pe_lc (own := [("_law_row", 12)]) (g := gName 12) rfl sc_law.nd (pi_listC (K := K) rfl (pv 6)) (blkOk_by (N := N_law) (sc := defScope s_law) (by decide +kernel)) (fun _ _ _ _ _ => (pg_name (i := 12) sc_law.nd rfl (.inl rfl))) (fun _ _ _ _ _ => (pts_one (pt_cmpR (op_nePC (K := K) rfl hr.units) (pv 12) (pe_callB (cr_sortedSC (K := K) rfl) (by rfl) T.z_sorted (by decide +kernel) (pa_cons (pv 12) pa_nil)) (nomark _)))) (fun _ _ _ _ _ => (pv 12))) (pe_lst pa_nil) (nomark _)))))
      (pss_one (ps_ret pe_bl))
      pss_nil)
    (pss_cons (ps_if (PW.pt (pw_or (pt_cmpR (op_neP hr.units) (pe_lc (own := [("_law_k", 11)]) (g := gName 11) rfl sc_law.nd (pi_range1 (by rfl) T.z_range (pa_cons (pe_op op_sub (pe_callB (call_lenC (K := K) rfl) (by rfl) T.z_len PySem.boot_len (pa_cons (pv 6) pa_nil)) pe_int) pa_nil)) (blkOk_by (N := N_law) (sc := defScope s_law) (by decide +kernel)) (fun _ _ _ _ _ => (pg_name (i := 11) sc_law.nd rfl (.inl rfl))) (fun _ _ _ _ _ => (pts_one (pt_cmpR op_lt (pe_callB (call_lenC (K := K) rfl) (by rfl) T.z_len PySem.boot_len (pa_cons (pe_ix (ix_listC (K := K) rfl) (pv 6) (pv 11) (fun _ _ => rfl)) pa_nil)) (pv 4) (nomark _)))) (fun _ _ _ _ _ => (pv 11))) (pe_lst pa_nil) (nomark _)) (pw_or1 (pt_cmpR (op_neP hr.units) (pv 2) (pv 3) (nomark _)))))
      (pss_one (ps_ret pe_bl))
      pss_nil)
    (pss_cons (ps_set (i := 7) sc_law.nd rfl (.inl rfl) (pe_call (ok_merged T) (hr.mono (by decide)) (by rfl) T.merged.g T.merged.F.kp T.merged.b .nil passL (pa_cons (pv 6) pa_nil)))
    (pss_cons (ps_set (i := 8) sc_law.nd rfl (.inl rfl) (pe_callN (ok_sorted_by T) (hr.mono (by decide)) (by rfl) T.sorted_by.g T.sorted_by.F.kp T.kb_sorted_by_room_ways passL (pa_cons (pv 2) pa_nil) (pk_cons (pv 4) (pk_cons (pv 5) pk_nil))))
    (pss_cons (ps_set (i := 9) sc_law.nd rfl (.inl rfl) pe_int)
    (pss_cons (ps_set (i := 10) sc_law.nd rfl (.inl rfl) (pe_callB call_len_seq (by rfl) T.z_len PySem.boot_len (pa_cons (pv 6) pa_nil)))
    (pss_cons (ps_while (passes_of rfl) (pt_cmpR op_gt (pv 10) pe_int (nomark _))
      (pss_cons (ps_set (i := 10) sc_law.nd rfl (.inl rfl) (pe_op op_fdiv (pe_op op_sub (pe_op op_add (pv 10) (pv 5)) pe_int) (pv 5)))
      (pss_one (ps_set (i := 9) sc_law.nd rfl (.inl rfl) (pe_op op_add (pv 9) pe_int)))))
    (pss_cons (ps_if (PW.pt (pw_or (pt_cmpR (op_neP hr.units) (pv 7) (pe_callB cr_sortedS (by rfl) T.z_sorted (by decide +kernel) (pa_cons (pv 3) pa_nil)) (nomark _)) (pw_or (pt_cmpR (op_neP hr.units) (pv 8) (pe_tup (pa_cons (pe_callB cr_sortedS (by rfl) T.z_sorted (by decide +kernel) (pa_cons (pv 3) pa_nil)) (pa_cons (pv 9) pa_nil))) (nomark _)) (pw_or1 (pt_not (pt_val (pe_callB call_isi (by rfl) T.z_isinstance (by decide +kernel) (pa_cons (pv 8) (pa_cons (pe_bltn (v := .ty "tuple") (by rfl) T.z_tuple (by decide +kernel) rfl) pa_nil)))))))))
      (pss_one (ps_ret pe_bl))
      pss_nil)
    (pss_cons (ps_if (PW.pt (pw_or (pt_cmpR op_ne (pe_callN (ok_passes T) (hr.mono (by decide)) (by rfl) T.passes.g T.passes.F.kp T.kb_passes_ways passL (pa_cons (pe_callB call_len_seq (by rfl) T.z_len PySem.boot_len (pa_cons (pv 6) pa_nil)) pa_nil) (pk_cons (pv 5) pk_nil)) (pv 9) (nomark _)) (pw_or1 (pt_not (pt_truth (pe_call (ok__law_whole T) (hr.mono (by decide)) (by rfl) T._law_whole.g T._law_whole.F.kp T._law_whole.b .nil passL (pa_cons (pv 9) pa_nil)) (by intro _; rfl))))))
      (pss_one (ps_ret pe_bl))
      pss_nil)
    (pss_cons (ps_expr (pe_bm PySem.F.plainAttrs_list PySem.F.slot_list_append PySem.F.type_list_append mt_append (pv 6) (pa_cons (pe_lst (pa_cons (pe_strS (l := [108, 97, 116, 101]) (by decide +kernel)) pa_nil)) pa_nil)))
    (pss_one (ps_ret (pe_and (pe_cmpR op_eq (pe_callB call_len_seq (by rfl) T.z_len PySem.boot_len (pa_cons (pe_callN (ok_runs_of T) (hr.mono (by decide)) (by rfl) T.runs_of.g T.runs_of.F.kp T.kb_runs_of_room passL (pa_cons (pe_callB cr_sortedS (by rfl) T.z_sorted (by decide +kernel) (pa_cons (pv 3) pa_nil)) pa_nil) (pk_cons (pv 4) pk_nil)) pa_nil)) (pe_callB (call_min2 rfl) (by rfl) T.z_min (by decide +kernel) (pa_cons pe_int (pa_cons (pe_callB call_len_seq (by rfl) T.z_len PySem.boot_len (pa_cons (pv 3) pa_nil)) pa_nil))) (nomark _)) (pe_and (pe_cmpR (op_eqP hr.units) (pe_call (ok_merged T) (hr.mono (by decide)) (by rfl) T.merged.g T.merged.F.kp T.merged.b .nil passL (pa_cons (pe_lst pa_nil) pa_nil)) (pe_lst pa_nil) (nomark _)) (pe_one (pe_cmpR (op_eqP hr.units) (pe_call (ok_merged T) (hr.mono (by decide)) (by rfl) T.merged.g T.merged.F.kp T.merged.b .nil passL (pa_cons (pe_lst (pa_cons (pe_lst pa_nil) (pa_cons (pe_lst (pa_cons (pe_strS (l := [97]) (by decide +kernel)) pa_nil)) (pa_cons (pe_lst pa_nil) pa_nil)))) pa_nil)) (pe_lst (pa_cons (pe_strS (l := [97]) (by decide +kernel)) pa_nil)) (nomark _))))))))))))))))))))))), ?_⟩
    refine ⟨_, rfl, a, ns0, rfl, hS, hlen, fun t r H1 s1 nt nr T1 => ?_⟩
    -- the records
    refine ⟨_, rfl, t, r, 30, rfl, T1, by decide, by decide, fun z H2 z0 z1 b2 T2 => ⟨_, rfl, by omega, by omega, fun D nD => ?_⟩⟩
    refine lc_draw walk_range (fun _ y => ∃ l : List Nat, y = V.str (S l) ∧ l.length ≤ 4) (by omega) nD T2 yfn_same (fun _ _ => trivial) (fun i x H H' hi bb tt hY q qk => ⟨rfl, ?_⟩) (fun xs H3 hl hx b3 T3 hD => ?_) gName_mono
    · exact ⟨_, rfl, t, r, 4, rfl, tt, by decide, by decide, fun l H4 hl _ b4 t4 => qk _ _ ⟨l, rfl, by omega⟩ b4 t4⟩
    obtain ⟨ls, rfl, hll, hl4⟩ := strs_of hx
    have hn : ls.length < 30 := by omega
    have ND : D ≠ t ∧ D ≠ r := T2.ne nD
    -- kept
    refine ⟨_, rfl, D, _, rfl, .inl (SqL.of hD), fun c nc => ?_⟩
    have NC : c ≠ t ∧ c ≠ r := T3.ne nc
    have hD4 := same_new (o := .lst (txs ls)) nc _ _ hD
    have T4 := town_new (o := .lst (txs ls)) T3 nc
    have hc4 : upd H3 c (.lst (txs ls)) c = some (.lst (txs ls)) := upd_same
    generalize upd H3 c (.lst (txs ls)) = H4 at *
    -- the room, the ways
    refine ⟨_, rfl, _, rfl, t, r, 50, rfl, T4, by decide, by decide, fun z4 H5 y0 y1 b5 T5 => ⟨_, _, rfl, rfl, sz (show 4 ≤ 16777216 by decide), fun p np => ?_⟩⟩
    have n1 := T5.ne np
    refine ⟨t, r, p, _, rfl, town_new T5 np, SqL.of upd_same, n1.1, n1.2, (show 0 < 4 by decide), (show 4 < 1000 by decide), fun j v H6 hj b6 T6 => ?_⟩
    obtain ⟨k, rfl, hk1, hk2⟩ : ∃ k : Nat, v = .int k ∧ 1 ≤ k ∧ k ≤ 50 := by
      have := List.mem_of_getElem? hj
      simp only [List.mem_cons, List.not_mem_nil, or_false] at this
      rcases this with rfl | rfl | rfl | rfl
      · exact ⟨1, rfl, by decide, by decide⟩
      · exact ⟨2, rfl, by decide, by decide⟩
      · exact ⟨5, rfl, by decide, by decide⟩
      · exact ⟨(1 + z4).toNat, by congr 1; omega, by omega, by omega⟩
    refine ⟨_, rfl, t, r, 4, rfl, T6, by decide, by decide, fun z5 H7 x0 x1 b7 T7 => ⟨_, _, rfl, rfl, ?_⟩⟩
    obtain ⟨u, eu, hu1, hu2⟩ : ∃ u : Nat, (2 : Int) + z5 = (u : Nat) ∧ 2 ≤ u ∧ u ≤ 5 := ⟨(2 + z5).toNat, by omega, by omega, by omega⟩
    dsimp only
    rw [eu]
    have keep : ∀ x o, H4 x = some o → x ≠ t → x ≠ r → H7 x = some o := fun x o h hx1 hx2 => b7 _ _ (b6 _ _ (same_new np _ _ (b5 _ _ h hx1 hx2)) hx1 hx2) hx1 hx2
    have hD7 := keep _ _ hD4 ND.1 ND.2
    have hc7 := keep _ _ hc4 NC.1 NC.2
    clear keep hD4 hc4 T4
    have hlong : ∀ l ∈ ls, l.length < 16777216 := fun l hl => by have := hl4 l hl; omega
    have hrec : ∀ {H : Hp}, H D = some (.lst (txs ls)) → Recs K H (.ref D) (some (ls.map some)) := fun h => .ofs (SqL.of h) (by omega) hlong
    have hwk : isWhole (.int (k : Nat)) 1 50 = true := by
      show (decide ((1 : Int) ≤ (k : Nat)) && decide (((k : Nat) : Int) ≤ 50)) = true
      rw [decide_eq_true (by omega), decide_eq_true (by omega)]; rfl
    have hwu : isWhole (.int (u : Nat)) 2 50 = true := by
      show (decide ((2 : Int) ≤ (u : Nat)) && decide (((u : Nat) : Int) ≤ 50)) = true
      rw [decide_eq_true (by omega), decide_eq_true (by omega)]; rfl
    have inj : ∀ {a b : List (List Nat)}, (some (a.map some) : Option (List (Option (List Nat)))) = some (b.map some) → a = b := fun {a b} h => by
      rw [← txO_of a, h, txO_of b]
    -- the rows
    refine ⟨_, rfl, _, rfl, rfl, rfl, .ref D, .int (k : Nat), some (ls.map some), "int", rfl, hrec hD7, .int _, fun no => (by rw [okTx_of] at no; cases no), fun _ no => (by rw [hwk] at no; cases no), fun ls2 k2 e1 e2 _ _ => ?_⟩
    obtain rfl := inj e1
    obtain rfl : k = k2 := by have := V.int.inj e2; omega
    refine ⟨by omega, fun f as H8 s8 hf hro hnd hfr => ?_⟩
    have hD8 := s8 _ _ hD7
    have hc8 := s8 _ _ hc7
    have hcf : c ≠ f := ne_of_none hc7 (hfr f List.mem_cons_self)
    obtain ⟨r1, r2, r3⟩ := runs_ok ls hk1
    have rl := runs_long ls k
    have hrows : (runsF ls.length (ls.take k) (ls.drop k) []).length ≤ ls.length := by
      have := sum_len r2
      rw [flat_len, r3.length_eq] at this
      exact this
    -- the rows by this law
    refine ⟨_, rfl, _, rfl, D, _, rfl, .inl (SqL.of hD8), fun c2 nc2 => ⟨_, rfl, c2, k, ls, rfl, SqL.of upd_same, hk1, by omega, by omega, fun g bs H9 s9 hg hrg _ _ => ?_⟩⟩
    have s89 := (same_new (o := .lst (txs ls)) nc2).trans s9
    generalize hrw : runsF ls.length (ls.take k) (ls.drop k) [] = rw0 at *
    refine ne_rows (SqL.of (s89 _ _ hf)) (hro.same s89) (SqL.of hg) hrg ⟨_, rfl, iteN (fun h => absurd rfl h) (fun _ => ?_)⟩
    have hf9 := s89 _ _ hf
    have hro9 := hro.same s89
    have hc9 := s89 _ _ hc8
    have hD9 := s89 _ _ hD8
    refine ⟨_, rfl, f, rfl, ⟨_, SqL.of hf9⟩, fun D2 nD2 => lc_none (i := 12) (walk_list (xs := as.map V.ref)) nD2 yat_same (fun _ s => sql_same (SqL.of hf9) s) (fun _ => rfl) (fun j x H H' hj y s Q q => ?_) (fun H10 s10 hD10 => ?_)⟩
    · obtain ⟨rfl, hx⟩ := y
      rw [List.getElem?_map] at hx
      obtain ⟨b, hb, rfl⟩ := Option.map_eq_some_iff.mp hx
      obtain ⟨l, hl, hH⟩ := (hro9.same s).get hb
      have hlm := List.mem_of_getElem? hl
      have hl64 : l.length < 64 := by
        have := len_sum hlm
        rw [flat_len, r3.length_eq] at this
        omega
      refine ⟨_, rfl, _, rfl, ?_⟩
      dsimp only [tNil]
      refine sort_txs (SqL.of hH) hl64 fun p3 np3 => ?_
      refine ne_strs (SqL.of (same_new np3 _ _ hH)) (SqL.of upd_same) ⟨_, rfl, ?_⟩
      rw [decide_eq_true (up_srt.mpr (r1 l hlm))]
      exact q _ (same_new np3)
    refine ⟨sz (by decide), fun p4 np4 => ne_strs (ls := []) (ms := []) (SqL.of (same_new np4 _ _ hD10)) (SqL.of upd_same) ⟨_, rfl, iteN (fun h => absurd rfl h) (fun _ => ?_)⟩⟩
    have s911 := s10.trans (same_new (o := .lst []) np4)
    generalize upd H10 p4 (.lst []) = H11 at *
    have hf11 := s911 _ _ hf9
    have hro11 := hro9.same s911
    have hc11 := s911 _ _ hc9
    have hD11 := s911 _ _ hD9
    -- none is short
    refine ⟨_, rfl, _, _, rfl, .inl (SqL.of hf11), _, _, rfl, rfl, _, rfl, by rw [List.length_map, hro11.len]; omega, by rw [List.length_map, hro11.len]; omega, fun D3 nD3 => lc_none (i := 11) walk_range nD3 yfn_same (fun _ _ => trivial) (fun _ => rfl) (fun j x H H' hj y s Q q => ?_) (fun H12 s12 hD12 => ?_)⟩
    · obtain ⟨rfl, rfl⟩ := y
      rw [List.length_map, hro11.len] at hj
      have hj2 : j < rw0.length - 1 := by omega
      obtain ⟨b, hb, hH⟩ := rows_at (hro11.same s) (List.getElem?_eq_getElem (show j < rw0.length by omega))
      have hlong2 : k ≤ (rw0[j]'(by omega)).length := rl _ (by
        have h5 : rw0.dropLast[j]'(by rw [List.length_dropLast]; omega) = rw0[j]'(by omega) := List.getElem_dropLast _
        rw [← h5]; exact List.getElem_mem _)
      refine ⟨_, rfl, _, rfl, f, _, _, .ref b, rfl, rfl, SqL.of (s _ _ hf11), (by rw [Int.zero_add]; exact atI_nat (by rw [List.getElem?_map, hb]; rfl)), _, _, rfl, .inl (SqL.of hH), _, rfl, _, _, rfl, rfl, _, rfl, ?_⟩
      have e5 : decide ((((txs (rw0[j]'(by omega))).length : Nat) : Int) < (k : Nat)) = false := decide_eq_false (by rw [strs_len]; omega)
      rw [e5]
      exact q _ (Same.refl _)
    refine ⟨sz (by decide), fun p5 np5 => ne_strs (ls := []) (ms := []) (SqL.of (same_new np5 _ _ hD12)) (SqL.of upd_same) ⟨_, rfl, iteN (fun h => absurd rfl h) (fun _ => ?_)⟩⟩
    have s1113 := s12.trans (same_new (o := .lst []) np5)
    generalize upd H12 p5 (.lst []) = H13 at *
    have hf13 := s1113 _ _ hf11
    have hro13 := hro11.same s1113
    have hc13 := s1113 _ _ hc11
    have hD13 := s1113 _ _ hD11
    refine ⟨_, rfl, _, rfl, ne_strs (SqL.of hD13) (SqL.of hc13) ⟨_, rfl, iteN (fun h => absurd rfl h) (fun _ => ?_)⟩⟩
    -- merged
    have hwl : ∀ l ∈ rw0, l.length ≤ 60 ∧ ∀ wd ∈ l, wd.length < 16777216 := fun l hl => ⟨by
      have := len_sum hl
      rw [flat_len, r3.length_eq] at this
      omega, fun wd hw => hlong wd (r3.subset (List.mem_flatten.mpr ⟨l, hl, hw⟩))⟩
    refine ⟨_, rfl, .ref f, some (rw0.map fun l => some (l.map some)), rfl, Rws.of (SqL.of hf13) hro13 (by omega) (fun l hl => ⟨by have := (hwl l hl).1; omega, (hwl l hl).2⟩), fun rs' ers o ho => ?_, fun no => ?_, fun rows erows hup => ⟨?_, ?_, fun q H14 g14 => ?_⟩⟩
    · cases ers
      obtain ⟨l, hl, rfl⟩ := List.mem_map.mp ho
      rw [txO_of]
      have := (hwl l hl).1
      omega
    · rw [goodR_up r1] at no
      cases no
    · have := rows_map_inj (Option.some.inj erows)
      rw [← this]; omega
    · have := rows_map_inj (Option.some.inj erows)
      rw [← this, flat_len, r3.length_eq]; omega
    have := rows_map_inj (Option.some.inj erows)
    subst this
    rw [mergeF_srt hup, show srt rw0.flatten = srt ls from srt_of ((srt_perm _).trans r3) (srt_up _)] at g14
    have hf14 := g14.2.1 _ _ hf13
    have hro14 := hro13.same g14.2.1
    have hc14 := g14.2.1 _ _ hc13
    have hD14 := g14.2.1 _ _ hD13
    have hq14 := g14.2.2
    -- sorted
    refine ⟨_, rfl, _, rfl, _, rfl, rfl, rfl, .ref D, .int (k : Nat), .int (u : Nat), some (ls.map some), "int", "int", rfl, hrec hD14, .int _, .int _, fun no => (by rw [okTx_of] at no; cases no), fun _ no => (by rw [hwk] at no; cases no), fun _ _ no => (by rw [hwu] at no; cases no), fun ls2 e1 => ?_, fun ls2 k2 u2 e1 e2 e3 _ _ _ _ p6 q6 H15 s15 hq15 hp15 np6 nq6 => ?_⟩
    · obtain rfl := inj e1
      exact ⟨by omega, hlong⟩
    obtain rfl := inj e1
    obtain rfl : k = k2 := by have := V.int.inj e2; omega
    obtain rfl : u = u2 := by have := V.int.inj e3; omega
    rw [hrw] at hp15
    have hf15 := s15 _ _ hf14
    have hro15 := hro14.same s15
    have hc15 := s15 _ _ hc14
    have hqm := s15 _ _ hq14
    -- the turns
    refine ⟨_, rfl, _, _, rfl, .inl (SqL.of hf15), ?_⟩
    rw [List.length_map, hro15.len]
    generalize hFin : turnsF u rw0.length rw0.length = Fin at hp15
    refine ⟨fun m σ H' => ∃ n' t' : Nat, σ = [some (.ref a), some (.ref t), some (.ref D), some (.ref c), some (.int (k : Nat)), some (.int (u : Nat)), some (.ref f), some (.ref q), some (.ref p6), some (.int (t' : Nat)), some (.int (n' : Nat)), none, none] ∧ H' = H15 ∧ n' ≤ m ∧ t' + turnsF u m n' = Fin, ⟨rw0.length, rw0.length, 0, rfl, rfl, Nat.le_refl _, by rw [Nat.zero_add]; exact hFin⟩, fun m σ H' w0 => ?_⟩
    obtain ⟨n', t', rfl, eH, hm, ht⟩ := w0
    subst eH
    refine ⟨_, rfl, _, _, rfl, rfl, _, rfl, iteD (fun e1 => ?_) (fun e1 => ?_)⟩
    · have hn1 : 1 < n' := by omega
      obtain ⟨m', rfl⟩ : ∃ m', m = m' + 1 := ⟨m - 1, by omega⟩
      refine ⟨fun σ' H2 => ∃ m2, m2 < m' + 1 ∧ ∃ n' t' : Nat, σ' = [some (.ref a), some (.ref t), some (.ref D), some (.ref c), some (.int (k : Nat)), some (.int (u : Nat)), some (.ref f), some (.ref q), some (.ref p6), some (.int (t' : Nat)), some (.int (n' : Nat)), none, none] ∧ H2 = H' ∧ n' ≤ m2 ∧ t' + turnsF u m2 n' = Fin, fun σ' H2 h => h, ?_⟩
      have ev : (((n' : Nat) : Int) + (u : Nat) - 1) / (u : Nat) = (((n' + u - 1) / u : Nat) : Int) := by
        rw [show ((n' : Nat) : Int) + (u : Nat) - 1 = ((n' + u - 1 : Nat) : Int) by omega]
        exact (Int.natCast_ediv _ _).symm
      refine ⟨_, rfl, _, rfl, _, _, rfl, rfl, _, _, rfl, rfl, _, rfl, _, _, rfl, rfl, ⟨by omega, by omega⟩, ?_⟩
      dsimp only
      rw [ev]
      have hl := turn_less hn1 hu1
      refine ⟨_, rfl, _, _, rfl, rfl, m', Nat.lt_succ_self _, (n' + u - 1) / u, t' + 1, rfl, rfl, by omega, ?_⟩
      rw [← ht, show turnsF u (m' + 1) n' = 1 + turnsF u m' ((n' + u - 1) / u) from if_neg (by omega)]
      omega
    rw [turns_small u (by omega)] at ht
    have ht : t' = Fin := ht
    subst ht
    -- what came of it
    refine ⟨_, rfl, _, rfl, ?_⟩
    dsimp only [tNil]
    refine sort_txs (SqL.of hc15) (by omega) fun p7 np7 => ?_
    refine ne_strs (SqL.of (same_new np7 _ _ hqm)) (SqL.of upd_same) ⟨_, rfl, iteN (fun h => absurd rfl h) (fun _ => ?_)⟩
    have s7 := same_new (o := .lst (txs (srt ls))) np7
    generalize upd H' p7 (.lst (txs (srt ls))) = H16 at *
    refine ⟨_, rfl, _, rfl, ?_⟩
    dsimp only [tNil]
    refine sort_txs (SqL.of (s7 _ _ hc15)) (by omega) fun p8 np8 => ⟨_, rfl, sz (show 2 ≤ 16777216 by decide), fun p9 np9 => ?_⟩
    have s8' := same_new (o := .lst (txs (srt ls))) np8
    have s9' := same_new (o := .tup [.ref p8, .int (t' : Nat)]) np9
    refine rNeP_of (a := ((srt ls).map S, ((t' : Nat) : Int))) (b := ((srt ls).map S, ((t' : Nat) : Int))) ?_ ?_ ⟨_, rfl, iteN (fun h => absurd rfl h) (fun _ => ?_)⟩
    · exact .tup (SqT.of (s9' _ _ (s8' _ _ (s7 _ _ hp15)))) (.cons (dp_strs2 (SqL.of (s9' _ _ (s8' _ _ (s7 _ _ hq15))))) (.cons (.int _) .nil))
    · exact .tup (SqT.of upd_same) (.cons (dp_strs2 (SqL.of (s9' _ _ upd_same))) (.cons (.int _) .nil))
    have s17 := (s7.trans s8').trans s9'
    generalize upd (upd H16 p8 (.lst (txs (srt ls)))) p9 (.tup [.ref p8, .int (t' : Nat)]) = H17 at *
    have hpl : Pl K H17 (.ref p6) "tuple" := .tup (SqT.of (s17 _ _ hp15))
    refine ⟨_, rfl, _, _, _, _, _, rfl, .ty _, hpl.ty, kit_tuple hpl, _, rfl, iteF ?_⟩
    have hf17 := s17 _ _ hf15
    have hro17 := hro15.same s17
    have hc17 := s17 _ _ hc15
    -- passes
    have hwn : isWhole (.int (rw0.length : Nat)) 0 100000 = true := by
      show (decide ((0 : Int) ≤ (rw0.length : Nat)) && decide (((rw0.length : Nat) : Int) ≤ 100000)) = true
      rw [decide_eq_true (by omega), decide_eq_true (by omega)]; rfl
    refine ⟨_, rfl, _, _, rfl, .inl (SqL.of hf17), _, rfl, rfl, rfl, ?_⟩
    rw [List.length_map, hro17.len]
    refine ⟨.int (rw0.length : Nat), .int (u : Nat), "int", "int", rfl, .int _, .int _, fun no => (by rw [hwn] at no; cases no), fun _ no => (by rw [hwu] at no; cases no), fun n2 u2 e1 e2 _ _ _ => ?_⟩
    obtain rfl : rw0.length = n2 := by have := V.int.inj e1; omega
    obtain rfl : u = u2 := by have := V.int.inj e2; omega
    rw [hFin]
    refine ⟨_, rfl, rfl, _, rfl, iteN (fun h => absurd rfl h) (fun _ => ?_)⟩
    refine ⟨_, rfl, _, rfl, _, rfl, iteF ?_⟩
    -- late
    refine ⟨_, rfl, .inl ⟨rfl, _, SqL.of hf17⟩, sz (by decide), fun p10 np10 => ?_⟩
    refine ⟨f, _, _, rfl, rfl, same_new np10 _ _ hf17, szl (by rw [List.length_map, hro17.len]; omega), ?_⟩
    have hc18 : upd (upd H17 p10 (.lst [.str (S [108, 97, 116, 101])])) f (.lst (as.map V.ref ++ [.ref p10])) c = some (.lst (txs ls)) := by rw [upd_ne hcf]; exact same_new np10 _ _ hc17
    generalize upd (upd H17 p10 (.lst [.str (S [108, 97, 116, 101])])) f (.lst (as.map V.ref ++ [.ref p10])) = H18 at *
    -- a row in order
    refine ⟨_, rfl, ?_⟩
    dsimp only [tNil]
    refine sort_txs (SqL.of hc18) (by omega) fun p11 np11 => ?_
    have hsl : (srt ls).length = ls.length := (srt_perm ls).length_eq
    refine ⟨_, rfl, rfl, rfl, .ref p11, .int (k : Nat), some ((srt ls).map some), "int", rfl, .ofs (SqL.of upd_same) (by omega) (fun l hl => hlong l ((srt_perm ls).subset hl)), .int _, fun no => (by rw [okTx_of] at no; cases no), fun _ no => (by rw [hwk] at no; cases no), fun ls2 k2 e1 e2 _ _ => ?_⟩
    obtain rfl := inj e1
    obtain rfl : k = k2 := by have := V.int.inj e2; omega
    refine ⟨by omega, fun f2 as2 H19 s19 hf2 hro2 _ _ => ?_⟩
    have hc19 := s19 _ _ (same_new np11 _ _ hc18)
    refine ⟨_, _, rfl, .inl (SqL.of hf2), _, rfl, _, _, rfl, .inl (SqL.of hc19), _, _, rfl, rfl, _, rfl, ?_⟩
    rw [List.length_map, hro2.len, one_run (srt_up ls) hk1, hsl]
    rw [show (if (((txs ls).length : Nat) : Int) < 1 then (((txs ls).length : Nat) : Int) else 1) = ((min 1 ls.length : Nat) : Int) by rw [strs_len]; split <;> omega]
    refine iteD (fun _ => ?_) (fun h => absurd rfl h)
    -- no rows
    refine ⟨sz (by decide), fun p12 np12 => ?_⟩
    dsimp only [tNil]
    show sp_merged K T.BadRecord.C [.ref p12] _ _ _
    refine mrg_small (as := []) (ms := []) upd_same trivial (by decide) (fun l h => by cases h) (by decide) (fun q2 H20 g20 => ?_)
    rw [← srt_of (List.Perm.refl ([] : List (List (List Nat))).flatten) List.Pairwise.nil] at g20
    refine ⟨sz (by decide), fun p13 np13 => eq_strs (ls := []) (ms := []) (SqL.of (same_new np13 _ _ g20.2.2)) (SqL.of upd_same) ?_⟩
    refine ⟨_, rfl, iteD (fun _ => ?_) (fun h => absurd rfl h)⟩
    generalize upd H20 p13 (.lst []) = H21
    -- one row among empty ones
    refine ⟨sz (by decide), fun w1 m1 => ⟨sz (by decide), fun w2 m2 => ⟨sz (by decide), fun w3 m3 => ⟨sz (show 3 ≤ 16777216 by decide), fun w4 m4 => ?_⟩⟩⟩⟩
    have u1 := same_new (o := .lst []) m1
    have u2 := same_new (o := .lst [.str (S [97])]) m2
    have u3 := same_new (o := .lst []) m3
    have u4 := same_new (o := .lst [.ref w1, .ref w2, .ref w3]) m4
    dsimp only [tNil]
    show sp_merged K T.BadRecord.C [.ref w4] _ _ _
    refine mrg_small (as := [w1, w2, w3]) (ms := [[], [[97]], []]) upd_same ⟨u4 _ _ (u3 _ _ (u2 _ _ upd_same)), u4 _ _ (u3 _ _ upd_same), u4 _ _ upd_same, trivial⟩ (by decide) (fun l h => ?_) (by decide) (fun q3 H22 g22 => ?_)
    · simp only [List.mem_cons, List.not_mem_nil, or_false] at h
      rcases h with rfl | rfl | rfl
      · exact ⟨by decide, (fun w h => by cases h), List.Pairwise.nil⟩
      · exact ⟨by decide, (fun w h => by rw [List.mem_singleton.mp h]; decide), List.pairwise_singleton _ _⟩
      · exact ⟨by decide, (fun w h => by cases h), List.Pairwise.nil⟩
    rw [show ([[], [[97]], []] : List (List (List Nat))).flatten = [[97]] from rfl, ← srt_of (List.Perm.refl [[97]]) (List.pairwise_singleton _ _)] at g22
    refine ⟨sz (show 1 ≤ 16777216 by decide), fun w5 m5 => eq_strs (ls := [[97]]) (ms := [[97]]) (SqL.of (same_new m5 _ _ g22.2.2)) (SqL.of upd_same) ?_⟩
    rw [decide_eq_true rfl]
    exact kk _
end
end R
set_option maxRecDepth 100000
set_option maxHeartbeats 8000000
namespace R
open PySem PySem.Spec PyProof.Rows L2 RZ
theorem txt_mk {K : PySem.W.Frag} {h : Heap} {mg : Str → Option Value} (X : K.In h) (G : h.Ns mainGlobals mg) {C_BadRecord C_BadNumber f_is_whole f_look_number f_look_texts f_runs_of f_merged f_passes f_sorted_by f__law_town f__law_draw f__law_pick f__law_whole f__law_text f__law_runs f_law : Addr} {od_is_whole an_is_whole od_look_number an_look_number od_look_texts an_look_texts od_runs_of an_runs_of od_merged an_merged od_passes an_passes od_sorted_by an_sorted_by od__law_town an__law_town od__law_draw an__law_draw od__law_pick an__law_pick od__law_whole an__law_whole od__law_text an__law_text od__law_runs an__law_runs od_law an_law : Option Addr} {oc_is_whole kV_is_whole dc_is_whole pm_is_whole cd_is_whole ct_is_whole oc_look_number kV_look_number dc_look_number pm_look_number cd_look_number ct_look_number oc_look_texts kV_look_texts dc_look_texts pm_look_texts cd_look_texts ct_look_texts oc_runs_of kV_runs_of dc_runs_of pm_runs_of cd_runs_of ct_runs_of oc_merged kV_merged dc_merged pm_merged cd_merged ct_merged oc_passes kV_passes dc_passes pm_passes cd_passes ct_passes oc_sorted_by kV_sorted_by dc_sorted_by pm_sorted_by cd_sorted_by ct_sorted_by oc__law_town kV__law_town dc__law_town pm__law_town cd__law_town ct__law_town oc__law_draw kV__law_draw dc__law_draw pm__law_draw cd__law_draw ct__law_draw oc__law_pick kV__law_pick dc__law_pick pm__law_pick cd__law_pick ct__law_pick oc__law_whole kV__law_whole dc__law_whole pm__law_whole cd__law_whole ct__law_whole oc__law_text kV__law_text dc__law_text pm__law_text cd__law_text ct__law_text oc__law_runs kV__law_runs dc__law_runs pm__law_runs cd__law_runs ct__law_runs oc_law kV_law dc_law pm_law cd_law ct_law : Value} {sl_is_whole sl_look_number sl_look_texts sl_runs_of sl_merged sl_passes sl_sorted_by sl__law_town sl__law_draw sl__law_pick sl__law_whole sl__law_text sl__law_runs sl_law : Array (Option Value)}
    (g_BadRecord : PySem.W.nsIn K mainGlobals "BadRecord" = some (some (.ref C_BadRecord)))
    (x_BadRecord : PySem.W.excIn K C_BadRecord [.type "ValueError", .type "Exception", .type "BaseException", .type "object"] "ValueError.__new__" = true)
    (k_BadRecord : PySem.W.keepIn K (.ref C_BadRecord) = true)
    (b_BadRecord : PySem.W.subIn K (.ref C_BadRecord) (.type "BaseException") = some true)
    (t_BadRecord : PySem.W.typeIn K (.ref C_BadRecord) = some (.type "type"))
    (g_BadNumber : PySem.W.nsIn K mainGlobals "BadNumber" = some (some (.ref C_BadNumber)))
    (x_BadNumber : PySem.W.excIn K C_BadNumber [.type "ValueError", .type "Exception", .type "BaseException", .type "object"] "ValueError.__new__" = true)
    (k_BadNumber : PySem.W.keepIn K (.ref C_BadNumber) = true)
    (b_BadNumber : PySem.W.subIn K (.ref C_BadNumber) (.type "BaseException") = some true)
    (t_BadNumber : PySem.W.typeIn K (.ref C_BadNumber) = some (.type "type"))
    (a_is_whole : PySem.W.nsIn K mainGlobals "is_whole" = some (some (.ref f_is_whole)))
    (l_is_whole : K.lookup f_is_whole = some ⟨oc_is_whole, od_is_whole, .func (PySem.W.fnOf "is_whole" "is_whole" (defArgs s_is_whole) (defBody s_is_whole) (defScope s_is_whole) .none kV_is_whole dc_is_whole pm_is_whole an_is_whole cd_is_whole ct_is_whole), sl_is_whole⟩)
    (c_is_whole : PySem.W.codeIn K cd_is_whole "is_whole" = true)
    (k_is_whole : PySem.W.keepIn K (.ref f_is_whole) = true)
    (a_look_number : PySem.W.nsIn K mainGlobals "look_number" = some (some (.ref f_look_number)))
    (l_look_number : K.lookup f_look_number = some ⟨oc_look_number, od_look_number, .func (PySem.W.fnOf "look_number" "look_number" (defArgs s_look_number) (defBody s_look_number) (defScope s_look_number) .none kV_look_number dc_look_number pm_look_number an_look_number cd_look_number ct_look_number), sl_look_number⟩)
    (c_look_number : PySem.W.codeIn K cd_look_number "look_number" = true)
    (k_look_number : PySem.W.keepIn K (.ref f_look_number) = true)
    (a_look_texts : PySem.W.nsIn K mainGlobals "look_texts" = some (some (.ref f_look_texts)))
    (l_look_texts : K.lookup f_look_texts = some ⟨oc_look_texts, od_look_texts, .func (PySem.W.fnOf "look_texts" "look_texts" (defArgs s_look_texts) (defBody s_look_texts) (defScope s_look_texts) .none kV_look_texts dc_look_texts pm_look_texts an_look_texts cd_look_texts ct_look_texts), sl_look_texts⟩)
    (c_look_texts : PySem.W.codeIn K cd_look_texts "look_texts" = true)
    (k_look_texts : PySem.W.keepIn K (.ref f_look_texts) = true)
    (a_runs_of : PySem.W.nsIn K mainGlobals "runs_of" = some (some (.ref f_runs_of)))
    (l_runs_of : K.lookup f_runs_of = some ⟨oc_runs_of, od_runs_of, .func (PySem.W.fnOf "runs_of" "runs_of" (defArgs s_runs_of) (defBody s_runs_of) (defScope s_runs_of) .none kV_runs_of dc_runs_of pm_runs_of an_runs_of cd_runs_of ct_runs_of), sl_runs_of⟩)
    (c_runs_of : PySem.W.codeIn K cd_runs_of "runs_of" = true)
    (k_runs_of : PySem.W.keepIn K (.ref f_runs_of) = true)
    (a_merged : PySem.W.nsIn K mainGlobals "merged" = some (some (.ref f_merged)))
    (l_merged : K.lookup f_merged = some ⟨oc_merged, od_merged, .func (PySem.W.fnOf "merged" "merged" (defArgs s_merged) (defBody s_merged) (defScope s_merged) .none kV_merged dc_merged pm_merged an_merged cd_merged ct_merged), sl_merged⟩)
    (c_merged : PySem.W.codeIn K cd_merged "merged" = true)
    (k_merged : PySem.W.keepIn K (.ref f_merged) = true)
    (a_passes : PySem.W.nsIn K mainGlobals "passes" = some (some (.ref f_passes)))
    (l_passes : K.lookup f_passes = some ⟨oc_passes, od_passes, .func (PySem.W.fnOf "passes" "passes" (defArgs s_passes) (defBody s_passes) (defScope s_passes) .none kV_passes dc_passes pm_passes an_passes cd_passes ct_passes), sl_passes⟩)
    (c_passes : PySem.W.codeIn K cd_passes "passes" = true)
    (k_passes : PySem.W.keepIn K (.ref f_passes) = true)
    (a_sorted_by : PySem.W.nsIn K mainGlobals "sorted_by" = some (some (.ref f_sorted_by)))
    (l_sorted_by : K.lookup f_sorted_by = some ⟨oc_sorted_by, od_sorted_by, .func (PySem.W.fnOf "sorted_by" "sorted_by" (defArgs s_sorted_by) (defBody s_sorted_by) (defScope s_sorted_by) .none kV_sorted_by dc_sorted_by pm_sorted_by an_sorted_by cd_sorted_by ct_sorted_by), sl_sorted_by⟩)
    (c_sorted_by : PySem.W.codeIn K cd_sorted_by "sorted_by" = true)
    (k_sorted_by : PySem.W.keepIn K (.ref f_sorted_by) = true)
    (a__law_town : PySem.W.nsIn K mainGlobals "_law_town" = some (some (.ref f__law_town)))
    (l__law_town : K.lookup f__law_town = some ⟨oc__law_town, od__law_town, .func (PySem.W.fnOf "_law_town" "_law_town" (defArgs s__law_town) (defBody s__law_town) (defScope s__law_town) .none kV__law_town dc__law_town pm__law_town an__law_town cd__law_town ct__law_town), sl__law_town⟩)
    (c__law_town : PySem.W.codeIn K cd__law_town "_law_town" = true)
    (k__law_town : PySem.W.keepIn K (.ref f__law_town) = true)
    (a__law_draw : PySem.W.nsIn K mainGlobals "_law_draw" = some (some (.ref f__law_draw)))
    (l__law_draw : K.lookup f__law_draw = some ⟨oc__law_draw, od__law_draw, .func (PySem.W.fnOf "_law_draw" "_law_draw" (defArgs s__law_draw) (defBody s__law_draw) (defScope s__law_draw) .none kV__law_draw dc__law_draw pm__law_draw an__law_draw cd__law_draw ct__law_draw), sl__law_draw⟩)
    (c__law_draw : PySem.W.codeIn K cd__law_draw "_law_draw" = true)
    (k__law_draw : PySem.W.keepIn K (.ref f__law_draw) = true)
    (a__law_pick : PySem.W.nsIn K mainGlobals "_law_pick" = some (some (.ref f__law_pick)))
    (l__law_pick : K.lookup f__law_pick = some ⟨oc__law_pick, od__law_pick, .func (PySem.W.fnOf "_law_pick" "_law_pick" (defArgs s__law_pick) (defBody s__law_pick) (defScope s__law_pick) .none kV__law_pick dc__law_pick pm__law_pick an__law_pick cd__law_pick ct__law_pick), sl__law_pick⟩)
    (c__law_pick : PySem.W.codeIn K cd__law_pick "_law_pick" = true)
    (k__law_pick : PySem.W.keepIn K (.ref f__law_pick) = true)
    (a__law_whole : PySem.W.nsIn K mainGlobals "_law_whole" = some (some (.ref f__law_whole)))
    (l__law_whole : K.lookup f__law_whole = some ⟨oc__law_whole, od__law_whole, .func (PySem.W.fnOf "_law_whole" "_law_whole" (defArgs s__law_whole) (defBody s__law_whole) (defScope s__law_whole) .none kV__law_whole dc__law_whole pm__law_whole an__law_whole cd__law_whole ct__law_whole), sl__law_whole⟩)
    (c__law_whole : PySem.W.codeIn K cd__law_whole "_law_whole" = true)
    (k__law_whole : PySem.W.keepIn K (.ref f__law_whole) = true)
    (a__law_text : PySem.W.nsIn K mainGlobals "_law_text" = some (some (.ref f__law_text)))
    (l__law_text : K.lookup f__law_text = some ⟨oc__law_text, od__law_text, .func (PySem.W.fnOf "_law_text" "_law_text" (defArgs s__law_text) (defBody s__law_text) (defScope s__law_text) .none kV__law_text dc__law_text pm__law_text an__law_text cd__law_text ct__law_text), sl__law_text⟩)
    (c__law_text : PySem.W.codeIn K cd__law_text "_law_text" = true)
    (k__law_text : PySem.W.keepIn K (.ref f__law_text) = true)
    (a__law_runs : PySem.W.nsIn K mainGlobals "_law_runs" = some (some (.ref f__law_runs)))
    (l__law_runs : K.lookup f__law_runs = some ⟨oc__law_runs, od__law_runs, .func (PySem.W.fnOf "_law_runs" "_law_runs" (defArgs s__law_runs) (defBody s__law_runs) (defScope s__law_runs) .none kV__law_runs dc__law_runs pm__law_runs an__law_runs cd__law_runs ct__law_runs), sl__law_runs⟩)
    (c__law_runs : PySem.W.codeIn K cd__law_runs "_law_runs" = true)
    (k__law_runs : PySem.W.keepIn K (.ref f__law_runs) = true)
    (a_law : PySem.W.nsIn K mainGlobals "law" = some (some (.ref f_law)))
    (l_law : K.lookup f_law = some ⟨oc_law, od_law, .func (PySem.W.fnOf "law" "law" (defArgs s_law) (defBody s_law) (defScope s_law) .none kV_law dc_law pm_law an_law cd_law ct_law), sl_law⟩)
    (c_law : PySem.W.codeIn K cd_law "law" = true)
    (k_law : PySem.W.keepIn K (.ref f_law) = true)
    (z_isinstance : PySem.W.nsIn K mainGlobals "isinstance" = some none)
    (z_int : PySem.W.nsIn K mainGlobals "int" = some none)
    (z_bool : PySem.W.nsIn K mainGlobals "bool" = some none)
    (z_list : PySem.W.nsIn K mainGlobals "list" = some none)
    (z_all : PySem.W.nsIn K mainGlobals "all" = some none)
    (z_str : PySem.W.nsIn K mainGlobals "str" = some none)
    (z_min : PySem.W.nsIn K mainGlobals "min" = some none)
    (z_sorted : PySem.W.nsIn K mainGlobals "sorted" = some none)
    (z_any : PySem.W.nsIn K mainGlobals "any" = some none)
    (z_enumerate : PySem.W.nsIn K mainGlobals "enumerate" = some none)
    (z_len : PySem.W.nsIn K mainGlobals "len" = some none)
    (z_range : PySem.W.nsIn K mainGlobals "range" = some none)
    (z_tuple : PySem.W.nsIn K mainGlobals "tuple" = some none)
    : ∃ T : Txt K mg, T.law.a = f_law ∧ T.law.d = PySem.W.fnOf "law" "law" (defArgs s_law) (defBody s_law) (defScope s_law) .none kV_law dc_law pm_law an_law cd_law ct_law := by
  have F_is_whole := fun_mk (st := s_is_whole) l_is_whole c_is_whole k_is_whole
  have F_look_number := fun_mk (st := s_look_number) l_look_number c_look_number k_look_number
  have F_look_texts := fun_mk (st := s_look_texts) l_look_texts c_look_texts k_look_texts
  have F_runs_of := fun_mk (st := s_runs_of) l_runs_of c_runs_of k_runs_of
  have F_merged := fun_mk (st := s_merged) l_merged c_merged k_merged
  have F_passes := fun_mk (st := s_passes) l_passes c_passes k_passes
  have F_sorted_by := fun_mk (st := s_sorted_by) l_sorted_by c_sorted_by k_sorted_by
  have F__law_town := fun_mk (st := s__law_town) l__law_town c__law_town k__law_town
  have F__law_draw := fun_mk (st := s__law_draw) l__law_draw c__law_draw k__law_draw
  have F__law_pick := fun_mk (st := s__law_pick) l__law_pick c__law_pick k__law_pick
  have F__law_whole := fun_mk (st := s__law_whole) l__law_whole c__law_whole k__law_whole
  have F__law_text := fun_mk (st := s__law_text) l__law_text c__law_text k__law_text
  have F__law_runs := fun_mk (st := s__law_runs) l__law_runs c__law_runs k__law_runs
  have F_law := fun_mk (st := s_law) l_law c_law k_law
  exact ⟨{ BadRecord := ⟨C_BadRecord, PySem.W.mg_of X G g_BadRecord, x_BadRecord, k_BadRecord, b_BadRecord, t_BadRecord⟩, BadNumber := ⟨C_BadNumber, PySem.W.mg_of X G g_BadNumber, x_BadNumber, k_BadNumber, b_BadNumber, t_BadNumber⟩, is_whole := ⟨f_is_whole, _, F_is_whole, PySem.W.mg_of X G a_is_whole, F_is_whole.binds (ps := ["thing", "low", "high"]) fun _ _ _ _ _ _ us hl => match us, hl with | [_, _, _], _ => rfl⟩, look_number := ⟨f_look_number, _, F_look_number, PySem.W.mg_of X G a_look_number, F_look_number.binds (ps := ["thing", "low", "high"]) fun _ _ _ _ _ _ us hl => match us, hl with | [_, _, _], _ => rfl⟩, look_texts := ⟨f_look_texts, _, F_look_texts, PySem.W.mg_of X G a_look_texts, F_look_texts.binds (ps := ["records"]) fun _ _ _ _ _ _ us hl => match us, hl with | [_], _ => rfl⟩, runs_of := ⟨f_runs_of, _, F_runs_of, PySem.W.mg_of X G a_runs_of⟩, merged := ⟨f_merged, _, F_merged, PySem.W.mg_of X G a_merged, F_merged.binds (ps := ["rows"]) fun _ _ _ _ _ _ us hl => match us, hl with | [_], _ => rfl⟩, passes := ⟨f_passes, _, F_passes, PySem.W.mg_of X G a_passes⟩, sorted_by := ⟨f_sorted_by, _, F_sorted_by, PySem.W.mg_of X G a_sorted_by⟩, _law_town := ⟨f__law_town, _, F__law_town, PySem.W.mg_of X G a__law_town, F__law_town.binds (ps := ["_law_script"]) fun _ _ _ _ _ _ us hl => match us, hl with | [_], _ => rfl⟩, _law_draw := ⟨f__law_draw, _, F__law_draw, PySem.W.mg_of X G a__law_draw, F__law_draw.binds (ps := ["_law_town_here", "_law_many"]) fun _ _ _ _ _ _ us hl => match us, hl with | [_, _], _ => rfl⟩, _law_pick := ⟨f__law_pick, _, F__law_pick, PySem.W.mg_of X G a__law_pick, F__law_pick.binds (ps := ["_law_town_here", "_law_some"]) fun _ _ _ _ _ _ us hl => match us, hl with | [_, _], _ => rfl⟩, _law_whole := ⟨f__law_whole, _, F__law_whole, PySem.W.mg_of X G a__law_whole, F__law_whole.binds (ps := ["_law_thing"]) fun _ _ _ _ _ _ us hl => match us, hl with | [_], _ => rfl⟩, _law_text := ⟨f__law_text, _, F__law_text, PySem.W.mg_of X G a__law_text, F__law_text.binds (ps := ["_law_town_here", "_law_most"]) fun _ _ _ _ _ _ us hl => match us, hl with | [_, _], _ => rfl⟩, _law_runs := ⟨f__law_runs, _, F__law_runs, PySem.W.mg_of X G a__law_runs, F__law_runs.binds (ps := ["_law_records", "_law_space_of"]) fun _ _ _ _ _ _ us hl => match us, hl with | [_, _], _ => rfl⟩, law := ⟨f_law, _, F_law, PySem.W.mg_of X G a_law, F_law.binds (ps := ["_law_script"]) fun _ _ _ _ _ _ us hl => match us, hl with | [_], _ => rfl⟩, z_isinstance := PySem.W.mg_none_of X G z_isinstance, z_int := PySem.W.mg_none_of X G z_int, z_bool := PySem.W.mg_none_of X G z_bool, z_list := PySem.W.mg_none_of X G z_list, z_all := PySem.W.mg_none_of X G z_all, z_str := PySem.W.mg_none_of X G z_str, z_min := PySem.W.mg_none_of X G z_min, z_sorted := PySem.W.mg_none_of X G z_sorted, z_any := PySem.W.mg_none_of X G z_any, z_enumerate := PySem.W.mg_none_of X G z_enumerate, z_len := PySem.W.mg_none_of X G z_len, z_range := PySem.W.mg_none_of X G z_range, z_tuple := PySem.W.mg_none_of X G z_tuple, kb_runs_of_room := ⟨fun s us ws _ h1 h2 => match us, ws, h1, h2 with | [_], [_], _, _ => .of_eq rfl, fun r1 r2 => r1.append r2⟩, kb_sorted_by_room_ways := ⟨fun s us ws _ h1 h2 => match us, ws, h1, h2 with | [_], [_, _], _, _ => .of_eq rfl, fun r1 r2 => r1.append r2⟩, kb_passes_ways := ⟨fun s us ws _ h1 h2 => match us, ws, h1, h2 with | [_], [_], _, _ => .of_eq rfl, fun r1 r2 => r1.append r2⟩ }, rfl, rfl⟩
theorem all_mk {l : PySem.W.OpenLaw} {w : World} {K : PySem.W.Frag} {h : Heap} {mg : Str → Option Value} {fa : Addr} (X : K.In h) (G : h.Ns mainGlobals mg) (hfa : mg "law" = some (.ref fa)) {C_BadRecord C_BadNumber f_is_whole f_look_number f_look_texts f_runs_of f_merged f_passes f_sorted_by f__law_town f__law_draw f__law_pick f__law_whole f__law_text f__law_runs f_law : Addr} {od_is_whole an_is_whole od_look_number an_look_number od_look_texts an_look_texts od_runs_of an_runs_of od_merged an_merged od_passes an_passes od_sorted_by an_sorted_by od__law_town an__law_town od__law_draw an__law_draw od__law_pick an__law_pick od__law_whole an__law_whole od__law_text an__law_text od__law_runs an__law_runs od_law an_law : Option Addr} {oc_is_whole kV_is_whole dc_is_whole pm_is_whole cd_is_whole ct_is_whole oc_look_number kV_look_number dc_look_number pm_look_number cd_look_number ct_look_number oc_look_texts kV_look_texts dc_look_texts pm_look_texts cd_look_texts ct_look_texts oc_runs_of kV_runs_of dc_runs_of pm_runs_of cd_runs_of ct_runs_of oc_merged kV_merged dc_merged pm_merged cd_merged ct_merged oc_passes kV_passes dc_passes pm_passes cd_passes ct_passes oc_sorted_by kV_sorted_by dc_sorted_by pm_sorted_by cd_sorted_by ct_sorted_by oc__law_town kV__law_town dc__law_town pm__law_town cd__law_town ct__law_town oc__law_draw kV__law_draw dc__law_draw pm__law_draw cd__law_draw ct__law_draw oc__law_pick kV__law_pick dc__law_pick pm__law_pick cd__law_pick ct__law_pick oc__law_whole kV__law_whole dc__law_whole pm__law_whole cd__law_whole ct__law_whole oc__law_text kV__law_text dc__law_text pm__law_text cd__law_text ct__law_text oc__law_runs kV__law_runs dc__law_runs pm__law_runs cd__law_runs ct__law_runs oc_law kV_law dc_law pm_law cd_law ct_law : Value} {sl_is_whole sl_look_number sl_look_texts sl_runs_of sl_merged sl_passes sl_sorted_by sl__law_town sl__law_draw sl__law_pick sl__law_whole sl__law_text sl__law_runs sl_law : Array (Option Value)}
    (g_BadRecord : PySem.W.nsIn K mainGlobals "BadRecord" = some (some (.ref C_BadRecord)))
    (x_BadRecord : PySem.W.excIn K C_BadRecord [.type "ValueError", .type "Exception", .type "BaseException", .type "object"] "ValueError.__new__" = true)
    (k_BadRecord : PySem.W.keepIn K (.ref C_BadRecord) = true)
    (b_BadRecord : PySem.W.subIn K (.ref C_BadRecord) (.type "BaseException") = some true)
    (t_BadRecord : PySem.W.typeIn K (.ref C_BadRecord) = some (.type "type"))
    (g_BadNumber : PySem.W.nsIn K mainGlobals "BadNumber" = some (some (.ref C_BadNumber)))
    (x_BadNumber : PySem.W.excIn K C_BadNumber [.type "ValueError", .type "Exception", .type "BaseException", .type "object"] "ValueError.__new__" = true)
    (k_BadNumber : PySem.W.keepIn K (.ref C_BadNumber) = true)
    (b_BadNumber : PySem.W.subIn K (.ref C_BadNumber) (.type "BaseException") = some true)
    (t_BadNumber : PySem.W.typeIn K (.ref C_BadNumber) = some (.type "type"))
    (a_is_whole : PySem.W.nsIn K mainGlobals "is_whole" = some (some (.ref f_is_whole)))
    (l_is_whole : K.lookup f_is_whole = some ⟨oc_is_whole, od_is_whole, .func (PySem.W.fnOf "is_whole" "is_whole" (defArgs s_is_whole) (defBody s_is_whole) (defScope s_is_whole) .none kV_is_whole dc_is_whole pm_is_whole an_is_whole cd_is_whole ct_is_whole), sl_is_whole⟩)
    (c_is_whole : PySem.W.codeIn K cd_is_whole "is_whole" = true)
    (k_is_whole : PySem.W.keepIn K (.ref f_is_whole) = true)
    (a_look_number : PySem.W.nsIn K mainGlobals "look_number" = some (some (.ref f_look_number)))
    (l_look_number : K.lookup f_look_number = some ⟨oc_look_number, od_look_number, .func (PySem.W.fnOf "look_number" "look_number" (defArgs s_look_number) (defBody s_look_number) (defScope s_look_number) .none kV_look_number dc_look_number pm_look_number an_look_number cd_look_number ct_look_number), sl_look_number⟩)
    (c_look_number : PySem.W.codeIn K cd_look_number "look_number" = true)
    (k_look_number : PySem.W.keepIn K (.ref f_look_number) = true)
    (a_look_texts : PySem.W.nsIn K mainGlobals "look_texts" = some (some (.ref f_look_texts)))
    (l_look_texts : K.lookup f_look_texts = some ⟨oc_look_texts, od_look_texts, .func (PySem.W.fnOf "look_texts" "look_texts" (defArgs s_look_texts) (defBody s_look_texts) (defScope s_look_texts) .none kV_look_texts dc_look_texts pm_look_texts an_look_texts cd_look_texts ct_look_texts), sl_look_texts⟩)
    (c_look_texts : PySem.W.codeIn K cd_look_texts "look_texts" = true)
    (k_look_texts : PySem.W.keepIn K (.ref f_look_texts) = true)
    (a_runs_of : PySem.W.nsIn K mainGlobals "runs_of" = some (some (.ref f_runs_of)))
    (l_runs_of : K.lookup f_runs_of = some ⟨oc_runs_of, od_runs_of, .func (PySem.W.fnOf "runs_of" "runs_of" (defArgs s_runs_of) (defBody s_runs_of) (defScope s_runs_of) .none kV_runs_of dc_runs_of pm_runs_of an_runs_of cd_runs_of ct_runs_of), sl_runs_of⟩)
    (c_runs_of : PySem.W.codeIn K cd_runs_of "runs_of" = true)
    (k_runs_of : PySem.W.keepIn K (.ref f_runs_of) = true)
    (a_merged : PySem.W.nsIn K mainGlobals "merged" = some (some (.ref f_merged)))
    (l_merged : K.lookup f_merged = some ⟨oc_merged, od_merged, .func (PySem.W.fnOf "merged" "merged" (defArgs s_merged) (defBody s_merged) (defScope s_merged) .none kV_merged dc_merged pm_merged an_merged cd_merged ct_merged), sl_merged⟩)
    (c_merged : PySem.W.codeIn K cd_merged "merged" = true)
    (k_merged : PySem.W.keepIn K (.ref f_merged) = true)
    (a_passes : PySem.W.nsIn K mainGlobals "passes" = some (some (.ref f_passes)))
    (l_passes : K.lookup f_passes = some ⟨oc_passes, od_passes, .func (PySem.W.fnOf "passes" "passes" (defArgs s_passes) (defBody s_passes) (defScope s_passes) .none kV_passes dc_passes pm_passes an_passes cd_passes ct_passes), sl_passes⟩)
    (c_passes : PySem.W.codeIn K cd_passes "passes" = true)
    (k_passes : PySem.W.keepIn K (.ref f_passes) = true)
    (a_sorted_by : PySem.W.nsIn K mainGlobals "sorted_by" = some (some (.ref f_sorted_by)))
    (l_sorted_by : K.lookup f_sorted_by = some ⟨oc_sorted_by, od_sorted_by, .func (PySem.W.fnOf "sorted_by" "sorted_by" (defArgs s_sorted_by) (defBody s_sorted_by) (defScope s_sorted_by) .none kV_sorted_by dc_sorted_by pm_sorted_by an_sorted_by cd_sorted_by ct_sorted_by), sl_sorted_by⟩)
    (c_sorted_by : PySem.W.codeIn K cd_sorted_by "sorted_by" = true)
    (k_sorted_by : PySem.W.keepIn K (.ref f_sorted_by) = true)
    (a__law_town : PySem.W.nsIn K mainGlobals "_law_town" = some (some (.ref f__law_town)))
    (l__law_town : K.lookup f__law_town = some ⟨oc__law_town, od__law_town, .func (PySem.W.fnOf "_law_town" "_law_town" (defArgs s__law_town) (defBody s__law_town) (defScope s__law_town) .none kV__law_town dc__law_town pm__law_town an__law_town cd__law_town ct__law_town), sl__law_town⟩)
    (c__law_town : PySem.W.codeIn K cd__law_town "_law_town" = true)
    (k__law_town : PySem.W.keepIn K (.ref f__law_town) = true)
    (a__law_draw : PySem.W.nsIn K mainGlobals "_law_draw" = some (some (.ref f__law_draw)))
    (l__law_draw : K.lookup f__law_draw = some ⟨oc__law_draw, od__law_draw, .func (PySem.W.fnOf "_law_draw" "_law_draw" (defArgs s__law_draw) (defBody s__law_draw) (defScope s__law_draw) .none kV__law_draw dc__law_draw pm__law_draw an__law_draw cd__law_draw ct__law_draw), sl__law_draw⟩)
    (c__law_draw : PySem.W.codeIn K cd__law_draw "_law_draw" = true)
    (k__law_draw : PySem.W.keepIn K (.ref f__law_draw) = true)
    (a__law_pick : PySem.W.nsIn K mainGlobals "_law_pick" = some (some (.ref f__law_pick)))
    (l__law_pick : K.lookup f__law_pick = some ⟨oc__law_pick, od__law_pick, .func (PySem.W.fnOf "_law_pick" "_law_pick" (defArgs s__law_pick) (defBody s__law_pick) (defScope s__law_pick) .none kV__law_pick dc__law_pick pm__law_pick an__law_pick cd__law_pick ct__law_pick), sl__law_pick⟩)
    (c__law_pick : PySem.W.codeIn K cd__law_pick "_law_pick" = true)
    (k__law_pick : PySem.W.keepIn K (.ref f__law_pick) = true)
    (a__law_whole : PySem.W.nsIn K mainGlobals "_law_whole" = some (some (.ref f__law_whole)))
    (l__law_whole : K.lookup f__law_whole = some ⟨oc__law_whole, od__law_whole, .func (PySem.W.fnOf "_law_whole" "_law_whole" (defArgs s__law_whole) (defBody s__law_whole) (defScope s__law_whole) .none kV__law_whole dc__law_whole pm__law_whole an__law_whole cd__law_whole ct__law_whole), sl__law_whole⟩)
    (c__law_whole : PySem.W.codeIn K cd__law_whole "_law_whole" = true)
    (k__law_whole : PySem.W.keepIn K (.ref f__law_whole) = true)
    (a__law_text : PySem.W.nsIn K mainGlobals "_law_text" = some (some (.ref f__law_text)))
    (l__law_text : K.lookup f__law_text = some ⟨oc__law_text, od__law_text, .func (PySem.W.fnOf "_law_text" "_law_text" (defArgs s__law_text) (defBody s__law_text) (defScope s__law_text) .none kV__law_text dc__law_text pm__law_text an__law_text cd__law_text ct__law_text), sl__law_text⟩)
    (c__law_text : PySem.W.codeIn K cd__law_text "_law_text" = true)
    (k__law_text : PySem.W.keepIn K (.ref f__law_text) = true)
    (a__law_runs : PySem.W.nsIn K mainGlobals "_law_runs" = some (some (.ref f__law_runs)))
    (l__law_runs : K.lookup f__law_runs = some ⟨oc__law_runs, od__law_runs, .func (PySem.W.fnOf "_law_runs" "_law_runs" (defArgs s__law_runs) (defBody s__law_runs) (defScope s__law_runs) .none kV__law_runs dc__law_runs pm__law_runs an__law_runs cd__law_runs ct__law_runs), sl__law_runs⟩)
    (c__law_runs : PySem.W.codeIn K cd__law_runs "_law_runs" = true)
    (k__law_runs : PySem.W.keepIn K (.ref f__law_runs) = true)
    (a_law : PySem.W.nsIn K mainGlobals "law" = some (some (.ref f_law)))
    (l_law : K.lookup f_law = some ⟨oc_law, od_law, .func (PySem.W.fnOf "law" "law" (defArgs s_law) (defBody s_law) (defScope s_law) .none kV_law dc_law pm_law an_law cd_law ct_law), sl_law⟩)
    (c_law : PySem.W.codeIn K cd_law "law" = true)
    (k_law : PySem.W.keepIn K (.ref f_law) = true)
    (z_isinstance : PySem.W.nsIn K mainGlobals "isinstance" = some none)
    (z_int : PySem.W.nsIn K mainGlobals "int" = some none)
    (z_bool : PySem.W.nsIn K mainGlobals "bool" = some none)
    (z_list : PySem.W.nsIn K mainGlobals "list" = some none)
    (z_all : PySem.W.nsIn K mainGlobals "all" = some none)
    (z_str : PySem.W.nsIn K mainGlobals "str" = some none)
    (z_min : PySem.W.nsIn K mainGlobals "min" = some none)
    (z_sorted : PySem.W.nsIn K mainGlobals "sorted" = some none)
    (z_any : PySem.W.nsIn K mainGlobals "any" = some none)
    (z_enumerate : PySem.W.nsIn K mainGlobals "enumerate" = some none)
    (z_len : PySem.W.nsIn K mainGlobals "len" = some none)
    (z_range : PySem.W.nsIn K mainGlobals "range" = some none)
    (z_tuple : PySem.W.nsIn K mainGlobals "tuple" = some none)
    : ∃ fd : FuncData, (∀ (s : Shared) (v : Value), BindsTo s fd ⟨[v], []⟩ [("_law_script", v)]) ∧ ∀ base : Heap, K.In base → base.Ns mainGlobals mg → FnOk l.prog w K mg base (L2.CX l.prog w) 5 fa fd ["_law_script"] (spLaw K) := by
  have e := hfa.symm.trans (PySem.W.mg_of X G a_law)
  cases e
  obtain ⟨T, ea, ed⟩ := txt_mk X G g_BadRecord x_BadRecord k_BadRecord b_BadRecord t_BadRecord g_BadNumber x_BadNumber k_BadNumber b_BadNumber t_BadNumber a_is_whole l_is_whole c_is_whole k_is_whole a_look_number l_look_number c_look_number k_look_number a_look_texts l_look_texts c_look_texts k_look_texts a_runs_of l_runs_of c_runs_of k_runs_of a_merged l_merged c_merged k_merged a_passes l_passes c_passes k_passes a_sorted_by l_sorted_by c_sorted_by k_sorted_by a__law_town l__law_town c__law_town k__law_town a__law_draw l__law_draw c__law_draw k__law_draw a__law_pick l__law_pick c__law_pick k__law_pick a__law_whole l__law_whole c__law_whole k__law_whole a__law_text l__law_text c__law_text k__law_text a__law_runs l__law_runs c__law_runs k__law_runs a_law l_law c_law k_law z_isinstance z_int z_bool z_list z_all z_str z_min z_sorted z_any z_enumerate z_len z_range z_tuple
  refine ⟨T.law.d, fun s v => ?_, fun base _ _ => ?_⟩
  · rw [ed]; exact .of_eq rfl
  · rw [← ea]; exact ok_law T
end R
set_option maxRecDepth 100000
open PySem PySem.W PyProof.Rows
set_option maxRecDepth 100000 in
set_option maxHeartbeats 0 in
theorem PySem.Challenge.cw_reelrows_k19_whole_sorted_holds : PySem.Challenge.rw_reelrows_k19_whole_sorted.Holds := by
  w_on; o_law; k_head; (case hw => w_witness2)
  k_fill
  refine L2.walk_of (l := PySem.Challenge.rw_reelrows_k19_whole_sorted) (n := 63) (k := 5) (x := "_law_script") (CX := fun w => L2.CX PySem.Challenge.rw_reelrows_k19_whole_sorted.prog w) (sp := fun w => R.spLaw _) rfl (by decide) rfl ⟨rfl, by decide, by decide⟩ (fun w h Y => PySem.W.kIn_of Y) ?F (fun _ _ a ns hl _ hS => ⟨a, ns, rfl, hS, hl, fun _ => rfl⟩) (fun w H s e s' h => by obtain ⟨_, _, _, _, _, _, _, _, _, _, _, _, z⟩ := h; exact z)
  case F =>
    intro w mg fa h KX G hmg
    refine' R.all_mk KX G hmg ?g_BadRecord ?x_BadRecord ?k_BadRecord ?b_BadRecord ?t_BadRecord ?g_BadNumber ?x_BadNumber ?k_BadNumber ?b_BadNumber ?t_BadNumber ?a_is_whole ?l_is_whole ?c_is_whole ?k_is_whole ?a_look_number ?l_look_number ?c_look_number ?k_look_number ?a_look_texts ?l_look_texts ?c_look_texts ?k_look_texts ?a_runs_of ?l_runs_of ?c_runs_of ?k_runs_of ?a_merged ?l_merged ?c_merged ?k_merged ?a_passes ?l_passes ?c_passes ?k_passes ?a_sorted_by ?l_sorted_by ?c_sorted_by ?k_sorted_by ?a__law_town ?l__law_town ?c__law_town ?k__law_town ?a__law_draw ?l__law_draw ?c__law_draw ?k__law_draw ?a__law_pick ?l__law_pick ?c__law_pick ?k__law_pick ?a__law_whole ?l__law_whole ?c__law_whole ?k__law_whole ?a__law_text ?l__law_text ?c__law_text ?k__law_text ?a__law_runs ?l__law_runs ?c__law_runs ?k__law_runs ?a_law ?l_law ?c_law ?k_law ?z_isinstance ?z_int ?z_bool ?z_list ?z_all ?z_str ?z_min ?z_sorted ?z_any ?z_enumerate ?z_len ?z_range ?z_tuple
    (case g_BadRecord => k_is)
    (case x_BadRecord => k_exc)
    (case k_BadRecord => k_is)
    (case b_BadRecord => k_is)
    (case t_BadRecord => k_is)
    (case g_BadNumber => k_is)
    (case x_BadNumber => k_exc)
    (case k_BadNumber => k_is)
    (case b_BadNumber => k_is)
    (case t_BadNumber => k_is)
    (case a_is_whole => k_is)
    (case l_is_whole => k_is)
    (case c_is_whole => k_is)
    (case k_is_whole => k_is)
    (case a_look_number => k_is)
    (case l_look_number => k_is)
    (case c_look_number => k_is)
    (case k_look_number => k_is)
    (case a_look_texts => k_is)
    (case l_look_texts => k_is)
    (case c_look_texts => k_is)
    (case k_look_texts => k_is)
    (case a_runs_of => k_is)
    (case l_runs_of => k_is)
    (case c_runs_of => k_is)
    (case k_runs_of => k_is)
    (case a_merged => k_is)
    (case l_merged => k_is)
    (case c_merged => k_is)
    (case k_merged => k_is)
    (case a_passes => k_is)
    (case l_passes => k_is)
    (case c_passes => k_is)
    (case k_passes => k_is)
    (case a_sorted_by => k_is)
    (case l_sorted_by => k_is)
    (case c_sorted_by => k_is)
    (case k_sorted_by => k_is)
    (case a__law_town => k_is)
    (case l__law_town => k_is)
    (case c__law_town => k_is)
    (case k__law_town => k_is)
    (case a__law_draw => k_is)
    (case l__law_draw => k_is)
    (case c__law_draw => k_is)
    (case k__law_draw => k_is)
    (case a__law_pick => k_is)
    (case l__law_pick => k_is)
    (case c__law_pick => k_is)
    (case k__law_pick => k_is)
    (case a__law_whole => k_is)
    (case l__law_whole => k_is)
    (case c__law_whole => k_is)
    (case k__law_whole => k_is)
    (case a__law_text => k_is)
    (case l__law_text => k_is)
    (case c__law_text => k_is)
    (case k__law_text => k_is)
    (case a__law_runs => k_is)
    (case l__law_runs => k_is)
    (case c__law_runs => k_is)
    (case k__law_runs => k_is)
    (case a_law => k_is)
    (case l_law => k_is)
    (case c_law => k_is)
    (case k_law => k_is)
    (case z_isinstance => k_is)
    (case z_int => k_is)
    (case z_bool => k_is)
    (case z_list => k_is)
    (case z_all => k_is)
    (case z_str => k_is)
    (case z_min => k_is)
    (case z_sorted => k_is)
    (case z_any => k_is)
    (case z_enumerate => k_is)
    (case z_len => k_is)
    (case z_range => k_is)
    (case z_tuple => k_is)
