import PyProof.Rows.All
import Wide.All
import OpenK.AllK
import Wide.FinOn
import HandS.ForMost
import HandS.ForExc
import HandS.IsInst
import HandS.Zip
import HandS.Defaults
import HandS.MakeKw
import HandS.MakeKwOnly
import HandS.Style
import HandS.TupAny
import HandS.ExcOwn
import HandS.ExcIs
import HandS.ExcValue
import HandS.TryMany
import KE.IntTextLaws
import KE.KIntText
import KE.Datum
import KE.KTupSum
import HandS.Walk
import KE.DataEq
import KE.DataMinMax
import KE.DatumOrd
import PyProof.StrOps2
import PySem.Challenge.RW_reelrows_k20_merges_refused
set_option Elab.async false
set_option linter.all false
set_option maxRecDepth 100000
set_option maxHeartbeats 4000000
namespace R
open PySem PySem.Spec PyProof.Rows L2 RZ
open PySem.W (Datum)
/-! ### what the top has left, def by def -/
structure DefAt (K : PySem.W.Frag) (mg : Str → Option Value) (x : Str) (st : Stmt) (ps : List Str) where
  a : Addr
  d : FuncData
  F : Fun K x x st a d
  g : mg x = some (.ref a)
  b : Binds K d ps []
/-- a def with parameters that are handed in by name alone -/
structure DefKAt (K : PySem.W.Frag) (mg : Str → Option Value) (x : Str) (st : Stmt) where
  a : Addr
  d : FuncData
  F : Fun K x x st a d
  g : mg x = some (.ref a)
/-- an own exception class with __init__ -/
structure ExcNAt (K : PySem.W.Frag) (mg : Str → Option Value) (x : Str) where
  C : Addr
  g : mg x = some (.ref C)
/-- an own class -/
structure ClsAt (K : PySem.W.Frag) (mg : Str → Option Value) (x : Str) where
  C : Addr
  g : mg x = some (.ref C)
  cl : Cls K C
  m1 : PySem.W.makesIn K C = true
  kc : PySem.W.keepIn K (.ref C) = true
theorem ClsAt.mks {K : PySem.W.Frag} {mg : Str → Option Value} {x : Str} (c : ClsAt K mg x) {f : Addr} (m : Meth K c.C "__init__" f) : Mk K c.C f := ⟨c.m1, m.at_, m.fn, c.kc⟩
/-- a method -/
structure MethAt (K : PySem.W.Frag) (C : Addr) (x q : Str) (st : Stmt) (ps : List Str) where
  a : Addr
  d : FuncData
  F : Fun K x q st a d
  m : Meth K C x a
  b : Binds K d ps []
/-- a method with parameters that are handed in by name alone -/
structure MethKAt (K : PySem.W.Frag) (C : Addr) (x q : Str) (st : Stmt) where
  a : Addr
  d : FuncData
  F : Fun K x q st a d
  m : Meth K C x a
/-- a call by keywords where some defaults are left out: their values -/
structure KBnD (K : PySem.W.Frag) (d : FuncData) (ps : List Str) (n : Nat) (ks : List Str) (g : {α : Type} → List α → List α → List α → List α) (dvs : List V) where
  mv : List Value
  h : KBn K d ps n ks (fun us ws => g us mv ws) (fun vs zs => g vs dvs zs)
/-- a def's defaults where some arguments are left out -/
structure DefB (K : PySem.W.Frag) (d : FuncData) (ps : List Str) (dvs : List V) where
  ds : List Value
  v : Vals dvs ds
  b : Binds K d ps ds
structure IntAt (mg : Str → Option Value) (x : Str) (i : Int) where
  t : Tok
  g : mg x = some (.int i t)
structure StrAt (mg : Str → Option Value) (x : Str) (z : Str) where
  t : Tok
  g : mg x = some (.str z t)
structure TupAt (K : PySem.W.Frag) (mg : Str → Option Value) (x : Str) (vs : List V) where
  a : Addr
  g : mg x = some (.ref a)
  t : ∀ H, SqT K H a vs
/-- an own exception class without own __init__ -/
structure ExcAt (K : PySem.W.Frag) (mg : Str → Option Value) (x : Str) where
  C : Addr
  g : mg x = some (.ref C)
  x : PySem.W.excIn K C [.type "ValueError", .type "Exception", .type "BaseException", .type "object"] "ValueError.__new__" = true
  k : PySem.W.keepIn K (.ref C) = true
  b : PySem.W.subIn K (.ref C) (.type "BaseException") = some true
  t : PySem.W.typeIn K (.ref C) = some (.type "type")
/-! ### a step's summary of one's own -/
theorem PSs.mid {X : Cx} {ss : List Stmt} {t t' : TS} (h : PSs X ss t) (k : ∀ D σ H, t' D σ H → t D σ H) : PSs X ss t' := ⟨fun pins s σ H D I q => h.run pins s σ H D I (k D σ H q)⟩
theorem PS.mid {X : Cx} {ss : Stmt} {t t' : TS} (h : PS X ss t) (k : ∀ D σ H, t' D σ H → t D σ H) : PS X ss t' := ⟨fun pins s σ H D I q => h.run pins s σ H D I (k D σ H q)⟩
theorem PE.mid {X : Cx} {e : Expr} {t t' : TE} (h : PE X e t) (k : ∀ σ H Q, t' σ H Q → t σ H Q) : PE X e t' := ⟨fun pins s σ H Q I q => h.run pins s σ H Q I (k σ H Q q)⟩
theorem PT.mid {X : Cx} {e : Expr} {t t' : TT} (h : PT X e t) (k : ∀ σ H Q, t' σ H Q → t σ H Q) : PT X e t' := ⟨fun pins s σ H Q I q => h.run pins s σ H Q I (k σ H Q q)⟩
/-! ### texts: a list of signs -/
def S (l : List Nat) : Str := ⟨l.toArray⟩
theorem S_len (l : List Nat) : (S l).length = l.length := by simp [S, Str.length]
theorem S_cps (l : List Nat) : (S l).cps.toList = l := by simp [S]
theorem S_inj {a b : List Nat} : S a = S b ↔ a = b := by
  constructor
  · intro h
    have := congrArg (fun z => Str.cps z |>.toList) h
    simpa [S] using this
  · intro h; rw [h]
theorem S_app (a b : List Nat) : S a ++ S b = S (a ++ b) := by
  show Str.append (S a) (S b) = S (a ++ b)
  simp [Str.append, S]
theorem S_of (z : Str) : z = S z.cps.toList := by
  cases z; simp [S]
theorem S_sl (l : List Nat) (lo hi : Option Int) : cutS (S l) lo hi = S ((l.drop (HT.sIx l.length 0 lo)).take (HT.sIx l.length l.length hi - HT.sIx l.length 0 lo)) := by
  unfold cutS
  rw [S_len, S_cps]
  all_goals rfl
/-- one text times a number -/
def rMulS : R2 := fun x y H Q => ∃ z i, x = .str z ∧ y = .int i ∧ z.length = 1 ∧ -1000000 < i ∧ i < 1000000 ∧ Q (.str (S (List.replicate i.toNat (z.cps.toList.headD 0)))) H
theorem rep_one (c n : Nat) : (List.replicate n (#[c] : Array Nat)).foldl (· ++ ·) #[] = (List.replicate n c).toArray := by
  have : ∀ (a : Array Nat), (List.replicate n (#[c] : Array Nat)).foldl (· ++ ·) a = a ++ (List.replicate n c).toArray := by
    induction n with
    | zero => intro a; simp
    | succ n ih =>
      intro a
      rw [List.replicate_succ, List.foldl_cons, ih, List.replicate_succ]
      apply Array.ext'
      simp
  rw [this]; simp
theorem op_mul_str {X : Cx} : OpR X (binaryOp .Mult) rMulS := by
  intro pins s σ H x y v u Q I rx ry h
  obtain ⟨z, i, rfl, rfl, h1, lo, hi, q⟩ := h
  obtain ⟨t, rfl⟩ := rx
  obtain ⟨t', rfl⟩ := ry
  obtain ⟨c, hc⟩ : ∃ c, z = S [c] := by
    obtain ⟨⟨l⟩⟩ := z
    match l, h1 with
    | [c], _ => exact ⟨c, rfl⟩
  subst hc
  have e1 : (S [c]).length = 1 := rfl
  have hd : (S [c]).cps.toList.headD 0 = c := rfl
  rw [hd] at q
  refine PySem.P.mul_str ?_ ?_ ?_ ?_
  · rw [decide_eq_false (by omega), decide_eq_false (by omega)]; rfl
  · intro a b
    rw [e1]
    have : (1 : Int) ≤ (2 ^ 63 - 1) / i := by
      apply Int.le_ediv_of_mul_le (by omega)
      omega
    omega
  · intro a b
    rw [e1, Nat.one_mul]
    unfold PySem.Builtin.Str.tooLong
    first
      | (simp only [sizeLine_eq, decide_eq_false_iff_not]; omega)
      | (rw [decide_eq_false]; have := sizeLine_eq; omega)
  · by_cases h0 : i < 1
    · rw [if_pos h0]
      have e : i.toNat = 0 := by omega
      rw [e] at q
      exact ⟨by decide, ⟨.str (S []), H, I.tok _, ⟨_, rfl⟩, q⟩⟩
    · rw [if_neg h0]
      by_cases h2 : i = 1
      · subst h2
        rw [if_pos (by rfl)]
        exact ⟨.str (S [c]), H, I.tok _, ⟨_, rfl⟩, q⟩
      · have e2 : (i == 1 || (S [c]).length == 0) = false := by
          rw [e1]
          simp [h2]
        rw [if_neg (by rw [e2]; decide)]
        have e3 : (⟨(List.replicate i.toNat (S [c]).cps).foldl (· ++ ·) #[]⟩ : Str) = S (List.replicate i.toNat c) := by
          show (⟨(List.replicate i.toNat (#[c] : Array Nat)).foldl (· ++ ·) #[]⟩ : Str) = S (List.replicate i.toNat c)
          rw [rep_one]
          all_goals rfl
        rw [e3]
        refine ⟨?_, ⟨.str (S (List.replicate i.toNat c)), H, I.tok _, ⟨_, rfl⟩, q⟩⟩
        rw [S_len, List.length_replicate, sizeLine_eq]
        omega

/-! ### one step of a reading -/
theorem iteD {c A B : Prop} [Decidable c] (h1 : c → A) (h2 : ¬ c → B) : if decide c = true then A else B := by
  by_cases h : c
  · rw [decide_eq_true h, if_pos rfl]; exact h1 h
  · rw [decide_eq_false h, if_neg Bool.false_ne_true]; exact h2 h
theorem iteN {c A B : Prop} [Decidable c] (h1 : ¬ c → A) (h2 : c → B) : if (!decide c) = true then A else B := by
  by_cases h : c
  · rw [decide_eq_true h]; exact iteF (h2 h)
  · rw [decide_eq_false h]; exact iteT (h1 h)
theorem iteB {c : Bool} {A B : Prop} (h1 : c = true → A) (h2 : c = false → B) : if c = true then A else B := by
  cases c with
  | true => exact iteT (h1 rfl)
  | false => exact iteF (h2 rfl)
theorem iteNB {c : Bool} {A B : Prop} (h1 : c = false → A) (h2 : c = true → B) : if (!c) = true then A else B := by
  cases c with
  | true => exact iteF (h2 rfl)
  | false => exact iteT (h1 rfl)
/-! ### heaps -/
theorem same_new {H : Hp} {p : Addr} {o : HO} (h : H p = none) : Same H (upd H p o) := fun b x e => by
  rw [upd_ne (ne_of_none e h)]; exact e
theorem sql_same {K : PySem.W.Frag} {H H' : Hp} {a : Addr} {xs : List V} (h : SqL K H a xs) (e : Same H H') : SqL K H' a xs := e.seq h
theorem sqt_same {K : PySem.W.Frag} {H H' : Hp} {a : Addr} {xs : List V} (h : SqT K H a xs) (e : Same H H') : SqT K H' a xs := by
  rcases h with (h | ⟨o, h⟩) | h
  · exact .inl (.inl (e _ _ h))
  · exact .inl (.inr ⟨o, e _ _ h⟩)
  · exact .inr h
mutual
theorem dp_same {K : PySem.W.Frag} {H H' : Hp} (e : Same H H') : ∀ {x : V} {d : PyData}, Dp K H x d → Dp K H' x d
  | _, _, .non => .non
  | _, _, .bl b => .bl b
  | _, _, .int i => .int i
  | _, _, .str x => .str x
  | _, _, .lst h k => .lst (sql_same h e) (dpAll_same e k)
  | _, _, .tup h k => .tup (sqt_same h e) (dpAll_same e k)
theorem dpAll_same {K : PySem.W.Frag} {H H' : Hp} (e : Same H H') : ∀ {xs : List V} {ds : List PyData}, DpAll K H xs ds → DpAll K H' xs ds
  | _, _, .nil => .nil
  | _, _, .cons h k => .cons (dp_same e h) (dpAll_same e k)
end
theorem dp_ints {K : PySem.W.Frag} {H : Hp} : ∀ ns : List Int, DpAll K H (ns.map V.int) (ns.map Datum.toD)
  | [] => .nil
  | n :: r => .cons (.int n) (dp_ints r)
theorem dp_strs {K : PySem.W.Frag} {H : Hp} : ∀ ns : List Str, DpAll K H (ns.map V.str) (ns.map Datum.toD)
  | [] => .nil
  | n :: r => .cons (.str n) (dp_strs r)
theorem dp_intsL {K : PySem.W.Frag} {H : Hp} {a : Addr} {ns : List Int} (h : SqL K H a (ns.map V.int)) : Dp K H (.ref a) (Datum.toD ns) := .lst h (dp_ints ns)
theorem dp_strsL {K : PySem.W.Frag} {H : Hp} {a : Addr} {ns : List Str} (h : SqL K H a (ns.map V.str)) : Dp K H (.ref a) (Datum.toD ns) := .lst h (dp_strs ns)
def rEqP (K : PySem.W.Frag) : R2 := fun x y H Q => ∃ d e, Dp K H x d ∧ Dp K H y e ∧ d.plain = true ∧ e.plain = true ∧ d.depth ≤ 60 ∧ Q (.bl (PyData.eqv d e)) H
def rNeP (K : PySem.W.Frag) : R2 := fun x y H Q => ∃ d e, Dp K H x d ∧ Dp K H y e ∧ d.plain = true ∧ e.plain = true ∧ d.depth ≤ 60 ∧ Q (.bl (!PyData.eqv d e)) H
theorem op_eqP {X : Cx} (hu : X.A.units + 64 < cLine) : OpR X (compareOp .Eq) (rEqP X.K) := by
  intro pins s σ H x y v u Q I rx ry h
  obtain ⟨d, e, hd, he, sd, se, hp, q⟩ := h
  obtain ⟨as, r1⟩ := Dp.reads I d x v hd rx
  obtain ⟨bs, r2⟩ := Dp.reads I e y u he ry
  exact SeqAt.eq_plain r1 r2 sd se (by omega) ⟨.bl _, H, I, rfl, q⟩
theorem op_neP {X : Cx} (hu : X.A.units + 64 < cLine) : OpR X (compareOp .NotEq) (rNeP X.K) := by
  intro pins s σ H x y v u Q I rx ry h
  obtain ⟨d, e, hd, he, sd, se, hp, q⟩ := h
  obtain ⟨as, r1⟩ := Dp.reads I d x v hd rx
  obtain ⟨bs, r2⟩ := Dp.reads I e y u he ry
  exact SeqAt.ne_plain r1 r2 sd se (by omega) ⟨.bl _, H, I, rfl, q⟩
theorem rEqP_of {α : Type} [DecidableEq α] [Datum α] {K : PySem.W.Frag} {H : Hp} {x y : V} {a b : α} {Q : VK} (hx : Dp K H x (Datum.toD a)) (hy : Dp K H y (Datum.toD b)) (q : Q (.bl (decide (a = b))) H) (hd : Datum.depth α ≤ 60 := by decide) : rEqP K x y H Q :=
  ⟨_, _, hx, hy, Datum.plain a, Datum.plain b, Nat.le_trans (Datum.depth_le a) hd, by rw [Datum.eqv]; exact q⟩
theorem rNeP_of {α : Type} [DecidableEq α] [Datum α] {K : PySem.W.Frag} {H : Hp} {x y : V} {a b : α} {Q : VK} (hx : Dp K H x (Datum.toD a)) (hy : Dp K H y (Datum.toD b)) (q : Q (.bl (!decide (a = b))) H) (hd : Datum.depth α ≤ 60 := by decide) : rNeP K x y H Q :=
  ⟨_, _, hx, hy, Datum.plain a, Datum.plain b, Nat.le_trans (Datum.depth_le a) hd, by rw [Datum.eqv]; exact q⟩

theorem sz {n : Nat} (h : n ≤ 16777216) : n ≤ sizeLine := by rw [sizeLine_eq]; exact h
theorem szl {n : Nat} (h : n < 16777216) : n < sizeLine := by rw [sizeLine_eq]; exact h
/-! ### what kind a value is -/
inductive Pl (K : PySem.W.Frag) (H : Hp) : V → String → Prop
  | non : Pl K H .non "NoneType"
  | bl (b : Bool) : Pl K H (.bl b) "bool"
  | int (i : Int) : Pl K H (.int i) "int"
  | str (z : Str) : Pl K H (.str z) "str"
  | lst {a : Addr} {xs : List V} (h : SqL K H a xs) : Pl K H (.ref a) "list"
  | tup {a : Addr} {xs : List V} (h : SqT K H a xs) : Pl K H (.ref a) "tuple"
  | dct {a : Addr} {kvs : List (Key × V)} (h : H a = some (.dK kvs)) : Pl K H (.ref a) "dict"
theorem Pl.ty {K : PySem.W.Frag} {H : Hp} {x : V} {n : String} (h : Pl K H x n) : TyX K H x (.type n) := by
  cases h with
  | non => exact .base .non
  | bl b => exact .base (.bl b)
  | int i => exact .base (.int i)
  | str z => exact .base (.str z)
  | lst h =>
    rcases h with (h | ⟨o, h⟩) | ⟨o, its, m, hk, hc, _⟩
    · exact .base (.lst h)
    · exact .base (.frz h)
    · exact .kList hk hc
  | tup h =>
    rcases h with (h | ⟨o, h⟩) | ⟨o, its, m, hk, hc, _⟩
    · exact .base (.tup h)
    · exact .fTuple h
    · exact .kTuple hk hc
  | dct h => exact .base (.dK h)
theorem Pl.same {K : PySem.W.Frag} {H H' : Hp} {x : V} {n : String} (h : Pl K H x n) (e : Same H H') : Pl K H' x n := by
  cases h with
  | non => exact .non
  | bl b => exact .bl b
  | int i => exact .int i
  | str z => exact .str z
  | lst h => exact .lst (sql_same h e)
  | tup h => exact .tup (sqt_same h e)
  | dct h => exact .dct (e _ _ h)
theorem kit_int {K : PySem.W.Frag} {H : Hp} {x : V} {n : String} (h : Pl K H x n) : PySem.W.kitOne K (.type n) (.type "int") = some (n == "int" || n == "bool") := by
  cases h <;> exact kit_ty (by decide +kernel)
theorem kit_bool {K : PySem.W.Frag} {H : Hp} {x : V} {n : String} (h : Pl K H x n) : PySem.W.kitOne K (.type n) (.type "bool") = some (n == "bool") := by
  cases h <;> exact kit_ty (by decide +kernel)
theorem kit_str {K : PySem.W.Frag} {H : Hp} {x : V} {n : String} (h : Pl K H x n) : PySem.W.kitOne K (.type n) (.type "str") = some (n == "str") := by
  cases h <;> exact kit_ty (by decide +kernel)
theorem kit_list {K : PySem.W.Frag} {H : Hp} {x : V} {n : String} (h : Pl K H x n) : PySem.W.kitOne K (.type n) (.type "list") = some (n == "list") := by
  cases h <;> exact kit_ty (by decide +kernel)
theorem kit_tuple {K : PySem.W.Frag} {H : Hp} {x : V} {n : String} (h : Pl K H x n) : PySem.W.kitOne K (.type n) (.type "tuple") = some (n == "tuple") := by
  cases h <;> exact kit_ty (by decide +kernel)
/-! ### comprehensions whose items are told -/
theorem lc_map {J : It} {n : Nat} {G : Hp → Prop} {Y : Nat → Hp → V → Hp → Prop} (w : Walk J n G Y) {g : TG} {te : TE} {vs : List Nat} {σ : L2.St} {H1 : Hp} {D : Addr} {Qd : Hp → Prop} (ys : List V) (len : ys.length = n) (hn : n < 16777216) (nD : H1 D = none)
    (hY : ∀ i H x H', Y i H x H' → Same H H') (hG : ∀ H, Same H1 H → G H)
    (hs : ∀ i x H H' y, i < n → ys[i]? = some y → Same H1 H → Same H1 H' → Y i H x H' → ∀ Q : VK, (∀ H2, Same H' H2 → Q y H2) → g x (wipe σ vs) H' fun σ2 H2 => wipe σ2 vs = wipe σ vs ∧ te σ2 H2 Q)
    (hd : ∀ H, Same H1 H → H D = some (.lst ys) → Qd H)
    (hg : ∀ x σ H (R R' : L2.St → Hp → Prop), (∀ σ2 H2, R σ2 H2 → R' σ2 H2) → g x σ H R → g x σ H R') :
    ∃ W : Nat → Nat → Hp → Prop, (∃ m, W 0 m (upd H1 D (.lst []))) ∧ ∀ i m H, W i m H →
      (J.stop i H ∧ Qd H) ∨ (J.go i H ∧ ∃ Nx : Hp → Prop, (∀ H', Nx H' → ∃ m', m' < m ∧ W (i + 1) m' H') ∧ ∀ x H', J.yld i H x H' → g x (wipe σ vs) H' fun σ2 H2 => wipe σ2 vs = wipe σ vs ∧ tYes σ2 H2 fun b H3 =>
        if b = true then te σ2 H3 fun y H4 => ∃ acc, H4 D = some (.lst acc) ∧ acc.length < sizeLine ∧ Nx (upd H4 D (.lst (acc ++ [y]))) else Nx H3) := by
  refine lc_it w (fun i H => Same H1 H ∧ H D = some (.lst (ys.take i))) ⟨same_new nD, upd_same⟩ (fun i H _ p => hG H p.1) (fun i x H H' hi p y => ?_) (fun H p => hd H p.1 (by rw [← len, List.take_length] at p; exact p.2))
  have hi2 : i < ys.length := by omega
  have sH' := hY _ _ _ _ y
  refine hg _ _ _ _ _ (fun σ2 H2 z => z) (hs i x H H' ys[i] hi (List.getElem?_eq_getElem hi2) p.1 (p.1.trans sH') y _ fun H2 s2 => ?_)
  have hD2 : H2 D = some (.lst (ys.take i)) := s2 _ _ (sH' _ _ p.2)
  refine ⟨ys.take i, hD2, szl (by rw [List.length_take]; omega), ?_, ?_⟩
  · intro b o hb
    rw [upd_ne (ne_of_none hb nD)]
    exact s2 _ _ (sH' _ _ (p.1 _ _ hb))
  · rw [upd_same, List.take_add_one, List.getElem?_eq_getElem hi2]
    all_goals rfl
theorem gName_mono {i : Nat} : ∀ x σ H (R R' : L2.St → Hp → Prop), (∀ σ2 H2, R σ2 H2 → R' σ2 H2) → gName i x σ H R → gName i x σ H R' := fun _ _ _ _ _ h k => h _ _ k
theorem gTup2_mono {K : PySem.W.Frag} {i j : Nat} : ∀ x σ H (R R' : L2.St → Hp → Prop), (∀ σ2 H2, R σ2 H2 → R' σ2 H2) → gTup K 2 (gCons (gName i) (gCons (gName j) gNil)) x σ H R → gTup K 2 (gCons (gName i) (gCons (gName j) gNil)) x σ H R' := by
  intro x σ H R R' h ⟨a, xs, e1, e2, e3, v, r, e4, v2, r2, e5, e6, k⟩
  exact ⟨a, xs, e1, e2, e3, v, r, e4, v2, r2, e5, e6, h _ _ k⟩
theorem yat_same {xs : List V} : ∀ i H x H', YAt xs i H x H' → Same H H' := fun _ _ _ _ h => by rw [h.1]; exact Same.refl _
theorem ystr_same {z : Str} : ∀ (i : Nat) (H : Hp) (v : V) (H' : Hp), (H' = H ∧ ∃ c, z.cps[i]? = some c ∧ v = V.str ⟨#[c]⟩) → Same H H' := fun _ _ _ _ h => by rw [h.1]; exact Same.refl _
theorem yfn_same {f : Nat → V} : ∀ i H x H', YFn f i H x H' → Same H H' := fun _ _ _ _ h => by rw [h.1]; exact Same.refl _
theorem ypair_same {xs ys : Nat → Option V} : ∀ i H x H', YPair xs ys i H x H' → Same H H' := fun i H x H' h => by
  obtain ⟨T, a, b, _, h1, h2, _⟩ := h
  rw [h2]; exact same_new h1
theorem walk_zipT {K : PySem.W.Frag} {a b : Addr} {xs ys : List V} {n : Nat} (hn : n = min xs.length ys.length) : Walk (ItzT K a b) n (fun H => SqT K H a xs ∧ SqT K H b ys) (YPair (fun i => xs[i]?) (fun i => ys[i]?)) := by
  subst hn
  refine ⟨fun i _ hi q => ?_, fun _ q => ⟨xs, ys, q.1, q.2, by omega⟩, fun i H v H' _ q y => ?_⟩
  · have h1 : i < xs.length := by omega
    have h2 : i < ys.length := by omega
    exact ⟨xs, ys, xs[i], ys[i], q.1, q.2, by simp [h1], by simp [h2]⟩
  · obtain ⟨T, x, z, h1, h2, h3, h4, h5⟩ := y
    exact ⟨T, x, z, h1, h2, h3, h4 xs q.1, h5 ys q.2⟩
/-- [test of the sign for sign in a text] -/
theorem lc_signs {z : Str} {te : TE} {vs : List Nat} {σ : L2.St} {H1 : Hp} {D : Addr} {Qd : Hp → Prop} {i : Nat} (f : Nat → Bool) (hz : z.length < 16777216) (nD : H1 D = none)
    (hw : ∀ c, wipe ((wipe σ vs).set i (some (.str (S [c])))) vs = wipe σ vs)
    (hs : ∀ c H, c ∈ z.cps.toList → Same H1 H → ∀ Q : VK, (∀ H2, Same H H2 → Q (.bl (f c)) H2) → te ((wipe σ vs).set i (some (.str (S [c])))) H Q)
    (hd : ∀ H, Same H1 H → H D = some (.lst ((z.cps.toList.map f).map V.bl)) → Qd H) :
    ∃ W : Nat → Nat → Hp → Prop, (∃ m, W 0 m (upd H1 D (.lst []))) ∧ ∀ i' m H, W i' m H →
      ((Its z).stop i' H ∧ Qd H) ∨ ((Its z).go i' H ∧ ∃ Nx : Hp → Prop, (∀ H', Nx H' → ∃ m', m' < m ∧ W (i' + 1) m' H') ∧ ∀ x H', (Its z).yld i' H x H' → (gName i) x (wipe σ vs) H' fun σ2 H2 => wipe σ2 vs = wipe σ vs ∧ tYes σ2 H2 fun b H3 =>
        if b = true then te σ2 H3 fun y H4 => ∃ acc, H4 D = some (.lst acc) ∧ acc.length < sizeLine ∧ Nx (upd H4 D (.lst (acc ++ [y]))) else Nx H3) := by
  refine lc_map walk_str ((z.cps.toList.map f).map V.bl) (by simp) hz nD ystr_same (fun _ _ => trivial) (fun j x H H' y hj hy s1 s1' hY Q q => ?_) hd gName_mono
  obtain ⟨rfl, c, hc, rfl⟩ := hY
  have hc2 : z.cps.toList[j]? = some c := by rw [← hc]; simp
  have ey : y = .bl (f c) := by
    rw [List.getElem?_map, List.getElem?_map, hc2] at hy
    exact (Option.some.inj hy).symm
  subst ey
  exact ⟨hw c, hs c H' (List.mem_of_getElem? hc2) s1' Q q⟩
/-- sum of a tuple of whole numbers -/
def rSumT (K : PySem.W.Frag) : List V → Hp → VK → Prop := fun vs H Q => ∃ (a : Addr) (ns : List Int), vs = [V.ref a] ∧ SqT K H a (ns.map V.int) ∧ Q (.int ns.sum) H
theorem cr_sumT {X : Cx} (hc : X.calm = true) : CallR X (.builtin "sum") (rSumT X.K) := by
  intro pins s σ H vs us Q I r h
  obtain ⟨a, ns, rfl, hs, q⟩ := h
  obtain ⟨its, rv, hl, _⟩ := I.tuple hs
  rw [Vals.ref1 r]
  have hi : IntsAre its ns := rv.ints
  obtain ⟨xs, hx⟩ := hi.allInts.items
  have hn : numsOf its.toArray.toList = ns := by rw [show its.toArray.toList = its from rfl, hi.numsOf]
  rw [hx] at hl hn
  rw [nums_intItems] at hn
  refine PySem.W.ktm_sumG (I.ok.hd hc) hl fun h' tk t' hk => ?_
  rw [preSum_eq, List.take_of_length_le (by simp), hn]
  exact ⟨.int _, H, I.kept hk, ⟨_, rfl⟩, q⟩
end R
set_option maxRecDepth 100000
set_option maxHeartbeats 4000000
namespace R
open PySem PySem.Spec PyProof.Rows L2 RZ
open PySem.W (Datum)
open PySem.NumText
/-! ### numbers in figures -/
def dig (n : Nat) : List Nat := (Nat.toDigits 10 n).map Char.toNat
theorem dig_str (n : Nat) : Str.ofString (toString ((n : Nat) : Int)) = S (dig n) := by
  rw [S_of (Str.ofString _), PySem.W.KIN.signs_num]
  all_goals rfl
theorem dig_lt {n : Nat} (h : n < 10) : dig n = [48 + n] := by
  unfold dig
  rw [Nat.toDigits_of_lt_base h]
  have : ∀ n, n < 10 → (Nat.digitChar n).toNat = 48 + n := by decide
  rw [List.map_cons, this n h, List.map_nil]
theorem dig_step {n : Nat} (h : 10 ≤ n) : dig n = dig (n / 10) ++ [48 + n % 10] := by
  have hm : n % 10 < 10 := Nat.mod_lt n (by decide)
  have t : Nat.toDigits 10 (n / 10) ++ Nat.toDigits 10 (n % 10) = Nat.toDigits 10 (10 * (n / 10) + n % 10) := Nat.toDigits_append_toDigits (by decide) (by omega) hm
  rw [Nat.div_add_mod] at t
  have e := dig_lt hm
  unfold dig at e ⊢
  rw [← t, List.map_append, e]
theorem dig_len : ∀ (k n : Nat), n < 10 ^ (k + 1) → (dig n).length ≤ k + 1
  | 0, n, h => by rw [dig_lt (by simpa using h)]; exact Nat.le_refl _
  | k + 1, n, h => by
    by_cases h10 : n < 10
    · rw [dig_lt h10]; simp
    · rw [dig_step (by omega), List.length_append]
      have : n / 10 < 10 ^ (k + 1) := by
        rw [Nat.pow_succ] at h
        omega
      have := dig_len k (n / 10) this
      simp only [List.length_cons, List.length_nil]
      omega
theorem dig_pos : ∀ n : Nat, 1 ≤ (dig n).length := fun n => by
  by_cases h : n < 10
  · rw [dig_lt h]; exact Nat.le_refl _
  · rw [dig_step (by omega), List.length_append]; simp
theorem dig_all (n : Nat) : ∀ c ∈ dig n, 48 ≤ c ∧ c ≤ 57 := by
  induction n using Nat.strongRecOn with
  | _ n ih =>
    intro c hc
    by_cases h : n < 10
    · rw [dig_lt h, List.mem_singleton] at hc; omega
    · rw [dig_step (by omega), List.mem_append, List.mem_singleton] at hc
      rcases hc with hc | hc
      · exact ih (n / 10) (by omega) c hc
      · omega
theorem dv_snoc (l : List Nat) (c : Nat) : digitsVal (l ++ [c]) = digitsVal l * 10 + (c - 48) := by
  unfold digitsVal
  rw [List.foldl_append]
  all_goals rfl
theorem dig_val (n : Nat) : digitsVal (dig n) = n := PySem.W.KIN.val_back n
theorem dv_zeros : ∀ (k : Nat) (l : List Nat), digitsVal (List.replicate k 48 ++ l) = digitsVal l
  | 0, l => by simp
  | k + 1, l => by
    have := dv_zeros k l
    rw [List.replicate_succ, List.cons_append]
    unfold digitsVal at this ⊢
    rw [List.foldl_cons]
    exact this
/-- a number with so many figures -/
def fig (n m : Nat) : List Nat := List.replicate (m - (dig n).length) 48 ++ dig n
theorem fig_len {n m : Nat} (hm : 1 ≤ m) (h : n < 10 ^ m) : (fig n m).length = m := by
  obtain ⟨k, rfl⟩ : ∃ k, m = k + 1 := ⟨m - 1, by omega⟩
  have := dig_len k n h
  unfold fig
  rw [List.length_append, List.length_replicate]
  omega
theorem fig_all (n m : Nat) : ∀ c ∈ fig n m, 48 ≤ c ∧ c ≤ 57 := by
  intro c hc
  unfold fig at hc
  rw [List.mem_append, List.mem_replicate] at hc
  rcases hc with ⟨_, rfl⟩ | hc
  · decide
  · exact dig_all n c hc
theorem fig_val (n m : Nat) : digitsVal (fig n m) = n := by
  unfold fig
  rw [dv_zeros, dig_val]
theorem int_fig {l : List Nat} (h : ∀ c ∈ l, 48 ≤ c ∧ c ≤ 57) (h0 : l ≠ []) (h2 : l.length ≤ 600) : PySem.intText? (S l) = some ((digitsVal l : Nat) : Int) := by
  have e := @intText_digits (S l) (by rw [S_cps]; exact h) (by rw [S_cps]; exact h0) (by rw [S_len]; omega)
  rw [S_cps] at e
  exact e
/-- a name with blanks behind -/
def pad (l : List Nat) (m : Nat) : List Nat := l ++ List.replicate (m - l.length) 32
theorem pad_len {l : List Nat} {m : Nat} (h : l.length ≤ m) : (pad l m).length = m := by
  unfold pad
  rw [List.length_append, List.length_replicate]
  omega
/-- the blanks behind are taken off -/
def bareL (l : List Nat) : List Nat := (l.reverse.dropWhile (· == 32)).reverse
theorem bare_pad {l : List Nat} (m : Nat) (h : ∀ c ∈ l, c ≠ 32) : bareL (pad l m) = l := by
  unfold bareL pad
  rw [List.reverse_append, List.reverse_replicate]
  have h1 : ∀ (k : Nat) (r : List Nat), (∀ c ∈ r, c ≠ 32) → (List.replicate k 32 ++ r).dropWhile (· == 32) = r := by
    intro k
    induction k with
    | zero =>
      intro r hr
      cases r with
      | nil => rfl
      | cons x q =>
        have : x ≠ 32 := hr x List.mem_cons_self
        rw [List.replicate_zero, List.nil_append, List.dropWhile_cons_of_neg]
        simpa using this
    | succ k ih =>
      intro r hr
      rw [List.replicate_succ, List.cons_append, List.dropWhile_cons_of_pos (by decide)]
      exact ih r hr
  rw [h1 _ _ fun c hc => h c (List.mem_reverse.mp hc), List.reverse_reverse]
theorem bare_step {l : List Nat} (h : l.drop (l.length - 1) = [32]) : bareL l.dropLast = bareL l ∧ l.dropLast.length < l.length := by
  rcases List.eq_nil_or_concat l with rfl | ⟨i, c, rfl⟩
  · simp at h
  · rw [List.concat_eq_append] at h ⊢
    rw [show (i ++ [c]).length - 1 = i.length by simp, List.drop_left] at h
    cases h
    constructor
    · unfold bareL
      rw [List.dropLast_concat, List.reverse_append]
      show _ = (((32 : Nat) :: i.reverse).dropWhile (· == 32)).reverse
      rw [List.dropWhile_cons_of_pos (by decide)]
    · simp
theorem bare_stop {l : List Nat} (h : ¬ l.drop (l.length - 1) = [32]) : bareL l = l := by
  rcases List.eq_nil_or_concat l with rfl | ⟨i, c, rfl⟩
  · rfl
  · rw [List.concat_eq_append] at h ⊢
    rw [show (i ++ [c]).length - 1 = i.length by simp, List.drop_left] at h
    unfold bareL
    rw [List.reverse_append]
    show (((c : Nat) :: i.reverse).dropWhile (· == 32)).reverse = _
    rw [List.dropWhile_cons_of_neg (by simpa using h)]
    simp
theorem bare_len (l : List Nat) : (bareL l).length ≤ l.length := by
  unfold bareL
  rw [List.length_reverse]
  exact Nat.le_trans (List.Sublist.length_le (List.dropWhile_sublist _)) (by simp)
/-! ### labels -/
def longs : List Nat := [4, 4, 4, 2, 5, 5, 6]
def mosts : List Nat := [9999, 9999, 9999, 99, 99999, 99999, 999999]
def volLab (a b : List Nat) : List Nat := [86, 79, 76, 49] ++ pad a 6 ++ pad b 8
def numsLab (ns : List Nat) : List Nat := ((ns.zip longs).map fun p => fig p.1 p.2).flatten
def fileLab (k n f : List Nat) (ns : List Nat) : List Nat := k ++ pad n 8 ++ pad f 6 ++ numsLab ns
def formLab (l : List Nat) (b s : Nat) : List Nat := [72, 68, 82, 50] ++ l ++ fig b 3 ++ fig s 3
end R
set_option maxRecDepth 100000
set_option maxHeartbeats 4000000
namespace R
set_option exponentiation.threshold 2000
open PySem PySem.Spec PyProof.Rows L2 RZ
open PySem.W (Datum)
/-! ### the rules of texts, said of lists of signs -/
/-- a slice of a list of signs -/
def sl {α : Type} (l : List α) (lo hi : Option Int) : List α := (l.drop (HT.sIx l.length 0 lo)).take (HT.sIx l.length l.length hi - HT.sIx l.length 0 lo)
theorem sl_to {α : Type} (l : List α) (k : Nat) : sl l none (some (k : Int)) = l.take k := by
  unfold sl
  rw [HT.sIx_none, HT.sIx_nat, List.drop_zero, Nat.sub_zero]
  by_cases h : k ≤ l.length
  · rw [Nat.min_eq_left h]
  · rw [Nat.min_eq_right (by omega), List.take_length, List.take_of_length_le (by omega)]
theorem sl_from {α : Type} (l : List α) (k : Nat) : sl l (some (k : Int)) none = l.drop k := by
  unfold sl
  rw [HT.sIx_none, HT.sIx_nat]
  by_cases h : k ≤ l.length
  · rw [Nat.min_eq_left h, List.take_of_length_le (by rw [List.length_drop]; exact Nat.le_refl _)]
  · rw [Nat.min_eq_right (by omega), List.drop_length, List.drop_eq_nil_of_le (by omega), List.take_nil]
theorem sl_mid {α : Type} (l : List α) (j k : Nat) : sl l (some (j : Int)) (some (k : Int)) = (l.take k).drop j := by
  unfold sl
  rw [HT.sIx_nat, HT.sIx_nat, List.drop_take]
  by_cases hj : j ≤ l.length
  · rw [Nat.min_eq_left hj]
    by_cases hk : k ≤ l.length
    · rw [Nat.min_eq_left hk]
    · rw [show min k l.length = l.length by omega, List.take_of_length_le (by rw [List.length_drop]; omega), List.take_of_length_le (by rw [List.length_drop]; omega)]
  · rw [show min j l.length = l.length by omega, List.drop_length, List.drop_eq_nil_of_le (by omega), List.take_nil, List.take_nil]
theorem sl_all {α : Type} (l : List α) : sl l none none = l := by
  unfold sl
  rw [HT.sIx_none, HT.sIx_none, List.drop_zero, Nat.sub_zero, List.take_length]
theorem sl_last {α : Type} (l : List α) : sl l (some (-1)) none = l.drop (l.length - 1) := by
  unfold sl
  rw [HT.sIx_none]
  have e : HT.sIx l.length 0 (some (-1)) = l.length - 1 := by
    show (if (-1 : Int) < 0 then ((-1 : Int) + (l.length : Int)).toNat else min (-1 : Int).toNat l.length) = _
    rw [if_pos (by decide)]
    omega
  rw [e, List.take_of_length_le (by rw [List.length_drop]; omega)]
theorem sl_but {α : Type} (l : List α) : sl l none (some (-1)) = l.dropLast := by
  unfold sl
  rw [HT.sIx_none, List.drop_zero, Nat.sub_zero]
  have e : HT.sIx l.length l.length (some (-1)) = l.length - 1 := by
    show (if (-1 : Int) < 0 then ((-1 : Int) + (l.length : Int)).toNat else min (-1 : Int).toNat l.length) = _
    rw [if_pos (by decide)]
    omega
  rw [e, List.dropLast_eq_take]
theorem cutS_S (l : List Nat) (lo hi : Option Int) : cutS (S l) lo hi = S (sl l lo hi) := S_sl l lo hi
theorem sl_le {α : Type} (l : List α) (lo hi : Option Int) : (sl l lo hi).length ≤ l.length := by
  unfold sl
  rw [List.length_take, List.length_drop]
  omega
section
variable {X : Cx}
theorem pe_strS {x : Str} {l : List Nat} {j : Nat} {pos : Pos} (h : x = S l) : PE X (.Constant (.str x) j pos) (tC (.str (S l))) := by
  subst h; exact pe_str
def rAddS2 : R2 := fun x y H Q => ∃ a b : List Nat, x = .str (S a) ∧ y = .str (S b) ∧ a.length + b.length ≤ 16777216 ∧ Q (.str (S (a ++ b))) H
theorem op_addS : OpR X (binaryOp .Add) rAddS2 := fun pins s σ H x y v u Q I rx ry h => by
  obtain ⟨a, b, rfl, rfl, hz, q⟩ := h
  refine op_add_str pins s σ H _ _ v u Q I rx ry ⟨_, _, rfl, rfl, ?_, ?_⟩
  · rw [S_len, S_len]; exact sz hz
  · rw [S_app]; exact q
theorem ip_addS : PIp X .Add rAddS2 := fun pins s σ H x y v u Q I rx ry h => by
  obtain ⟨a, b, rfl, rfl, hz, q⟩ := h
  refine iop_add_str pins s σ H _ _ v u Q I rx ry ⟨_, _, rfl, rfl, ?_, ?_⟩
  · rw [S_len, S_len]; exact sz hz
  · rw [S_app]; exact q
def rMulS2 : R2 := fun x y H Q => ∃ (c : Nat) (i : Int), x = .str (S [c]) ∧ y = .int i ∧ -1000000 < i ∧ i < 1000000 ∧ Q (.str (S (List.replicate i.toNat c))) H
theorem op_mulS : OpR X (binaryOp .Mult) rMulS2 := fun pins s σ H x y v u Q I rx ry h => by
  obtain ⟨c, i, rfl, rfl, lo, hi, q⟩ := h
  exact op_mul_str pins s σ H _ _ v u Q I rx ry ⟨_, _, rfl, rfl, rfl, lo, hi, q⟩
def rLenS2 : List V → Hp → VK → Prop := fun xs H Q => ∃ l : List Nat, xs = [.str (S l)] ∧ l.length ≤ 16777216 ∧ Q (.int (l.length : Nat)) H
theorem call_lenS : CallR X (.builtin "len") rLenS2 := fun pins s σ H xs us Q I r h => by
  obtain ⟨l, rfl, hz, q⟩ := h
  refine call_len_str pins s σ H _ us Q I r ⟨_, rfl, ?_, ?_⟩
  · rw [S_len]; exact sz hz
  · rw [S_len]; exact q
def rStrN : List V → Hp → VK → Prop := fun xs H Q => ∃ n : Nat, xs = [.int (n : Int)] ∧ n < 10 ^ 10 ∧ Q (.str (S (dig n))) H
theorem call_strN : CallR X (.type "str") rStrN := fun pins s σ H xs us Q I r h => by
  obtain ⟨n, rfl, hn, q⟩ := h
  refine call_str_int pins s σ H _ us Q I r ⟨_, rfl, ?_, ?_⟩
  · have e : ((n : Int)).natAbs = n := rfl
    rw [e]
    by_cases h0 : n = 0
    · subst h0; decide
    · rw [Nat.log2_lt h0]
      exact Nat.lt_of_lt_of_le hn (Nat.le_trans (show 10 ^ 10 ≤ 2 ^ 64 by decide) (Nat.pow_le_pow_right (by decide : 0 < 2) (by decide : 64 ≤ 1920)))
  · have := dig_str n
    rw [← this] at q
    exact q
def rIntS : List V → Hp → VK → Prop := fun xs H Q => ∃ l : List Nat, xs = [.str (S l)] ∧ (∀ c ∈ l, 48 ≤ c ∧ c ≤ 57) ∧ l ≠ [] ∧ l.length ≤ 600 ∧ Q (.int (PySem.NumText.digitsVal l : Nat)) H
theorem call_intS : CallR X (.type "int") rIntS := fun pins s σ H xs us Q I r h => by
  obtain ⟨l, rfl, h1, h2, h3, q⟩ := h
  exact call_int_str pins s σ H _ us Q I r ⟨_, _, rfl, int_fig h1 h2 h3, by rw [S_len]; omega, q⟩
def rSlS2 : V → Option Int → Option Int → Hp → VK → Prop := fun x lo hi H Q => ∃ l : List Nat, x = .str (S l) ∧ l.length ≤ 16777216 ∧ Q (.str (S (sl l lo hi))) H
theorem sl_strS : SlR X rSlS2 := fun pins s σ H x v vl vu lo hi q0 Q I rx hs pl pu h => by
  obtain ⟨l, rfl, hz, q⟩ := h
  refine sl_str pins s σ H _ v vl vu lo hi q0 Q I rx hs pl pu ⟨_, rfl, ?_, ?_⟩
  · rw [S_len]; exact sz hz
  · rw [cutS_S]; exact q
def rInS2 (neg : Bool) : R2 := fun x y H Q => ∃ (c : Nat) (l : List Nat), x = .str (S [c]) ∧ y = .str (S l) ∧ Q (.bl (if neg then !decide (c ∈ l) else decide (c ∈ l))) H
theorem op_inS2 : OpR X (compareOp .In) (rInS2 false) := fun pins s σ H x y v u Q I rx ry h => by
  obtain ⟨c, l, rfl, rfl, q⟩ := h
  refine op_in_sign pins s σ H _ _ v u Q I rx ry ⟨c, S l, rfl, rfl, ?_⟩
  rw [S_cps]; exact q
theorem op_notInS2 : OpR X (compareOp .NotIn) (rInS2 true) := fun pins s σ H x y v u Q I rx ry h => by
  obtain ⟨c, l, rfl, rfl, q⟩ := h
  refine op_notIn_sign pins s σ H _ _ v u Q I rx ry ⟨c, S l, rfl, rfl, ?_⟩
  rw [S_cps]; exact q
def rEqS (neg : Bool) : R2 := fun x y H Q => ∃ a b : List Nat, x = .str (S a) ∧ y = .str (S b) ∧ Q (.bl (if neg then !decide (a = b) else decide (a = b))) H
theorem eqS_dec (a b : List Nat) : decide (V.str (S a) = V.str (S b)) = decide (a = b) := decide_eq_decide.mpr ⟨fun e => S_inj.mp (V.str.inj e), fun e => by rw [e]⟩
theorem op_eqS : OpR X (compareOp .Eq) (rEqS false) := fun pins s σ H x y v u Q I rx ry h => by
  obtain ⟨a, b, rfl, rfl, q⟩ := h
  refine op_eq pins s σ H _ _ v u Q I rx ry ⟨rfl, ?_⟩
  rw [eqS_dec]; exact q
theorem op_neS : OpR X (compareOp .NotEq) (rEqS true) := fun pins s σ H x y v u Q I rx ry h => by
  obtain ⟨a, b, rfl, rfl, q⟩ := h
  refine op_ne pins s σ H _ _ v u Q I rx ry ⟨rfl, ?_⟩
  rw [eqS_dec]; exact q
def rIxS2 : R2 := fun x y H Q => ∃ (l : List Nat) (i : Int) (c : Nat), x = .str (S l) ∧ y = .int i ∧ l.length ≤ 16777216 ∧ atI l i = some c ∧ Q (.str (S [c])) H
theorem ix_strS : IxR X rIxS2 := fun value slice pins s σ H x y v u Q I rx ry h hs => by
  obtain ⟨l, i, c, rfl, rfl, hz, he, q⟩ := h
  exact ix_str value slice pins s σ H _ _ v u Q I rx ry ⟨S l, i, c, rfl, rfl, by rw [S_len]; exact sz hz, by rw [S_cps]; exact he, q⟩ hs
def rLeS : R2 := fun x y H Q => ∃ a b : List Nat, x = .str (S a) ∧ y = .str (S b) ∧ Q (.bl (!decide (b < a))) H
theorem op_leS : OpR X (compareOp .LtE) rLeS := fun pins s σ H x y v u Q I rx ry h => by
  obtain ⟨a, b, rfl, rfl, q⟩ := h
  refine op_le_str pins s σ H _ _ v u Q I rx ry ⟨_, _, rfl, rfl, ?_⟩
  rw [S_cps, S_cps]; exact q
theorem op_geS : OpR X (compareOp .GtE) (fun x y H Q => ∃ a b : List Nat, x = .str (S a) ∧ y = .str (S b) ∧ Q (.bl (!decide (a < b))) H) := fun pins s σ H x y v u Q I rx ry h => by
  obtain ⟨a, b, rfl, rfl, q⟩ := h
  refine op_ge_str pins s σ H _ _ v u Q I rx ry ⟨_, _, rfl, rfl, ?_⟩
  rw [S_cps, S_cps]; exact q
end
theorem str_app_cps (a b : Str) : (a ++ b).cps.toList = a.cps.toList ++ b.cps.toList := by
  rw [S_of a, S_of b, S_app, S_cps, S_cps, S_cps]
theorem join_nil : ∀ ls : List (List Nat), Str.join (S []) (ls.map S) = S ls.flatten
  | [] => rfl
  | [l] => by
    show S l = S (l ++ [])
    rw [List.append_nil]
  | l :: m :: r => by
    have ih := join_nil (m :: r)
    show S l ++ S [] ++ Str.join (S []) ((m :: r).map S) = _
    rw [ih, S_app, S_app, List.append_nil]
    all_goals rfl
theorem sum_lens (ls : List (List Nat)) : ((ls.map S).map (·.length)).sum = ls.flatten.length := by
  rw [List.length_flatten, List.map_map]
  rfl
section
variable {X : Cx}
/-- "".join of a list of texts -/
def rJoinS (K : PySem.W.Frag) : V → List V → Hp → VK → Prop := fun x xs H Q => ∃ (p : Addr) (ls : List (List Nat)), x = .str (S []) ∧ xs = [.ref p] ∧ SqL K H p (ls.map fun l => V.str (S l)) ∧ ls.flatten.length ≤ 16777216 ∧ Q (.str (S ls.flatten)) H
theorem mt_joinS : MtR X "str.join" (rJoinS X.K) := fun pins s σ H x xs v us Q I rx rs h => by
  obtain ⟨p, ls, rfl, rfl, hp, hz, q⟩ := h
  refine mt_join pins s σ H _ _ v us Q I rx rs ⟨S [], p, ls.map S, rfl, rfl, .inl ?_, ?_, ?_⟩
  · rw [List.map_map]; exact hp
  · rw [sum_lens, S_len]
    simpa using hz
  · rw [TL.join_eq, join_nil]; exact q
theorem pe_joinS {o e : Expr} {to te : TE} {apos pos : Pos} (ho : PE X o to) (he : PE X e te) (hs : starEach [e] X.env = [(false, eval e X.env)] := by rfl) (hbase : attributeBase o "join" X.env (eval o X.env) = eval o X.env := by rfl) (hline : (apos.endLine == pos.line) = true := by rfl) :
    PE X (.Call (.Attribute o "join" apos) [e] [] pos) (tM1 (rJoinS X.K) to te) :=
  pe_m1 F.slot_str_join F.type_str_join mt_joinS ho he hs hbase hline
end
end R
set_option maxRecDepth 100000
set_option maxHeartbeats 4000000
namespace R
open PySem PySem.Spec PyProof.Rows L2 RZ
open PySem.W (Datum)
/-! ### lists of texts that grow -/
def txs (ls : List (List Nat)) : List V := ls.map fun l => V.str (S l)
theorem strs_len (ls : List (List Nat)) : (txs ls).length = ls.length := List.length_map _
theorem strs_app (ls ms : List (List Nat)) : txs (ls ++ ms) = txs ls ++ txs ms := List.map_append
theorem strs_get {ls : List (List Nat)} {i : Nat} {x : V} (h : (txs ls)[i]? = some x) : ∃ l, ls[i]? = some l ∧ x = .str (S l) := by
  unfold txs at h
  rw [List.getElem?_map] at h
  cases e : ls[i]? with
  | none => rw [e] at h; cases h
  | some l => rw [e] at h; exact ⟨l, rfl, (Option.some.inj h).symm⟩
theorem strs_S (ls : List (List Nat)) : txs ls = (ls.map S).map V.str := by
  unfold txs
  rw [List.map_map]
  all_goals rfl
theorem map_S_inj : ∀ {ls ms : List (List Nat)}, ls.map S = ms.map S → ls = ms
  | [], [], _ => rfl
  | [], _ :: _, h => by cases h
  | _ :: _, [], h => by cases h
  | a :: r, b :: t, h => by
    rw [List.map_cons, List.map_cons, List.cons.injEq] at h
    rw [S_inj.mp h.1, map_S_inj h.2]
theorem dp_strs2 {K : PySem.W.Frag} {H : Hp} {a : Addr} {ls : List (List Nat)} (h : SqL K H a (txs ls)) : Dp K H (.ref a) (Datum.toD (ls.map S)) := dp_strsL (by rw [← strs_S]; exact h)
theorem eq_strs {K : PySem.W.Frag} {H : Hp} {a b : Addr} {ls ms : List (List Nat)} {Q : VK} (h1 : SqL K H a (txs ls)) (h2 : SqL K H b (txs ms)) (q : Q (.bl (decide (ls = ms))) H) : rEqP K (.ref a) (.ref b) H Q := by
  refine rEqP_of (dp_strs2 h1) (dp_strs2 h2) ?_
  rw [show decide (ls.map S = ms.map S) = decide (ls = ms) from decide_eq_decide.mpr ⟨map_S_inj, fun e => by rw [e]⟩]
  exact q
theorem ne_strs {K : PySem.W.Frag} {H : Hp} {a b : Addr} {ls ms : List (List Nat)} {Q : VK} (h1 : SqL K H a (txs ls)) (h2 : SqL K H b (txs ms)) (q : Q (.bl (!decide (ls = ms))) H) : rNeP K (.ref a) (.ref b) H Q := by
  refine rNeP_of (dp_strs2 h1) (dp_strs2 h2) ?_
  rw [show decide (ls.map S = ms.map S) = decide (ls = ms) from decide_eq_decide.mpr ⟨map_S_inj, fun e => by rw [e]⟩]
  exact q
/-- a list that was new at H0 has grown to xs; all older is as it was -/
def Grow (H0 : Hp) (p : Addr) (H : Hp) (xs : List V) : Prop := H0 p = none ∧ Same H0 H ∧ H p = some (.lst xs)
section
variable {H0 H H' : Hp} {p q : Addr} {xs ys : List V} {o : HO}
theorem Grow.start (n : H0 p = none) : Grow H0 p (upd H0 p (.lst xs)) xs := ⟨n, same_new n, upd_same⟩
theorem Grow.set (g : Grow H0 p H xs) : Grow H0 p (upd H p (.lst ys)) ys := ⟨g.1, fun b o e => by rw [upd_ne (ne_of_none e g.1)]; exact g.2.1 b o e, upd_same⟩
theorem Grow.new (g : Grow H0 p H xs) (n : H q = none) : Grow H0 p (upd H q o) xs := ⟨g.1, g.2.1.trans (same_new n), by rw [upd_ne (ne_of_none g.2.2 n)]; exact g.2.2⟩
theorem Grow.same (g : Grow H0 p H xs) (s : Same H H') : Grow H0 p H' xs := ⟨g.1, g.2.1.trans s, s _ _ g.2.2⟩
end
theorem ixN_last {α : Type} (xs : List α) (v : α) : ixN (xs ++ [v]).length (-1) = some xs.length := by
  unfold ixN
  rw [if_neg (by decide), List.length_append, if_pos (by rw [List.length_singleton]; omega), List.length_singleton]
  congr 1
  omega
theorem set_last {α : Type} (xs : List α) (v w : α) : (xs ++ [v]).set xs.length w = xs ++ [w] := by
  rw [List.set_append_right _ _ (Nat.le_refl _), Nat.sub_self]
  rfl
section
variable {X : Cx}
/-- list[i], by values -/
theorem pget_list : PGet X (rIxL X.K) := by
  intro pins s σ H x y v u Q I rx ry h
  obtain ⟨p, xs, i, z, rfl, rfl, hq, he, q⟩ := h
  cases rx
  obtain ⟨t, rfl⟩ := ry
  obtain ⟨its, r, pl, hz⟩ := I.list hq
  obtain ⟨j, h1, h2, h3, h4, h5⟩ := atI_get he
  obtain ⟨w, ew, rw'⟩ := r.get h2
  have hl := r.length
  have hn := line63
  have fin : EP X pins σ Q w s := ⟨z, H, I, rw', q⟩
  by_cases h0 : 0 ≤ i
  · have hj : i.toNat = j := by
      rw [seqIndex_of h0 h5] at h1
      exact Option.some.inj h1
    exact wpAny_getItem_list pl.isList h0 (by omega) (by rw [hj]; simpa using ew) fin
  · have hj : (i + (its.toArray.size : Int)).toNat = j := by
      rw [seqIndex_neg (by omega) h4] at h1
      rw [List.size_toArray, ← hl]
      exact Option.some.inj h1
    exact wpAny_getItem_list_neg pl.isList (by omega) (by rw [List.size_toArray] <;> omega) (by omega) (by rw [hj]; simpa using ew) fin
/-- a list's item op= e -/
theorem ps_augL {o i e : Expr} {to ti te : TE} {tip : TIp} {op : Operator} {tpos pos : Pos} (ho : PE X o to) (hi : PE X i ti) (he : PE X e te) (hp : PIp X op tip) (ha : ∀ ov iv new, augStore i ov iv new = (do holding [new, ov, iv] (setItem ov iv new); release [new, ov, iv] []; pure .next) := by intros; rfl) : PS X (.AugAssign (.Subscript o i tpos) op e pos) (tAugS to ti te (rIxL X.K) tip rSetL) := ps_augS ho hi pget_list he hp set_list ha
end
/-! ### within comprehensions: K told from outside -/
theorem call_isiC {X : Cx} {K : PySem.W.Frag} (h : X.K = K) : CallR X (.builtin "isinstance") (rIsi K) := by subst h; exact call_isi
theorem pi_listC {X : Cx} {K : PySem.W.Frag} {tg l : Expr} {tl : TE} (h : X.K = K) (hl : PE X l tl) : PI X tg l (iList K tl) := by subst h; exact pi_list hl
theorem pi_tupC {X : Cx} {K : PySem.W.Frag} {tg l : Expr} {tl : TE} (h : X.K = K) (hl : PE X l tl) : PI X tg l (iTup K tl) := by subst h; exact pi_tup hl
theorem ix_listC {X : Cx} {K : PySem.W.Frag} (h : X.K = K) : IxR X (rIxL K) := by subst h; exact ix_list
theorem ix_tupC {X : Cx} {K : PySem.W.Frag} (h : X.K = K) : IxR X (rIxT K) := by subst h; exact ix_tup
theorem op_eqPC {X : Cx} {K : PySem.W.Frag} (h : X.K = K) (hu : X.A.units + 64 < cLine) : OpR X (compareOp .Eq) (rEqP K) := by subst h; exact op_eqP hu
theorem op_nePC {X : Cx} {K : PySem.W.Frag} (h : X.K = K) (hu : X.A.units + 64 < cLine) : OpR X (compareOp .NotEq) (rNeP K) := by subst h; exact op_neP hu
/-! ### values that may be texts -/
inductive Item (K : PySem.W.Frag) (H : Hp) : V → Option (List Nat) → Prop
  | str (l : List Nat) (h : l.length < 16777216) : Item K H (.str (S l)) (some l)
  | no {x : V} {n : String} (h : Pl K H x n) (hn : (n == "str") = false) : Item K H x none
theorem Item.pl {K : PySem.W.Frag} {H : Hp} {x : V} {r : Option (List Nat)} (h : Item K H x r) : ∃ n, Pl K H x n ∧ (n == "str") = r.isSome := by
  cases h with
  | str l h => exact ⟨"str", .str _, rfl⟩
  | no h hn => exact ⟨_, h, hn⟩
theorem Item.same {K : PySem.W.Frag} {H H' : Hp} {x : V} {r : Option (List Nat)} (h : Item K H x r) (s : Same H H') : Item K H' x r := by
  cases h with
  | str l h => exact .str l h
  | no h hn => exact .no (h.same s) hn
inductive Items (K : PySem.W.Frag) (H : Hp) : List V → List (Option (List Nat)) → Prop
  | nil : Items K H [] []
  | cons {x : V} {xs : List V} {r : Option (List Nat)} {rs : List (Option (List Nat))} (h : Item K H x r) (t : Items K H xs rs) : Items K H (x :: xs) (r :: rs)
theorem Items.len {K : PySem.W.Frag} {H : Hp} : ∀ {xs : List V} {rs : List (Option (List Nat))}, Items K H xs rs → xs.length = rs.length
  | _, _, .nil => rfl
  | _, _, .cons _ t => by rw [List.length_cons, List.length_cons, t.len]
theorem Items.get {K : PySem.W.Frag} {H : Hp} : ∀ {xs : List V} {rs : List (Option (List Nat))} {i : Nat} {x : V}, Items K H xs rs → xs[i]? = some x → ∃ r, rs[i]? = some r ∧ Item K H x r
  | _, _, 0, _, .cons h _, e => by cases e; exact ⟨_, rfl, h⟩
  | _, _, i + 1, _, .cons _ t, e => t.get (i := i) (by simpa using e)
  | _, _, _, _, .nil, e => by simp at e
theorem Items.same {K : PySem.W.Frag} {H H' : Hp} : ∀ {xs : List V} {rs : List (Option (List Nat))}, Items K H xs rs → Same H H' → Items K H' xs rs
  | _, _, .nil, _ => .nil
  | _, _, .cons h t, s => .cons (h.same s) (t.same s)
theorem Items.ofs {K : PySem.W.Frag} {H : Hp} : ∀ {ls : List (List Nat)}, (∀ l ∈ ls, l.length < 16777216) → Items K H (txs ls) (ls.map some)
  | [], _ => .nil
  | l :: r, h => .cons (.str l (h l List.mem_cons_self)) (Items.ofs fun m hm => h m (List.mem_cons_of_mem _ hm))
/-- a value that may be a list of texts -/
inductive Recs (K : PySem.W.Frag) (H : Hp) : V → Option (List (Option (List Nat))) → Prop
  | no {x : V} {n : String} (h : Pl K H x n) (hn : (n == "list") = false) : Recs K H x none
  | lst {a : Addr} {xs : List V} {rs : List (Option (List Nat))} (h : SqL K H a xs) (hi : Items K H xs rs) (hz : xs.length < 16777216) : Recs K H (.ref a) (some rs)
theorem Recs.pl {K : PySem.W.Frag} {H : Hp} {x : V} {r : Option (List (Option (List Nat)))} (h : Recs K H x r) : ∃ n, Pl K H x n ∧ (n == "list") = r.isSome := by
  cases h with
  | no h hn => exact ⟨_, h, hn⟩
  | lst h hi hz => exact ⟨"list", .lst h, rfl⟩
theorem Recs.ofs {K : PySem.W.Frag} {H : Hp} {a : Addr} {ls : List (List Nat)} (h : SqL K H a (txs ls)) (h1 : ls.length < 16777216) (h2 : ∀ l ∈ ls, l.length < 16777216) : Recs K H (.ref a) (some (ls.map some)) := .lst h (.ofs h2) (by rw [strs_len]; exact h1)
/-- [test of the item for item in a list] -/
theorem lc_items {K : PySem.W.Frag} {a : Addr} {xs : List V} {rs : List (Option (List Nat))} {te : TE} {vs : List Nat} {σ : L2.St} {H1 : Hp} {D : Addr} {Qd : Hp → Prop} {i : Nat} (f : Option (List Nat) → Bool) (hS : SqL K H1 a xs) (hi : Items K H1 xs rs) (hz : xs.length < 16777216) (nD : H1 D = none)
    (hw : ∀ x, wipe ((wipe σ vs).set i (some x)) vs = wipe σ vs)
    (hs : ∀ x r H, r ∈ rs → Item K H x r → Same H1 H → ∀ Q : VK, (∀ H2, Same H H2 → Q (.bl (f r)) H2) → te ((wipe σ vs).set i (some x)) H Q)
    (hd : ∀ H, Same H1 H → H D = some (.lst ((rs.map f).map V.bl)) → Qd H) :
    ∃ W : Nat → Nat → Hp → Prop, (∃ m, W 0 m (upd H1 D (.lst []))) ∧ ∀ i' m H, W i' m H →
      ((Itl K a).stop i' H ∧ Qd H) ∨ ((Itl K a).go i' H ∧ ∃ Nx : Hp → Prop, (∀ H', Nx H' → ∃ m', m' < m ∧ W (i' + 1) m' H') ∧ ∀ x H', (Itl K a).yld i' H x H' → (gName i) x (wipe σ vs) H' fun σ2 H2 => wipe σ2 vs = wipe σ vs ∧ tYes σ2 H2 fun b H3 =>
        if b = true then te σ2 H3 fun y H4 => ∃ acc, H4 D = some (.lst acc) ∧ acc.length < sizeLine ∧ Nx (upd H4 D (.lst (acc ++ [y]))) else Nx H3) := by
  refine lc_map (walk_list (xs := xs)) ((rs.map f).map V.bl) (by rw [List.length_map, List.length_map, hi.len]) hz nD yat_same (fun _ s => sql_same hS s) (fun j x H H' y hj hy s1 s1' hY Q q => ?_) hd gName_mono
  obtain ⟨rfl, hx⟩ := hY
  obtain ⟨r, hr, hI⟩ := hi.get hx
  have ey : y = .bl (f r) := by
    rw [List.getElem?_map, List.getElem?_map, hr] at hy
    exact (Option.some.inj hy).symm
  subst ey
  exact ⟨hw x, hs x r H' (List.mem_of_getElem? hr) (hI.same s1') s1' Q q⟩
/-- [text of the text for text in a list of texts] -/
theorem lc_strs {K : PySem.W.Frag} {a : Addr} {ls : List (List Nat)} {te : TE} {vs : List Nat} {σ : L2.St} {H1 : Hp} {D : Addr} {Qd : Hp → Prop} {i : Nat} (f : List Nat → List Nat) (hS : SqL K H1 a (txs ls)) (hz : ls.length < 16777216) (nD : H1 D = none)
    (hw : ∀ x, wipe ((wipe σ vs).set i (some x)) vs = wipe σ vs)
    (hs : ∀ l H, l ∈ ls → Same H1 H → ∀ Q : VK, (∀ H2, Same H H2 → Q (.str (S (f l))) H2) → te ((wipe σ vs).set i (some (.str (S l)))) H Q)
    (hd : ∀ H, Same H1 H → H D = some (.lst (txs (ls.map f))) → Qd H) :
    ∃ W : Nat → Nat → Hp → Prop, (∃ m, W 0 m (upd H1 D (.lst []))) ∧ ∀ i' m H, W i' m H →
      ((Itl K a).stop i' H ∧ Qd H) ∨ ((Itl K a).go i' H ∧ ∃ Nx : Hp → Prop, (∀ H', Nx H' → ∃ m', m' < m ∧ W (i' + 1) m' H') ∧ ∀ x H', (Itl K a).yld i' H x H' → (gName i) x (wipe σ vs) H' fun σ2 H2 => wipe σ2 vs = wipe σ vs ∧ tYes σ2 H2 fun b H3 =>
        if b = true then te σ2 H3 fun y H4 => ∃ acc, H4 D = some (.lst acc) ∧ acc.length < sizeLine ∧ Nx (upd H4 D (.lst (acc ++ [y]))) else Nx H3) := by
  refine lc_map (walk_list (xs := txs ls)) (txs (ls.map f)) (by rw [strs_len, strs_len, List.length_map]) (by rw [strs_len]; exact hz) nD yat_same (fun _ s => sql_same hS s) (fun j x H H' y hj hy s1 s1' hY Q q => ?_) hd gName_mono
  obtain ⟨rfl, hx⟩ := hY
  obtain ⟨l, hl, rfl⟩ := strs_get hx
  have ey : y = .str (S (f l)) := by
    obtain ⟨m, hm, rfl⟩ := strs_get hy
    rw [List.getElem?_map, hl] at hm
    rw [← Option.some.inj hm]
  subst ey
  exact ⟨hw _, hs l H' (List.mem_of_getElem? hl) s1' Q q⟩
/-- [text for text in texts if a test of it] -/
theorem lc_filter {K : PySem.W.Frag} {a : Addr} {ls : List (List Nat)} {tt : TT} {vs : List Nat} {σ : L2.St} {H1 : Hp} {D : Addr} {Qd : Hp → Prop} {i : Nat} (f : List Nat → Bool) (hS : SqL K H1 a (txs ls)) (hz : ls.length < 16777216) (nD : H1 D = none)
    (hw : ∀ x, wipe ((wipe σ vs).set i (some x)) vs = wipe σ vs) (hg : ∀ x, ((wipe σ vs).set i (some x))[i]? = some (some x))
    (hs : ∀ l H, l ∈ ls → Same H1 H → ∀ Q : Bool → Hp → Prop, (∀ H2, Same H H2 → Q (f l) H2) → tt ((wipe σ vs).set i (some (.str (S l)))) H Q)
    (hd : ∀ H, Same H1 H → H D = some (.lst (txs (ls.filter f))) → Qd H) :
    ∃ W : Nat → Nat → Hp → Prop, (∃ m, W 0 m (upd H1 D (.lst []))) ∧ ∀ i' m H, W i' m H →
      ((Itl K a).stop i' H ∧ Qd H) ∨ ((Itl K a).go i' H ∧ ∃ Nx : Hp → Prop, (∀ H', Nx H' → ∃ m', m' < m ∧ W (i' + 1) m' H') ∧ ∀ x H', (Itl K a).yld i' H x H' → (gName i) x (wipe σ vs) H' fun σ2 H2 => wipe σ2 vs = wipe σ vs ∧ tt σ2 H2 fun b H3 =>
        if b = true then tVar i σ2 H3 fun y H4 => ∃ acc, H4 D = some (.lst acc) ∧ acc.length < sizeLine ∧ Nx (upd H4 D (.lst (acc ++ [y]))) else Nx H3) := by
  refine lc_it (walk_list (xs := txs ls)) (fun i H => Same H1 H ∧ H D = some (.lst (txs ((ls.take i).filter f)))) ⟨same_new nD, upd_same⟩ (fun i H _ p => sql_same hS p.1) (fun j x H H' hj p y => ?_) (fun H p => hd H p.1 (by rw [strs_len, List.take_length] at p; exact p.2))
  obtain ⟨rfl, hx⟩ := y
  obtain ⟨l, hl, rfl⟩ := strs_get hx
  rw [strs_len] at hj
  have ht : (ls.take (j + 1)).filter f = (ls.take j).filter f ++ (if f l = true then [l] else []) := by
    rw [List.take_add_one, hl, Option.toList_some, List.filter_append]
    cases hb : f l with
    | true => rw [List.filter_cons_of_pos hb]; rfl
    | false => rw [List.filter_cons_of_neg (by rw [hb]; exact Bool.false_ne_true)]; rfl
  refine ⟨hw _, hs l H' (List.mem_of_getElem? hl) p.1 _ fun H2 s2 => ?_⟩
  have hD2 : H2 D = some (.lst (txs ((ls.take j).filter f))) := s2 _ _ p.2
  cases hb : f l with
  | true =>
    rw [hb, if_pos rfl] at ht
    refine iteT ⟨_, hg _, _, hD2, szl ?_, ?_, ?_⟩
    · rw [strs_len]
      have := List.length_filter_le f (ls.take j)
      rw [List.length_take] at this
      omega
    · intro b o hbo
      rw [upd_ne (ne_of_none hbo nD)]
      exact s2 _ _ (p.1 _ _ hbo)
    · rw [upd_same, ht, strs_app]
      rfl
  | false =>
    rw [hb, if_neg Bool.false_ne_true, List.append_nil] at ht
    refine iteF ⟨p.1.trans s2, ?_⟩
    rw [ht]
    exact hD2
end R
set_option maxRecDepth 100000
set_option maxHeartbeats 4000000
namespace R
open PySem PySem.Spec PyProof.Rows L2 RZ
/-! ### an exception that is kept beyond its suite -/
/-- at a stands an exception of the class at D -/
def KeptE (D a : Addr) : HO := .ext fun h => ∃ oe : Obj, PySem.W.InstAt h a oe D none
theorem keptE_ok {P : Program} {w : World} {H : Hp} {h : Heap} {a D : Addr} {oe : Obj} (i : PySem.W.InstAt h a oe D none) : ObjOk P w H h a (KeptE D a) := by
  refine ⟨⟨oe, i⟩, ⟨oe, i.at_⟩, ?_⟩
  rintro h1 h2 ⟨o, j⟩ k
  refine ⟨o, k o j.at_, j.cls, j.no, ?_⟩
  have q := j.dict
  revert q
  cases o.dict <;> exact id
section
variable {X : Cx} {pins : List (Addr × Obj)} {σ : L2.St} {H : Hp} {s : Shared}
theorem inv_track {a D : Addr} {oe : Obj} {vs : Array Value} (I : Inv X pins σ H s) (i : PySem.W.InstAt s.heap a oe D none) (hd : oe.data = .fields vs) (old : X.s_0.heap.get? a = none) (na : H a = none) (nl : a ≠ X.env.locals)
    (np : ∀ p ∈ X.pn ++ pins, p.1 ≠ a) : Inv X pins σ (upd H a (KeptE D a)) s := by
  have cells : ∀ y c, X.env.cells.lookup y = some c → c ≠ a := by
    rintro y c e rfl
    obtain ⟨v, o, ho, hv⟩ := I.cell y c e
    rw [i.at_] at ho
    cases ho
    rw [hd] at hv
    cases hv
  have un : Un X.fs X.ex X.H_0 (upd H a (KeptE D a)) X.s_0.heap s.heap :=
    { keep := I.base.keep
      slot := I.base.slot
      there := I.base.there
      free := fun b o e n hx => by
        have nb : b ≠ a := by
          rintro rfl
          rw [old] at e
          cases e
        exact (upd_ne nb).trans (I.base.free b o e n hx)
      tups := fun b xs e => (upd_ne (ne_of_none (I.base.tups b xs e) na)).trans (I.base.tups b xs e)
      frzs := fun b o u e => (upd_ne (ne_of_none (I.base.frzs b o u e) na)).trans (I.base.frzs b o u e)
      tbls := fun b ps e => by
        obtain ⟨m, q⟩ := I.base.tbls b ps e
        exact ⟨m, (upd_ne (ne_of_none q na)).trans q⟩ }
  exact
    { ok := I.ok, os := I.os, bare := I.bare, base := un, loc := I.loc, cell := I.cell
      free := (upd_ne nl.symm).trans I.free
      freeC := fun y c e => (upd_ne (cells y c e)).trans (I.freeC y c e)
      pin := fun p hp => ⟨(I.pin p hp).1, (upd_ne (np p hp)).trans (I.pin p hp).2.1, (I.pin p hp).2.2⟩
      hok := HOk.laidN I.hok (fun _ _ e => e) na (keptE_ok i)
      len := I.len }
end
/-- what 'except x as n' wishes, if the exception that it holds is kept: the suite comes to its end -/
def wKeep (K : PySem.W.Frag) (c : Value) (i : Nat) (ts : Addr → TS) (D : Ends) : WX := fun cls d σ H => ∃ C, cls = .ref C ∧ d = none ∧ PySem.W.exmOne K (.ref C) c = some true ∧
  ∀ a, H a = none → ts a { nx := fun σ' H' => H' a = none → D.nx (σ'.set i none) (upd H' a (KeptE C a)), rt := fun _ _ => False } (σ.set i (some (.ref a))) H
section
variable {X : Cx} {x n : Str} {c : Value} {i : Nat} {body rest : List Stmt} {st : Stmt} {np p1 p2 : Pos} {tb : WX → TS} {ts : Addr → TS}
theorem ps_try_keep (hst : X.stack = X.env :: X.outer) (hfm : X.env.frame = some X.env.locals) (hN : X.N.Nodup) (hi : X.N[i]? = some n) (hl : X.env.kindOf n = some .local) (hc : Names X x c) (hex : X.ex = [])
    (hb : ∀ (W : WX) (pn : List (Addr × Obj)) (xe : Value → Shared → Prop), Takes (X.tr pn xe) W → PassesOwn (model X.prog X.w) X.A X.env xe → PSs (X.tr pn xe) body (tb W))
    (hsu : ∀ (a : Addr) (pn : List (Addr × Obj)), PSs (X.suite a pn) (st :: rest) (ts a)) :
    PS X (.Try body [.ExceptHandler (some (.Name x np)) (some n) (st :: rest) p1] [] [] p2) (fun D σ H => tb (wKeep X.K c i ts D) D σ H) := by
  constructor
  intro pins s σ H D I q
  have ok := I.ok
  have fr : X.A.frames = some (X.env :: X.outer) := ok.frames.trans (congrArg some hst)
  apply wpAny_Try_except
  have run := fun xe tk pw => (hb (wKeep X.K c i ts D) (X.pn ++ pins) xe tk pw).run [] s σ H D (I.toTry xe) q
  refine wpAny_mono (run (fun e t₁ => wpAny (model X.prog X.w) X.A (noteFrame e X.env) (fun _ t₂ => wpAny (model X.prog X.w) X.A (setFlight e none) (fun _ t₃ =>
    wpAny (model X.prog X.w) X.A (handleBy e X.env [.ExceptHandler (some (.Name x np)) (some n) (st :: rest) p1]) (SP X pins D) X.xe t₃) X.xe t₂) X.xe t₁) ?caught PassesOwn.looking) ?went (fun _ _ z => z)
  case went =>
    intro f t z
    cases f with
    | next => exact wpAny_execs_nil (let ⟨σ', H', J, r⟩ := z; ⟨σ', H', J.ofTry ok, r⟩)
    | brk => exact (let ⟨σ', H', J, r⟩ := z; ⟨σ', H', J.ofTry ok, r⟩)
    | cont => exact (let ⟨σ', H', J, r⟩ := z; ⟨σ', H', J.ofTry ok, r⟩)
    | ret u => exact (let ⟨v, σ', H', J, e, r⟩ := z; ⟨v, σ', H', J.ofTry ok, e, r⟩)
  case caught =>
    rintro u t ⟨a, B, t0, pins', σ1, H1, cls, d, rfl, J0, ground, up, sky, na, eos, gens, C, rfl, rfl, hexm, hsuite⟩
    have J : Inv X pins σ1 H1 t0 := J0.ofTry ok
    have sky2 : Sky B (X.env :: X.outer) a (Zc (.ref C) none) X.env.locals t.heap := hst ▸ sky
    show wpAny _ X.A (noteFrame (.ref a) X.env) _ _ _
    refine Sky.land Zc.steady fr hfm sky2 fun g fly upg => ?_
    -- where the exception's own object stands
    have seen : ∀ {g' : Heap}, HandSPX.FlyingZ B (X.env :: X.outer) a (Zc (.ref C) none) g' → ∃ (oe : Obj) (vs : Array Value), g'.get? a = some oe ∧ Zc (.ref C) none oe ∧ oe.data = .fields vs ∧ a ∉ frs (X.env :: X.outer) := fun {g'} fl => by
      obtain ⟨oe, vs, e1, e2, e3⟩ := fl.there
      refine ⟨oe, vs, e1, e2, e3, fun hm => ?_⟩
      obtain ⟨_, o', e', no⟩ := fl.2.2.1.mem hm
      rw [e1] at e'
      cases e'
      exact no _ e3
    obtain ⟨oe, vs, at1, z1, dat1, off⟩ := seen fly
    have offL : a ≠ X.env.locals := fun z => off (List.mem_filterMap.mpr ⟨X.env, List.mem_cons_self, hfm.trans (congrArg some z.symm)⟩)
    have offF : a ∉ X.fs := fun hm => by
      obtain ⟨e, he, r⟩ := List.mem_filterMap.mp hm
      exact off (List.mem_filterMap.mpr ⟨e, List.mem_cons_of_mem _ he, r⟩)
    have notB : ∀ o, B.get? a ≠ some o := fun o z => by
      rw [fly.2.1] at z
      cases z
    have old : X.s_0.heap.get? a = none := by
      cases e : X.s_0.heap.get? a with
      | none => rfl
      | some o =>
        obtain ⟨o', e'⟩ := J.base.there a o e (by rw [hex]; exact List.not_mem_nil)
        exact absurd (ground a o' e' (by rw [show X.stack = X.env :: X.outer from hst]; exact off)) (notB o')
    have pinned : ∀ p ∈ X.pn ++ pins, p.1 ≠ a := fun p hp z => by
      obtain ⟨e1, _⟩ := J.pin p hp
      rw [z] at e1
      exact notB _ (ground a _ e1 (by rw [show X.stack = X.env :: X.outer from hst]; exact off))
    have S1 := (J.landed (s' := { t with heap := g }) ground fly.1 (up.trans upg) eos gens).suite at1 dat1 na offL offF
    refine wpAny_handleBy_cons (codeAny_handlers_test ?_) (by intro z; cases z)
    have kind : PySem.W.Looks (model X.prog X.w) g (typeOf (.ref a)) (.ref C) := fun A' Q' E' s' k r => wpAny_typeOf_ref (k _ _ at1) (z1.1.symm ▸ r)
    have asks := (PySem.W.exm_one (M := model X.prog X.w) (S1.kIn) kind hexm)
    have named : ∀ {Q' : Value → Shared → Prop} {E' : Value → Shared → Prop}, Q' c { t with heap := g } → wpAny (model X.prog X.w) (X.A.mark (some (.ref a))) (eval (.Name x np) X.env) Q' E' { t with heap := g } := by
      intro Q' E' r
      rcases hc with ⟨hg, hdb, hm | ⟨hm, hv, hnn⟩⟩
      · exact ld_glob (X := X.suite a ((a, oe) :: (X.pn ++ pins))) S1 hg hm r hdb
      · exact ld_blt (X := X.suite a ((a, oe) :: (X.pn ++ pins))) S1 hg hm hv r hnn hdb
    refine named (asks.here (codeAny_handlers_suite_as (HandSPX.lands_againZ fly fun g2 fly2 up2 => ?_)))
    obtain ⟨oe2, vs2, at2, z2, dat2, _⟩ := seen fly2
    have S2 := (J.landed (s' := { t with heap := g2 }) ground fly2.1 ((up.trans upg).trans up2) eos gens).suite at2 dat2 na offL offF
    refine store_ok (X := X.suite a ((a, oe2) :: (X.pn ++ pins))) (v := .ref a) S2 hN hi (.inl hl) rfl (fun t5 S5 => ?_) (.inr hl)
    refine wpAny_mono ((hsu a _).run [] t5 _ H1 _ S5 (hsuite a na)) (fun f t6 z => ?_) (fun _ _ z => z.elim)
    cases f with
    | ret u => exact (let ⟨_, _, _, _, _, r⟩ := z; r.elim)
    | brk => exact (let ⟨_, _, _, r⟩ := z; r.elim)
    | cont => exact (let ⟨_, _, _, r⟩ := z; r.elim)
    | next =>
      obtain ⟨σ6, H6, S6, r⟩ := z
      obtain ⟨at6, na6, _⟩ := S6.pin (a, oe2) (List.mem_append_left _ List.mem_cons_self)
      have ins : PySem.W.InstAt t6.heap a oe2 C none := by
        refine ⟨at6, z2.1, ?_, ?_⟩
        · unfold PySem.W.notCls
          rw [dat2]
        · rw [z2.2]
          trivial
      exact gone_ok (inv_track (S6.unsuite ok) ins dat2 old na6 offL pinned) hN hi hl fun t7 J7 => ⟨_, _, J7, r na6⟩
end
/-- isinstance(e, c), e kept -/
def rIsK (K : PySem.W.Frag) : List V → Hp → VK → Prop := fun xs H Q => ∃ (a D : Addr) (c : V) (cv : Value) (b : Bool), xs = [.ref a, c] ∧ H a = some (KeptE D a) ∧ ExcC K D ∧ (∀ u, RelV c u → u = cv) ∧ PySem.W.kitOne K (.ref D) cv = some b ∧ Q (.bl b) H
theorem call_isK {X : Cx} : CallR X (.builtin "isinstance") (rIsK X.K) := by
  intro pins s σ H xs us Q I r h
  obtain ⟨a, D, c, cv, b, rfl, ha, hC, hcv, e, q⟩ := h
  obtain ⟨u0, u1, rfl, r0, r1⟩ := vals2 r
  obtain rfl : u0 = Value.ref a := r0
  obtain rfl := hcv _ r1
  obtain ⟨⟨oe, i⟩, _, _⟩ := I.hok a _ ha
  exact PySem.W.kia_one (PySem.W.handS_kitx_exc hC.hg hC.hk hC.hs hC.hd hC.ha hC.hn hC.ht hC.hm) I.kIn i e (fun z => nomatch z) fun tk => ⟨.bl b, H, I.kept (t' := tk) fun _ _ z => z, rfl, q⟩
/-- how often True stands in a list of truths -/
def rCntB (K : PySem.W.Frag) : V → List V → Hp → VK → Prop := fun x xs H Q => ∃ (p : Addr) (bs : List Bool), x = .ref p ∧ xs = [.bl true] ∧ SqL K H p (bs.map V.bl) ∧ Q (.int (bs.count true : Nat)) H
theorem flat_bls : ∀ bs : List Bool, (bs.map V.bl).all flatV = true
  | [] => rfl
  | _ :: r => flat_bls r
theorem cnt_bls {u : Value} : ∀ {bs : List Bool} {us : List Value}, Vals (bs.map V.bl) us → us.countP (eqU (.bl true)) = bs.count true
  | [], _, .nil => rfl
  | b :: r, _, .cons h t => by
    rw [List.countP_cons, cnt_bls (u := u) t, eqU_of h rfl, List.count_cons]
    cases b <;> rfl
theorem mt_cntB {X : Cx} : MtR X "list.count" (rCntB X.K) := by
  rintro pins s σ H x xs v us Q I rx rxs ⟨p, bs, rfl, rfl, hs, q⟩
  obtain rfl : v = Value.ref p := rx
  obtain ⟨u, rfl, ru⟩ := rxs.one
  obtain ⟨its, rv, ⟨o, n, at_, c1, _, c2⟩, _⟩ := I.list hs
  obtain ⟨oc, od, oda, osl⟩ := o
  simp only at c1 c2
  subst c1 c2
  have mem : ∀ y ∈ its.toArray, SeqAt.EqAt X.A.in1 s y u (eqU (.bl true) y) := fun y hy => mem_eqAt (A := X.A.in1) (s := s) ru rfl rv (flat_bls bs) y (by simpa using hy)
  refine call_meets PySem.F.slot_list_count ⟨_, at_, rfl⟩ PySem.F.entry_list_count (PySem.F.args_list_count_2 _ _) (SeqAt.list_countAt p its.toArray n od osl u (eqU (.bl true))) ⟨at_, mem, ?_⟩
  refine ⟨.int (bs.count true : Nat), H, I.tok _, ⟨s.toks, ?_⟩, q⟩
  have e : its.toArray.toList.countP (eqU (.bl true)) = bs.count true := cnt_bls (u := u) rv
  exact congrArg (fun k : Nat => Value.int (k : Int) s.toks) e
/-! ### calls by keywords in a try's body -/
section
variable {X : Cx} {k n : Nat} {f C : Addr} {fd : FuncData} {ps ks : List Str} {sp : Sp} {W : WX} {x : Str} {p pos : Pos} {e : Expr} {es : List Expr} {kws : List Keyword} {t tw : TA} {g : List Value → List Value → List Value} {gV : List V → List V → List V}
theorem pe_callNS (F : FnOk X.prog X.w X.K X.mg X.base (L2.CX X.prog X.w) k f fd ps sp) (hr : Room k X.A) (hg : Gl X x) (hm : X.mg x = some (.ref f)) (hk : PySem.W.keepIn X.K (.ref f) = true) (hb : KBn X.K fd ps n ks g gV) (wt : Takes X W)
    (ha : PA X (e :: es) t) (hw : PK X kws tw) (h1 : (backToKw pos (keywordEach kws X.env)).all (·.1.isSome) = true := by rfl) (h2 : (backToKw pos (keywordEach kws X.env)).filterMap (·.1) = ks := by rfl)
    (h3 : (x == ("__debug__" : Str)) = false := by decide) (h4 : starEach (e :: es) X.env = (false, eval e X.env) :: starEach es X.env := by rfl)
    (h5 : ((backTo pos (starEach (e :: es) X.env)).any (·.1) || (backToKw pos (keywordEach kws X.env)).any (·.1.isNone)) = false := by rfl) :
    PE X (.Call (.Name x p) (e :: es) kws pos) (fun σ H Q => t σ H fun vs H1 => tw σ H1 fun zs H2 => vs.length = n ∧ zs.length = ks.length ∧ sp (gV vs zs) H2 Q (WE W σ)) := by
  constructor
  intro pins s σ H Q I q
  apply wpAny_Call_Name_kw (ld_glob I hg hm ?_ h3)
  refine PySem.W.callWith_KW (h₀ := X.base) I.ok.mod.kin hk h1 (thn (ha.run pos pins s σ H _ I q) ?_) h5 h4
  rintro us s1 ⟨vs, H1, I1, r, q1⟩
  refine thn (hw.run pos pins s1 σ H1 _ I1 q1) ?_
  rintro ws s2 ⟨zs, H2, I2, rz, l1, l2, q2⟩
  rw [h2]
  refine ⟨I2.kIn, wpAny_call (codeAny_mono (F.run X.A X.stack s2 H2 ⟨us, ks.zip ws⟩ (g us ws) (gV vs zs) Q (WE W σ) hr I2.env0 (hb.to s2 us ws I2.kIn (r.length.symm.trans l1) (rz.length.symm.trans l2)) (hb.rel r rz) q2) ?_)⟩
  rintro (er | fl) s3 z
  · exact passAt wt σ pins H2 s2 er s3 I2 z
  · cases fl with
    | ret u => exact I2.after z
    | next => exact z.elim
    | brk => exact z.elim
    | cont => exact z.elim
theorem pe_makeKS (M : Mk X.K C f) (F : FnOk X.prog X.w X.K X.mg X.base (L2.CX X.prog X.w) k f fd ps sp) (hr : Room (k + 1) X.A) (hg : Gl X x) (hm : X.mg x = some (.ref C)) (hb : KBn X.K fd ps (n + 1) ks g gV) (wt : Takes X W)
    (ha : PA X (e :: es) t) (hw : PK X kws tw) (h1 : (backToKw pos (keywordEach kws X.env)).all (·.1.isSome) = true := by rfl) (h2 : (backToKw pos (keywordEach kws X.env)).filterMap (·.1) = ks := by rfl)
    (h3 : (x == ("__debug__" : Str)) = false := by decide) (h4 : starEach (e :: es) X.env = (false, eval e X.env) :: starEach es X.env := by rfl)
    (h5 : ((backTo pos (starEach (e :: es) X.env)).any (·.1) || (backToKw pos (keywordEach kws X.env)).any (·.1.isNone)) = false := by rfl) :
    PE X (.Call (.Name x p) (e :: es) kws pos) (fun σ H Q => t σ H fun vs H1 => tw σ H1 fun zs H2 => vs.length = n ∧ zs.length = ks.length ∧ ∀ o dx, H2 o = none → H2 dx = none → dx ≠ o →
      sp (gV (.ref o :: vs) zs) (upd (upd H2 dx (.own o)) o (.ins C dx [])) (fun v H3 => v = .non ∧ Q (.ref o) H3) (WE W σ)) := by
  constructor
  intro pins s σ H Q I q
  apply wpAny_Call_Name_kw (ld_glob I hg hm ?_ h3)
  refine PySem.W.callWith_KW (h₀ := X.base) I.ok.mod.kin M.kp h1 (thn (ha.run pos pins s σ H _ I q) ?_) h5 h4
  rintro us s1 ⟨vs, H1, I1, r, q1⟩
  refine thn (hw.run pos pins s1 σ H1 _ I1 q1) ?_
  rintro ws s2 ⟨zs, H2, I2, rz, l1, l2, q2⟩
  rw [h2]
  refine ⟨I2.kIn, ?_⟩
  have go := q2 (s2.heap.objs.size + 1) s2.heap.objs.size (I2.hok.fresh (Nat.le_succ _)) (I2.hok.fresh (Nat.le_refl _)) (Nat.ne_of_lt (Nat.lt_succ_self _))
  have J := Inv.made (C := C) I2
  have first : Vals (V.ref (s2.heap.objs.size + 1) :: vs) (Value.ref (s2.heap.objs.size + 1) :: us) := .cons rfl r
  have many : (Value.ref (s2.heap.objs.size + 1) :: us).length = n + 1 := congrArg (· + 1) (r.length.symm.trans l1)
  refine wpAny_call (make_map (f := f) I2.kIn M.makes M.init (beq_iff_eq.mp M.fn) (codeAny_mono (F.run _ X.stack _ _ ⟨Value.ref (s2.heap.objs.size + 1) :: us, ks.zip ws⟩ (g (Value.ref (s2.heap.objs.size + 1) :: us) ws) _ _ (WE W σ)
    (hr.make C us (ks.zip ws)) (J.env0.make C us (ks.zip ws)) (hb.to _ (Value.ref (s2.heap.objs.size + 1) :: us) ws J.kIn many (rz.length.symm.trans l2)) (hb.rel first rz) go) ?_))
  rintro (er | fl) s3 z
  · exact passAt wt σ pins _ _ er s3 J z
  · cases fl with
    | ret u =>
      obtain ⟨v, H', J2, rv, ev, q3⟩ := J.after z
      subst ev
      exact ⟨rv, ⟨V.ref (s2.heap.objs.size + 1), H', J2, rfl, q3⟩⟩
    | next => exact z.elim
    | brk => exact z.elim
    | cont => exact z.elim
end
/-! ### isinstance and except, asked of the classes' own rows -/
section
variable {K : PySem.W.Frag} {D C : Addr} {b : Bool}
theorem kit_ref (self : PySem.W.subIn K (.ref D) (.ref D) = some true) (hs : PySem.W.subIn K (.ref D) (.ref C) = some b) (hi : PySem.W.isClsIn K C = true) (ht : PySem.W.typeIn K (.ref C) = some (.type "type")) : PySem.W.kitOne K (.ref D) (.ref C) = some b := by
  unfold PySem.W.kitOne
  by_cases e : (Value.ref D == Value.ref C) = true
  · rw [if_pos e]
    obtain rfl := Value.ref.inj (beq_iff_eq.mp e)
    exact self.symm.trans hs
  · rw [if_neg e]
    have c : ((PySem.W.clsIn K C).isSome && PySem.W.typeIn K (.ref C) == some (.type "type")) = true := by
      rw [show (PySem.W.clsIn K C).isSome = true from hi, ht]
      rfl
    exact (if_pos c).trans hs
theorem kit_val (hs : PySem.W.subIn K (.ref D) (.type "ValueError") = some true) : PySem.W.kitOne K (.ref D) (.type "ValueError") = some true := by
  unfold PySem.W.kitOne
  rw [if_neg (by intro e; exact nomatch (beq_iff_eq.mp e))]
  show (if PySem.W.kitMeta "ValueError" = true then PySem.W.subIn K (.ref D) (.type "ValueError") else none) = some true
  rw [if_pos (by decide +kernel)]
  exact hs
end
end R
set_option maxRecDepth 100000
set_option maxHeartbeats 4000000
namespace R
open PySem PySem.Spec PyProof.Rows L2 RZ
/-! ### the least of a list of data; a text taken out of a list -/
theorem dpAll_get {K : PySem.W.Frag} {H : Hp} : ∀ {xs : List V} {ds : List PyData} {i : Nat} {x : V}, DpAll K H xs ds → xs[i]? = some x → ∃ d, ds[i]? = some d ∧ Dp K H x d
  | _, _, 0, _, .cons h _, e => by cases e; exact ⟨_, rfl, h⟩
  | _, _, i + 1, x, .cons (vs := vs) (ds := ds) _ t, e => dpAll_get (xs := vs) (ds := ds) (i := i) t e
theorem vals_get {xs : List V} {us : List Value} : Vals xs us → ∀ {i : Nat} {u : Value}, us[i]? = some u → ∃ x, xs[i]? = some x ∧ RelV x u := by
  intro r
  induction r with
  | nil => intro i u e; simp at e
  | cons h t ih =>
    intro i u e
    cases i with
    | zero => cases e; exact ⟨_, rfl, h⟩
    | succ i => exact ih e
def rMinD (K : PySem.W.Frag) : List V → Hp → VK → Prop := fun vs H Q => ∃ (a : Addr) (xs : List V) (d : PyData) (ds : List PyData), vs = [V.ref a] ∧ SqL K H a xs ∧ DpAll K H xs (d :: ds) ∧ PySem.W.AlikeAll (d :: ds) ∧ PyData.depthAll (d :: ds) ≤ 60 ∧
  ∀ (i : Nat) (x : V), xs[i]? = some x → (d :: ds)[i]? = some (PySem.W.minD d ds) → Q x H
theorem cr_minD {X : Cx} (hc : X.calm = true) (hu : X.A.units + 64 < cLine) : CallR X (.builtin "min") (rMinD X.K) := by
  intro pins s σ H vs us Q I r h
  obtain ⟨a, xs, d, ds, rfl, hs, hd, al, dep, q⟩ := h
  obtain ⟨its, rv, hl, _⟩ := I.list hs
  rw [Vals.ref1 r]
  obtain ⟨as, rd⟩ := Dp.reads I (.list (d :: ds)) (.ref a) (.ref a) (.lst hs hd) rfl
  cases rd with
  | list e1 e2 e3 rs =>
    rename_i o vs' n as'
    have same : vs' = its.toArray := by
      obtain ⟨o2, h2, _, n2, h3⟩ := hl.isList
      rw [h2] at e1
      cases e1
      rw [h3] at e3
      cases e3
      rfl
    subst same
    refine PySem.W.min_list_data (I.ok.hd hc) hl.isList rs al (by omega) fun i v h' tk bs hi rm hk => ?_
    have hi2 : its[i]? = some v := by simpa using hi
    obtain ⟨x, hx, rx⟩ := vals_get rv hi2
    obtain ⟨dd, hdd, dx⟩ := dpAll_get hd hx
    obtain ⟨as2, rd2⟩ := Dp.reads I dd x v dx rx
    have e := (PyProof.Rows.Reads.keeps hk rd2).unique _ _ rm
    rw [e.1] at hdd
    exact ⟨x, H, I.kept hk, rx, q i x hx hdd⟩
theorem txs_flat : ∀ ls : List (List Nat), (txs ls).all flatV = true
  | [] => rfl
  | _ :: r => txs_flat r
theorem txs_eraseIdx : ∀ (ls : List (List Nat)) (j : Nat), (txs ls).eraseIdx j = txs (ls.eraseIdx j)
  | [], _ => rfl
  | _ :: _, 0 => rfl
  | l :: r, j + 1 => congrArg (V.str (S l) :: ·) (txs_eraseIdx r j)
def rRemS : V → List V → Hp → VK → Prop := fun x xs H Q => ∃ (l : Addr) (ls : List (List Nat)) (w : List Nat), x = .ref l ∧ xs = [.str (S w)] ∧ H l = some (.lst (txs ls)) ∧ w ∈ ls ∧ Q .non (upd H l (.lst (txs (ls.erase w))))
theorem mt_removeS {X : Cx} : MtM X "list.remove" rRemS := by
  rintro pins s σ H x xs v us Q I rx rxs ⟨l, ls, w, rfl, rfl, hH, hw, q⟩
  obtain rfl : v = Value.ref l := rx
  obtain ⟨u, rfl, ru⟩ := rxs.one
  obtain ⟨z, its, n, rv, hl, at_⟩ := I.lstM hH
  have eq : ∀ y ∈ its.toArray, MeetsSeq.EqGives y u (eqU (.str (S w)) y) := fun y hy prog w' A E s' Q' hq =>
    mem_eqAt (A := A) (s := s') ru rfl rv (txs_flat ls) y (by simpa using hy) prog w' E Q' hq
  have hlen : its.length = ls.length := by rw [← hl, strs_len]
  have hj : ls.idxOf w < ls.length := List.idxOf_lt_length_iff.mpr hw
  have atk : ∀ k (hk : k < its.toArray.size), eqU (.str (S w)) its.toArray[k] = decide (ls[k]? = some w) := by
    intro k hk
    have hk2 : k < its.length := by simpa using hk
    have hk3 : k < ls.length := by omega
    have e1 : (txs ls)[k]? = some (.str (S ls[k])) := by
      show (ls.map fun l => V.str (S l))[k]? = _
      rw [List.getElem?_map, List.getElem?_eq_getElem hk3]
      rfl
    obtain ⟨u2, hu2, r2⟩ := rv.get e1
    obtain ⟨_, hu3⟩ := List.getElem?_eq_some_iff.mp hu2
    have e2 : its.toArray[k] = u2 := by simpa using hu3
    rw [e2, eqU_of r2 rfl, List.getElem?_eq_getElem hk3]
    show (S ls[k] == S w) = decide (some ls[k] = some w)
    rw [Bool.eq_iff_iff, beq_iff_eq, decide_eq_true_eq, S_inj]
    exact ⟨fun e => by rw [e], fun e => Option.some.inj e⟩
  have hjs : ls.idxOf w < its.toArray.size := by rw [List.size_toArray]; omega
  have hsz := sizeLine_eq
  refine call_meets PySem.F.slot_list_remove ⟨_, at_, rfl⟩ PySem.F.entry_list_remove (PySem.F.args_list_remove_2 _ _)
    (MeetsSeq.list_remove l its.toArray n u (eqU (.str (S w))) eq (ls.idxOf w) hjs ?_ ?_ (by rw [List.size_toArray]; omega)) ⟨at_, ?_⟩
  · rw [atk _ hjs]
    exact decide_eq_true (by rw [List.getElem?_eq_getElem hj]; exact congrArg some (List.getElem_idxOf hj))
  · intro m hm hmj
    rw [atk _ hm]
    refine decide_eq_false fun e => ?_
    have hm2 : m < ls.length := by
      have : m < its.length := by simpa using hm
      omega
    rw [List.getElem?_eq_getElem hm2] at e
    have h2 := List.not_of_lt_findIdx hmj
    rw [beq_iff_eq.mpr (Option.some.inj e)] at h2
    cases h2
  · have rr := rv.eraseIdx (ls.idxOf w)
    have et : (txs ls).eraseIdx (ls.idxOf w) = txs (ls.erase w) := by
      rw [txs_eraseIdx, ← List.erase_eq_eraseIdx_of_idxOf rfl]
    rw [et] at rr
    refine ⟨.non, _, I.lset (its' := its.eraseIdx (ls.idxOf w)) (t' := s.toks) hH at_ ?_ rr ?_, rfl, q⟩
    · show its.toArray.eraseIdxIfInBounds _ = (its.eraseIdx _).toArray
      rw [List.eraseIdxIfInBounds_toArray]
    · rw [strs_len]
      have := List.length_erase_le (a := w) (l := ls)
      rw [strs_len] at z
      omega
end R
set_option maxRecDepth 100000
set_option maxHeartbeats 4000000
namespace R
open PySem PySem.Spec PyProof.Rows L2 RZ
open PySem.W (Datum)
/-! ### lists of lists of texts -/
def Rows (H : Hp) : List Addr → List (List (List Nat)) → Prop
  | [], [] => True
  | a :: as, l :: ls => H a = some (.lst (txs l)) ∧ Rows H as ls
  | _, _ => False
theorem Rows.len {H : Hp} : ∀ {as : List Addr} {ls : List (List (List Nat))}, Rows H as ls → as.length = ls.length
  | [], [], _ => rfl
  | _ :: _, _ :: _, h => congrArg (· + 1) (Rows.len h.2)
  | [], _ :: _, h => h.elim
  | _ :: _, [], h => h.elim
theorem Rows.same {H H' : Hp} (s : Same H H') : ∀ {as : List Addr} {ls : List (List (List Nat))}, Rows H as ls → Rows H' as ls
  | [], [], _ => trivial
  | _ :: _, _ :: _, h => ⟨s _ _ h.1, Rows.same s h.2⟩
  | [], _ :: _, h => h.elim
  | _ :: _, [], h => h.elim
theorem Rows.upd {H : Hp} {b : Addr} {o : HO} : ∀ {as : List Addr} {ls : List (List (List Nat))}, Rows H as ls → b ∉ as → Rows (L2.upd H b o) as ls
  | [], [], _, _ => trivial
  | a :: as, _ :: _, h, n => ⟨by rw [upd_ne (fun e => n (by rw [e]; exact List.mem_cons_self))]; exact h.1, Rows.upd h.2 fun m => n (List.mem_cons_of_mem _ m)⟩
  | [], _ :: _, h, _ => h.elim
  | _ :: _, [], h, _ => h.elim
theorem Rows.snoc {H : Hp} {b : Addr} {l : List (List Nat)} : ∀ {as : List Addr} {ls : List (List (List Nat))}, Rows H as ls → H b = some (.lst (txs l)) → Rows H (as ++ [b]) (ls ++ [l])
  | [], [], _, h => ⟨h, trivial⟩
  | _ :: _, _ :: _, h, k => ⟨h.1, Rows.snoc h.2 k⟩
  | [], _ :: _, h, _ => h.elim
  | _ :: _, [], h, _ => h.elim
theorem Rows.unsnoc {H : Hp} {l : List (List Nat)} : ∀ {as : List Addr} {ls : List (List (List Nat))}, Rows H as (ls ++ [l]) → ∃ as' b, as = as' ++ [b] ∧ Rows H as' ls ∧ H b = some (.lst (txs l))
  | [], [], h => h.elim
  | [], _ :: _, h => h.elim
  | [a], [], h => ⟨[], a, rfl, trivial, h.1⟩
  | a :: b :: as, [], h => h.2.elim
  | a :: as, m :: ls, h => by
    obtain ⟨as', b, rfl, h1, h2⟩ := Rows.unsnoc (as := as) (ls := ls) h.2
    exact ⟨a :: as', b, rfl, ⟨h.1, h1⟩, h2⟩
theorem Rows.get {H : Hp} : ∀ {as : List Addr} {ls : List (List (List Nat))} {i : Nat} {a : Addr}, Rows H as ls → as[i]? = some a → ∃ l, ls[i]? = some l ∧ H a = some (.lst (txs l))
  | a :: as, l :: ls, 0, _, h, e => by cases e; exact ⟨l, rfl, h.1⟩
  | a :: as, l :: ls, i + 1, _, h, e => Rows.get (as := as) (ls := ls) (i := i) h.2 e
  | [], [], _, _, _, e => by simp at e
  | [], _ :: _, _, _, h, _ => h.elim
  | _ :: _, [], _, _, h, _ => h.elim
theorem dp_txs {K : PySem.W.Frag} {H : Hp} : ∀ ls : List (List Nat), DpAll K H (txs ls) (ls.map fun l => .str (S l))
  | [] => .nil
  | l :: r => .cons (.str _) (dp_txs r)
theorem dp_rows {K : PySem.W.Frag} {H : Hp} : ∀ {as : List Addr} {ls : List (List (List Nat))}, Rows H as ls → DpAll K H (as.map V.ref) (ls.map fun l => .list (l.map fun l => .str (S l)))
  | [], [], _ => .nil
  | _ :: _, _ :: _, h => .cons (.lst (SqL.of h.1) (dp_txs _)) (dp_rows h.2)
  | [], _ :: _, h => h.elim
  | _ :: _, [], h => h.elim
theorem toD_txs (l : List (List Nat)) : (Datum.toD (l.map S) : PyData) = .list (l.map fun l => .str (S l)) := by
  show PyData.list ((l.map S).map Datum.toD) = _
  rw [List.map_map]
  rfl
theorem toD_rows (ls : List (List (List Nat))) : (Datum.toD (ls.map fun l => l.map S) : PyData) = .list (ls.map fun l => .list (l.map fun l => .str (S l))) := by
  show PyData.list ((ls.map fun l => l.map S).map Datum.toD) = _
  rw [List.map_map]
  congr 1
  exact List.map_congr_left fun l _ => toD_txs l
theorem rows_inj {a b : List (List (List Nat))} (h : (a.map fun l => l.map S) = b.map fun l => l.map S) : a = b := by
  induction a generalizing b with
  | nil => cases b with
    | nil => rfl
    | cons y r => cases h
  | cons x r ih => cases b with
    | nil => cases h
    | cons y s =>
      rw [List.map_cons, List.map_cons] at h
      injection h with h1 h2
      rw [map_S_inj h1, ih h2]
theorem ne_rows {K : PySem.W.Frag} {H : Hp} {f g : Addr} {as bs : List Addr} {ls ms : List (List (List Nat))} {Q : VK} (h1 : SqL K H f (as.map V.ref)) (r1 : Rows H as ls) (h2 : SqL K H g (bs.map V.ref)) (r2 : Rows H bs ms) (q : Q (.bl (!decide (ls = ms))) H) : rNeP K (.ref f) (.ref g) H Q := by
  refine rNeP_of (a := ls.map fun l => l.map S) (b := ms.map fun l => l.map S) (by rw [toD_rows]; exact .lst h1 (dp_rows r1)) (by rw [toD_rows]; exact .lst h2 (dp_rows r2)) ?_
  rw [show decide ((ls.map fun l => l.map S) = ms.map fun l => l.map S) = decide (ls = ms) from decide_eq_decide.mpr ⟨rows_inj, fun e => by rw [e]⟩]
  exact q
theorem eq_rows {K : PySem.W.Frag} {H : Hp} {f g : Addr} {as bs : List Addr} {ls ms : List (List (List Nat))} {Q : VK} (h1 : SqL K H f (as.map V.ref)) (r1 : Rows H as ls) (h2 : SqL K H g (bs.map V.ref)) (r2 : Rows H bs ms) (q : Q (.bl (decide (ls = ms))) H) : rEqP K (.ref f) (.ref g) H Q := by
  refine rEqP_of (a := ls.map fun l => l.map S) (b := ms.map fun l => l.map S) (by rw [toD_rows]; exact .lst h1 (dp_rows r1)) (by rw [toD_rows]; exact .lst h2 (dp_rows r2)) ?_
  rw [show decide ((ls.map fun l => l.map S) = ms.map fun l => l.map S) = decide (ls = ms) from decide_eq_decide.mpr ⟨rows_inj, fun e => by rw [e]⟩]
  exact q
/-! ### the least text -/
def leastL (x : List Nat) (xs : List (List Nat)) : List Nat := xs.foldl (fun a y => if y < a then y else a) x
def least : List (List Nat) → List Nat
  | [] => []
  | x :: xs => leastL x xs
theorem leastL_mem : ∀ (xs : List (List Nat)) (x : List Nat), leastL x xs ∈ x :: xs
  | [], x => List.mem_cons_self
  | y :: r, x => by
    show leastL (if y < x then y else x) r ∈ _
    have h := leastL_mem r (if y < x then y else x)
    rcases List.mem_cons.mp h with h | h
    · rw [h]
      split
      · exact List.mem_cons_of_mem _ List.mem_cons_self
      · exact List.mem_cons_self
    · exact List.mem_cons_of_mem _ (List.mem_cons_of_mem _ h)
theorem least_mem {xs : List (List Nat)} (h : xs ≠ []) : least xs ∈ xs := by
  cases xs with
  | nil => exact absurd rfl h
  | cons x r => exact leastL_mem r x
theorem minD_S : ∀ (ls : List (List Nat)) (x : List Nat), PySem.W.minD (.str (S x)) (ls.map fun l => .str (S l)) = .str (S (leastL x ls))
  | [], _ => rfl
  | y :: r, x => by
    show PySem.W.minD (if PySem.W.dataLt (.str (S y)) (.str (S x)) = true then .str (S y) else .str (S x)) (r.map fun l => .str (S l)) = .str (S (leastL (if y < x then y else x) r))
    rw [PySem.W.dataLt_str, S_cps, S_cps]
    by_cases h : y < x
    · rw [decide_eq_true h, if_pos rfl, if_pos h]; exact minD_S r y
    · rw [decide_eq_false h, if_neg Bool.false_ne_true, if_neg h]; exact minD_S r x
theorem depthAll_strs : ∀ ls : List (List Nat), PyData.depthAll (ls.map fun l => .str (S l)) = 0
  | [] => rfl
  | _ :: r => by
    show max 0 (PyData.depthAll (r.map fun l => .str (S l))) = 0
    rw [depthAll_strs r]
    rfl
theorem minS {K : PySem.W.Frag} {H : Hp} {a : Addr} {ls : List (List Nat)} {Q : VK} (hne : ls ≠ []) (hS : SqL K H a (txs ls)) (q : Q (.str (S (least ls))) H) : rMinD K [.ref a] H Q := by
  cases ls with
  | nil => exact absurd rfl hne
  | cons l r =>
    refine ⟨a, txs (l :: r), .str (S l), r.map fun l => .str (S l), rfl, hS, dp_txs (l :: r), ⟨?_, ?_⟩, ?_, fun i x hx hd => ?_⟩
    · intro x hx y hy
      obtain ⟨x', _, rfl⟩ := List.mem_map.mp (show x ∈ (l :: r).map fun l => PyData.str (S l) from hx)
      obtain ⟨y', _, rfl⟩ := List.mem_map.mp (show y ∈ (l :: r).map fun l => PyData.str (S l) from hy)
      show PySem.W.alike (.str _) (.str _) = true
      simp only [PySem.W.alike]
    · intro x hx e
      obtain ⟨x', _, rfl⟩ := List.mem_map.mp (show x ∈ (l :: r).map fun l => PyData.str (S l) from hx)
      cases e
    · rw [show PyData.depthAll (.str (S l) :: r.map fun l => .str (S l)) = 0 from depthAll_strs (l :: r)]
      decide
    · rw [minD_S] at hd
      obtain ⟨m, hm, rfl⟩ := strs_get hx
      have hd2 : ((l :: r).map fun l => PyData.str (S l))[i]? = some (.str (S (leastL l r))) := hd
      rw [List.getElem?_map, hm] at hd2
      have e : S m = S (leastL l r) := PyData.str.inj (Option.some.inj hd2)
      rw [e]
      exact q
/-! ### rows that rise, by a room -/
def lastL (rs : List (List (List Nat))) : List Nat := (rs.getLast?.getD []).getLast?.getD []
def ableL (ins : List (List Nat)) (rs : List (List (List Nat))) : List (List Nat) := ins.filter fun o => !decide (rs = []) && !decide (o < lastL rs)
def bestL (ins : List (List Nat)) (rs : List (List (List Nat))) : List Nat := least (if ableL ins rs = [] then ins else ableL ins rs)
def putL (ins : List (List Nat)) (rs : List (List (List Nat))) : List (List (List Nat)) := if ableL ins rs = [] then rs ++ [[bestL ins rs]] else rs.dropLast ++ [rs.getLast?.getD [] ++ [bestL ins rs]]
def insL (ins rst : List (List Nat)) (rs : List (List (List Nat))) : List (List Nat) := match rst with
  | [] => ins.erase (bestL ins rs)
  | x :: _ => ins.erase (bestL ins rs) ++ [x]
def runsF : Nat → List (List Nat) → List (List Nat) → List (List (List Nat)) → List (List (List Nat))
  | 0, _, _, rs => rs
  | n + 1, ins, rst, rs => if ins = [] then rs else runsF n (insL ins rst rs) rst.tail (putL ins rs)
theorem bestL_mem {ins : List (List Nat)} (h : ins ≠ []) (rs : List (List (List Nat))) : bestL ins rs ∈ ins := by
  unfold bestL
  by_cases e : ableL ins rs = []
  · rw [if_pos e]; exact least_mem h
  · rw [if_neg e]; exact (List.mem_filter.mp (show least (ableL ins rs) ∈ ins.filter _ from least_mem e)).1
/-! ### texts that rise -/
def Up (l : List (List Nat)) : Prop := l.Pairwise (· ≤ ·)
def srt (l : List (List Nat)) : List (List Nat) := l.mergeSort (fun a b => decide (a ≤ b))
theorem srt_up (l : List (List Nat)) : Up (srt l) := by
  have h := List.pairwise_mergeSort (le := fun a b : List Nat => decide (a ≤ b)) (fun a b c h1 h2 => decide_eq_true (List.le_trans (of_decide_eq_true h1) (of_decide_eq_true h2))) (fun a b => by
    rcases List.le_total a b with h | h
    · rw [decide_eq_true h]; rfl
    · rw [decide_eq_true h, Bool.or_true]) l
  exact h.imp fun h => of_decide_eq_true h
theorem srt_perm (l : List (List Nat)) : (srt l).Perm l := List.mergeSort_perm _ _
theorem up_uniq {a b : List (List Nat)} (p : a.Perm b) (h1 : Up a) (h2 : Up b) : a = b := List.Perm.eq_of_pairwise (fun _ _ _ _ x y => List.le_antisymm x y) h1 h2 p
theorem srt_of {a b : List (List Nat)} (p : a.Perm b) (h : Up a) : a = srt b := up_uniq (p.trans (srt_perm b).symm) h (srt_up b)
theorem up_srt {a : List (List Nat)} : a = srt a ↔ Up a := ⟨fun h => by rw [h]; exact srt_up a, fun h => srt_of (List.Perm.refl a) h⟩
theorem rising_up : ∀ (l : List (List Nat)) (x : List Nat), risingS (S x) (l.map S) = true → Up (x :: l)
  | [], _, _ => List.pairwise_singleton _ _
  | y :: r, x, h => by
    have h' : (!ltCps (S y).cps.toList (S x).cps.toList && risingS (S y) (r.map S)) = true := h
    rw [Bool.and_eq_true, ltCps_eq, S_cps, S_cps] at h'
    have h1 : x ≤ y := by
      have := h'.1
      rw [Bool.not_eq_true', decide_eq_false_iff_not] at this
      exact this
    have h2 := rising_up r y h'.2
    refine List.pairwise_cons.mpr ⟨fun z hz => ?_, h2⟩
    rcases List.mem_cons.mp hz with rfl | hz
    · exact h1
    · exact List.le_trans h1 ((List.pairwise_cons.mp h2).1 z hz)
theorem sorted_up {l : List (List Nat)} (h : sortedS (l.map S) = true) : Up l := by
  cases l with
  | nil => exact List.Pairwise.nil
  | cons x r => exact rising_up r x h
theorem txs_map (ls : List (List Nat)) : txs ls = (ls.map S).map V.str := by
  rw [List.map_map]
  rfl
theorem sort_txs {K : PySem.W.Frag} {H : Hp} {a : Addr} {ls : List (List Nat)} {Q : VK} (hS : SqL K H a (txs ls)) (h : ls.length < 64) (q : ∀ p, H p = none → Q (.ref p) (upd H p (.lst (txs (srt ls))))) : rSortedS K [.ref a] H Q := by
  refine ⟨a, ls.map S, rfl, by rw [← txs_map]; exact hS, by rw [List.length_map]; exact h, fun ys p hp hs np => ?_⟩
  obtain ⟨zs, rfl⟩ : ∃ zs : List (List Nat), ys = zs.map S := ⟨ys.map fun z => z.cps.toList, by
    rw [List.map_map]
    conv => lhs; rw [← List.map_id ys]
    exact List.map_congr_left fun z _ => S_of z⟩
  have hz : zs.Perm ls := by
    have := hp.map fun z : Str => z.cps.toList
    rw [List.map_map, List.map_map] at this
    have e : ∀ l : List (List Nat), l.map ((fun z : Str => z.cps.toList) ∘ S) = l := fun l => by
      conv => rhs; rw [← List.map_id l]
      exact List.map_congr_left fun z _ => S_cps z
    rw [e, e] at this
    exact this
  rw [← txs_map, srt_of hz (sorted_up hs)]
  exact q p np
/-! ### the least head -/
abbrev Hd := List Nat × Nat
def hdD (p : Hd) : Str × Int := (S p.1, (p.2 : Nat))
def leastP (x : Hd) (xs : List Hd) : Hd := xs.foldl (fun a y => if (if y.1 = a.1 then decide (y.2 < a.2) else decide (y.1 < a.1)) = true then y else a) x
theorem minOf_hd : ∀ (xs : List Hd) (x : Hd), PySem.W.minOf (hdD x) (xs.map hdD) = hdD (leastP x xs)
  | [], _ => rfl
  | y :: r, x => by
    show PySem.W.minOf (if PySem.W.DatumOrd.lt (hdD y) (hdD x) = true then hdD y else hdD x) (r.map hdD) = hdD (leastP (if (if y.1 = x.1 then decide (y.2 < x.2) else decide (y.1 < x.1)) = true then y else x) r)
    have e : PySem.W.DatumOrd.lt (hdD y) (hdD x) = (if y.1 = x.1 then decide (y.2 < x.2) else decide (y.1 < x.1)) := by
      show (if S y.1 = S x.1 then decide (((y.2 : Nat) : Int) < ((x.2 : Nat) : Int)) else decide ((S y.1).cps.toList < (S x.1).cps.toList)) = _
      rw [S_cps, S_cps]
      by_cases h : y.1 = x.1
      · rw [if_pos (by rw [h]), if_pos h]
        exact decide_eq_decide.mpr (by omega)
      · rw [if_neg (fun q => h (S_inj.mp q)), if_neg h]
    rw [e]
    by_cases h : (if y.1 = x.1 then decide (y.2 < x.2) else decide (y.1 < x.1)) = true
    · rw [if_pos h, if_pos h]; exact minOf_hd r y
    · rw [if_neg h, if_neg h]; exact minOf_hd r x
theorem hdD_inj {p q : Hd} (h : hdD p = hdD q) : p = q := by
  obtain ⟨a, i⟩ := p
  obtain ⟨b, j⟩ := q
  have h1 := congrArg Prod.fst h
  have h2 := congrArg Prod.snd h
  have h3 : a = b := S_inj.mp h1
  have h4 : ((i : Nat) : Int) = (j : Nat) := h2
  rw [h3, show i = j by omega]
/-- tuples of a text and a number stand there -/
def Heads (H : Hp) : List Addr → List Hd → Prop
  | [], [] => True
  | a :: as, p :: ps => H a = some (.tup [.str (S p.1), .int (p.2 : Nat)]) ∧ Heads H as ps
  | _, _ => False
theorem Heads.same {H H' : Hp} (s : Same H H') : ∀ {as : List Addr} {ls : List Hd}, Heads H as ls → Heads H' as ls
  | [], [], _ => trivial
  | _ :: _, _ :: _, h => ⟨s _ _ h.1, Heads.same s h.2⟩
  | [], _ :: _, h => h.elim
  | _ :: _, [], h => h.elim
theorem Heads.len {H : Hp} : ∀ {as : List Addr} {ls : List Hd}, Heads H as ls → as.length = ls.length
  | [], [], _ => rfl
  | _ :: _, _ :: _, h => congrArg (· + 1) (Heads.len h.2)
  | [], _ :: _, h => h.elim
  | _ :: _, [], h => h.elim
theorem Heads.snoc {H : Hp} {b : Addr} {p : Hd} : ∀ {as : List Addr} {ls : List Hd}, Heads H as ls → H b = some (.tup [.str (S p.1), .int (p.2 : Nat)]) → Heads H (as ++ [b]) (ls ++ [p])
  | [], [], _, h => ⟨h, trivial⟩
  | _ :: _, _ :: _, h, k => ⟨h.1, Heads.snoc h.2 k⟩
  | [], _ :: _, h, _ => h.elim
  | _ :: _, [], h, _ => h.elim
theorem Heads.get {H : Hp} : ∀ {as : List Addr} {ls : List Hd} {i : Nat} {a : Addr}, Heads H as ls → as[i]? = some a → ∃ p, ls[i]? = some p ∧ H a = some (.tup [.str (S p.1), .int (p.2 : Nat)])
  | a :: as, l :: ls, 0, _, h, e => by cases e; exact ⟨l, rfl, h.1⟩
  | a :: as, l :: ls, i + 1, _, h, e => Heads.get (as := as) (ls := ls) (i := i) h.2 e
  | [], [], _, _, _, e => by simp at e
  | [], _ :: _, _, _, h, _ => h.elim
  | _ :: _, [], _, _, h, _ => h.elim
theorem dp_heads {K : PySem.W.Frag} {H : Hp} : ∀ {as : List Addr} {ls : List Hd}, Heads H as ls → DpAll K H (as.map V.ref) ((ls.map hdD).map Datum.toD)
  | [], [], _ => .nil
  | _ :: _, _ :: _, h => .cons (.tup (SqT.of h.1) (.cons (.str _) (.cons (.int _) .nil))) (dp_heads h.2)
  | [], _ :: _, h => h.elim
  | _ :: _, [], h => h.elim
theorem depth_heads : ∀ ls : List Hd, PyData.depthAll ((ls.map hdD).map Datum.toD) ≤ 1
  | [] => Nat.zero_le _
  | _ :: r => Nat.max_le.mpr ⟨Nat.le_refl _, depth_heads r⟩
theorem minP {K : PySem.W.Frag} {H : Hp} {a : Addr} {as : List Addr} {p : Hd} {ps : List Hd} {Q : VK} (hS : SqL K H a (as.map V.ref)) (hh : Heads H as (p :: ps)) (q : ∀ t, H t = some (.tup [.str (S (leastP p ps).1), .int ((leastP p ps).2 : Nat)]) → Q (.ref t) H) : rMinD K [.ref a] H Q := by
  refine ⟨a, as.map V.ref, Datum.toD (hdD p), (ps.map hdD).map Datum.toD, rfl, hS, dp_heads hh, PySem.W.alikeAll_datum (hdD p :: ps.map hdD), Nat.le_trans (depth_heads (p :: ps)) (by decide), fun i x hx hd => ?_⟩
  rw [List.getElem?_map] at hx
  obtain ⟨t, ht, rfl⟩ := Option.map_eq_some_iff.mp hx
  obtain ⟨p', hp', hH⟩ := hh.get ht
  rw [PySem.W.minD_map, minOf_hd] at hd
  have h2 : (((p :: ps).map hdD).map Datum.toD)[i]? = some (Datum.toD (hdD (leastP p ps)) : PyData) := hd
  rw [List.getElem?_map, List.getElem?_map, hp'] at h2
  have h3 : (Datum.toD (hdD p') : PyData) = Datum.toD (hdD (leastP p ps)) := Option.some.inj h2
  have h4 : hdD p' = hdD (leastP p ps) := by
    have := congrArg (fun d => PyData.eqv d (Datum.toD (hdD (leastP p ps)))) h3
    simp only [Datum.eqv] at this
    simpa using this
  rw [hdD_inj h4] at hH
  exact q t hH
def hdOf (l : List (List Nat)) (k : Nat) : List Hd := match l with
  | [] => []
  | w :: _ => [(w, k)]
def hdsFrom : Nat → List (List (List Nat)) → List Hd
  | _, [] => []
  | k, l :: r => hdOf l k ++ hdsFrom (k + 1) r
def headsL (rs : List (List (List Nat))) : List Hd := hdsFrom 0 rs
theorem hdsFrom_snoc : ∀ (rs : List (List (List Nat))) (k : Nat) (l : List (List Nat)), hdsFrom k (rs ++ [l]) = hdsFrom k rs ++ hdOf l (k + rs.length)
  | [], k, l => by
    show hdOf l k ++ [] = [] ++ hdOf l k
    rw [List.append_nil, List.nil_append]
  | x :: r, k, l => by
    show hdOf x k ++ hdsFrom (k + 1) (r ++ [l]) = hdOf x k ++ hdsFrom (k + 1) r ++ hdOf l (k + (r.length + 1))
    rw [hdsFrom_snoc r (k + 1) l, List.append_assoc, show k + 1 + r.length = k + (r.length + 1) by omega]
theorem hdsFrom_mem : ∀ {rs : List (List (List Nat))} {k : Nat} {p : Hd}, p ∈ hdsFrom k rs → ∃ j tl, p.2 = k + j ∧ rs[j]? = some (p.1 :: tl)
  | [], _, _, h => by cases h
  | [] :: r, k, p, h => by
    obtain ⟨j, tl, h1, h2⟩ := hdsFrom_mem (rs := r) (k := k + 1) h
    exact ⟨j + 1, tl, by omega, h2⟩
  | (w :: tl) :: r, k, p, h => by
    rcases List.mem_cons.mp (show p ∈ (w, k) :: hdsFrom (k + 1) r from h) with rfl | h
    · exact ⟨0, tl, rfl, rfl⟩
    · obtain ⟨j, tl, h1, h2⟩ := hdsFrom_mem (rs := r) (k := k + 1) h
      exact ⟨j + 1, tl, by omega, h2⟩
theorem hdsFrom_nil : ∀ {rs : List (List (List Nat))} {k : Nat}, hdsFrom k rs = [] ↔ ∀ l ∈ rs, l = []
  | [], _ => ⟨fun _ l h => (by cases h), fun _ => rfl⟩
  | [] :: r, k => by
    show hdsFrom (k + 1) r = [] ↔ _
    rw [hdsFrom_nil (rs := r)]
    exact ⟨fun h l hl => (List.mem_cons.mp hl).elim id (h l), fun h l hl => h l (List.mem_cons_of_mem _ hl)⟩
  | (w :: tl) :: r, k => ⟨fun h => (by cases h), fun h => absurd (h _ List.mem_cons_self) (by intro e; cases e)⟩
theorem leastP_mem : ∀ (xs : List Hd) (x : Hd), leastP x xs ∈ x :: xs
  | [], x => List.mem_cons_self
  | y :: r, x => by
    show leastP (if (if y.1 = x.1 then decide (y.2 < x.2) else decide (y.1 < x.1)) = true then y else x) r ∈ _
    have h := leastP_mem r (if (if y.1 = x.1 then decide (y.2 < x.2) else decide (y.1 < x.1)) = true then y else x)
    rcases List.mem_cons.mp h with h | h
    · rw [h]
      by_cases e : (if y.1 = x.1 then decide (y.2 < x.2) else decide (y.1 < x.1)) = true
      · rw [if_pos e]; exact List.mem_cons_of_mem _ List.mem_cons_self
      · rw [if_neg e]; exact List.mem_cons_self
    · exact List.mem_cons_of_mem _ (List.mem_cons_of_mem _ h)
theorem sum_set : ∀ {rs : List (List (List Nat))} {k : Nat} {w : List Nat} {tl : List (List Nat)}, rs[k]? = some (w :: tl) → ((rs.set k tl).map List.length).sum + 1 = (rs.map List.length).sum
  | l :: r, 0, w, tl, h => by
    cases h
    rw [List.set_cons_zero, List.map_cons, List.map_cons, List.sum_cons, List.sum_cons, List.length_cons]
    omega
  | l :: r, k + 1, w, tl, h => by
    have := sum_set (rs := r) (k := k) (w := w) (tl := tl) h
    rw [List.set_cons_succ, List.map_cons, List.map_cons, List.sum_cons, List.sum_cons]
    omega
  | [], _, _, _, h => by simp at h
theorem Rows.set {H : Hp} {b : Addr} {tl : List (List Nat)} : ∀ {as : List Addr} {ls : List (List (List Nat))} {k : Nat}, Rows H as ls → as[k]? = some b → as.Nodup → Rows (L2.upd H b (.lst (txs tl))) as (ls.set k tl)
  | a :: as, l :: ls, 0, h, e, n => by
    cases e
    exact ⟨upd_same, h.2.upd (List.nodup_cons.mp n).1⟩
  | a :: as, l :: ls, k + 1, h, e, n => by
    have hb : b ∈ as := List.mem_of_getElem? (show as[k]? = some b from e)
    refine ⟨?_, Rows.set (as := as) (ls := ls) (k := k) h.2 e (List.nodup_cons.mp n).2⟩
    rw [upd_ne (fun q => (List.nodup_cons.mp n).1 (by rw [q]; exact hb))]
    exact h.1
  | [], [], _, _, e, _ => by simp at e
  | [], _ :: _, _, h, _, _ => h.elim
  | _ :: _, [], _, h, _, _ => h.elim
theorem Heads.upd_lst {H : Hp} {b : Addr} {xs : List V} {o : HO} (hb : H b = some (.lst xs)) : ∀ {as : List Addr} {ls : List Hd}, Heads H as ls → Heads (L2.upd H b o) as ls
  | [], [], _ => trivial
  | _ :: _, _ :: _, h => ⟨by rw [upd_ne (ne_of h.1 hb (by intro z; cases z))]; exact h.1, Heads.upd_lst hb h.2⟩
  | [], _ :: _, h => h.elim
  | _ :: _, [], h => h.elim
def mergeF : Nat → List (List (List Nat)) → List (List Nat) → List (List Nat)
  | 0, _, fs => fs
  | n + 1, rs, fs => match headsL rs with
    | [] => fs
    | p :: ps => mergeF n (rs.set (leastP p ps).2 ((rs.getD (leastP p ps).2 []).tail)) (fs ++ [(leastP p ps).1])
theorem call_list_ofC {X : Cx} {K : PySem.W.Frag} (h : X.K = K) : CallR X (.type "list") (fun xs H Q => ∃ p ys, xs = [V.ref p] ∧ (SqL K H p ys ∨ SqT K H p ys) ∧ ∀ l, H l = none → Q (V.ref l) (upd H l (HO.lst ys))) := by
  subst h
  exact call_list_of
theorem sl_listC {X : Cx} {K : PySem.W.Frag} (h : X.K = K) : SlR X (rSlL K) := by
  subst h
  exact sl_list
end R
set_option maxRecDepth 100000
set_option maxHeartbeats 4000000
namespace R
open PySem PySem.Spec PyProof.Rows L2 RZ
open PySem.W (Datum)
def topS (i : Nat) : Stmt := PySem.Challenge.pw_reelrows_k20_merges_refused.main.body.getD i (.Pass ⟨0, 0, 0, 0⟩)
abbrev s_NoFile___init__ : Stmt := inClass (topS 14) 0
abbrev N_NoFile___init__ : List Str := ["self", "number"]
theorem sc_NoFile___init__ : FnScope ["self", "number"] ["self", "number"] (defScope s_NoFile___init__) := ⟨rfl, rfl, rfl, by decide +kernel, rfl, by decide +kernel, by decide +kernel⟩
abbrev s_Kept___init__ : Stmt := inClass (topS 15) 0
abbrev N_Kept___init__ : List Str := ["self", "number"]
theorem sc_Kept___init__ : FnScope ["self", "number"] ["self", "number"] (defScope s_Kept___init__) := ⟨rfl, rfl, rfl, by decide +kernel, rfl, by decide +kernel, by decide +kernel⟩
abbrev s_is_whole : Stmt := topS 16
abbrev N_is_whole : List Str := ["thing", "low", "high"]
theorem sc_is_whole : FnScope ["thing", "low", "high"] ["thing", "low", "high"] (defScope s_is_whole) := ⟨rfl, rfl, rfl, by decide +kernel, rfl, by decide +kernel, by decide +kernel⟩
abbrev s_look_number : Stmt := topS 17
abbrev N_look_number : List Str := ["thing", "low", "high"]
theorem sc_look_number : FnScope ["thing", "low", "high"] ["thing", "low", "high"] (defScope s_look_number) := ⟨rfl, rfl, rfl, by decide +kernel, rfl, by decide +kernel, by decide +kernel⟩
abbrev s_look_texts : Stmt := topS 19
abbrev N_look_texts : List Str := ["records", "record"]
theorem sc_look_texts : FnScope ["records", "record"] ["records"] (defScope s_look_texts) := ⟨rfl, rfl, rfl, by decide +kernel, rfl, by decide +kernel, by decide +kernel⟩
abbrev s_runs_of : Stmt := topS 20
abbrev N_runs_of : List Str := ["records", "room", "inside", "rest", "found", "able", "best", "one"]
theorem sc_runs_of : FnScope ["records", "room", "inside", "rest", "found", "able", "best", "one"] ["records", "room"] (defScope s_runs_of) := ⟨rfl, rfl, rfl, by decide +kernel, rfl, by decide +kernel, by decide +kernel⟩
abbrev s_merged : Stmt := topS 21
abbrev N_merged : List Str := ["rows", "row", "left", "found", "heads", "best", "at", "k"]
theorem sc_merged : FnScope ["rows", "row", "left", "found", "heads", "best", "at", "k"] ["rows"] (defScope s_merged) := ⟨rfl, rfl, rfl, by decide +kernel, rfl, by decide +kernel, by decide +kernel⟩
abbrev s_passes : Stmt := topS 22
abbrev N_passes : List Str := ["rows", "ways", "turns"]
theorem sc_passes : FnScope ["rows", "ways", "turns"] ["rows", "ways"] (defScope s_passes) := ⟨rfl, rfl, rfl, by decide +kernel, rfl, by decide +kernel, by decide +kernel⟩
abbrev s_sorted_by : Stmt := topS 23
abbrev N_sorted_by : List Str := ["records", "room", "ways", "rows", "turns", "k"]
theorem sc_sorted_by : FnScope ["records", "room", "ways", "rows", "turns", "k"] ["records", "room", "ways"] (defScope s_sorted_by) := ⟨rfl, rfl, rfl, by decide +kernel, rfl, by decide +kernel, by decide +kernel⟩
abbrev s__law_town : Stmt := topS 25
abbrev N__law_town : List Str := ["_law_script"]
theorem sc__law_town : FnScope ["_law_script"] ["_law_script"] (defScope s__law_town) := ⟨rfl, rfl, rfl, by decide +kernel, rfl, by decide +kernel, by decide +kernel⟩
abbrev s__law_draw : Stmt := topS 26
abbrev N__law_draw : List Str := ["_law_town_here", "_law_many", "_law_row", "_law_at", "_law_cell", "_law_mixed"]
theorem sc__law_draw : FnScope ["_law_town_here", "_law_many", "_law_row", "_law_at", "_law_cell", "_law_mixed"] ["_law_town_here", "_law_many"] (defScope s__law_draw) := ⟨rfl, rfl, rfl, by decide +kernel, rfl, by decide +kernel, by decide +kernel⟩
abbrev s__law_pick : Stmt := topS 27
abbrev N__law_pick : List Str := ["_law_town_here", "_law_some"]
theorem sc__law_pick : FnScope ["_law_town_here", "_law_some"] ["_law_town_here", "_law_some"] (defScope s__law_pick) := ⟨rfl, rfl, rfl, by decide +kernel, rfl, by decide +kernel, by decide +kernel⟩
abbrev s__law_refusal : Stmt := topS 28
abbrev N__law_refusal : List Str := ["_law_caught", "_law_kinds", "_law_words"]
theorem sc__law_refusal : FnScope ["_law_caught", "_law_kinds", "_law_words"] ["_law_caught"] (defScope s__law_refusal) := ⟨rfl, rfl, rfl, by decide +kernel, rfl, by decide +kernel, by decide +kernel⟩
abbrev s__law_does : Stmt := topS 29
abbrev N__law_does : List Str := ["_law_kind", "_law_one", "_law_two", "_law_three"]
theorem sc__law_does : FnScope ["_law_kind", "_law_one", "_law_two", "_law_three"] ["_law_kind", "_law_one", "_law_two", "_law_three"] (defScope s__law_does) := ⟨rfl, rfl, rfl, by decide +kernel, rfl, by decide +kernel, by decide +kernel⟩
abbrev s__law_asked : Stmt := topS 30
abbrev N__law_asked : List Str := ["_law_kind", "_law_one", "_law_two", "_law_three", "_law_caught", "e"]
theorem sc__law_asked : FnScope ["_law_kind", "_law_one", "_law_two", "_law_three", "_law_caught", "e"] ["_law_kind", "_law_one", "_law_two", "_law_three"] (defScope s__law_asked) := ⟨rfl, rfl, rfl, by decide +kernel, rfl, by decide +kernel, by decide +kernel⟩
abbrev s_law : Stmt := topS 31
abbrev N_law : List Str := ["_law_script", "_law_town_here", "_law_turn", "_law_bad", "_law_wrong", "_law_way", "_law_found", "_law_rows", "_law_kind"]
theorem sc_law : FnScope ["_law_script", "_law_town_here", "_law_turn", "_law_bad", "_law_wrong", "_law_way", "_law_found", "_law_rows", "_law_kind"] ["_law_script"] (defScope s_law) := ⟨rfl, rfl, rfl, by decide +kernel, rfl, by decide +kernel, by decide +kernel⟩
structure Txt (K : PySem.W.Frag) (mg : Str → Option Value) where
  NoFile : ExcNAt K mg "NoFile"
  BadBlock : ExcAt K mg "BadBlock"
  NoReel : ExcAt K mg "NoReel"
  Kept : ExcNAt K mg "Kept"
  AtStart : ExcAt K mg "AtStart"
  NoRing : ExcAt K mg "NoRing"
  BadNumber : ExcAt K mg "BadNumber"
  BadName : ExcAt K mg "BadName"
  ReelError : ExcAt K mg "ReelError"
  BadForm : ExcAt K mg "BadForm"
  AtEnd : ExcAt K mg "AtEnd"
  TooLong : ExcAt K mg "TooLong"
  BadReel : ExcAt K mg "BadReel"
  BadRecord : ExcAt K mg "BadRecord"
  BadLabel : ExcAt K mg "BadLabel"
  is_whole : DefAt K mg "is_whole" s_is_whole ["thing", "low", "high"]
  look_number : DefAt K mg "look_number" s_look_number ["thing", "low", "high"]
  look_texts : DefAt K mg "look_texts" s_look_texts ["records"]
  runs_of : DefKAt K mg "runs_of" s_runs_of
  merged : DefAt K mg "merged" s_merged ["rows"]
  passes : DefKAt K mg "passes" s_passes
  sorted_by : DefKAt K mg "sorted_by" s_sorted_by
  _law_town : DefAt K mg "_law_town" s__law_town ["_law_script"]
  _law_draw : DefAt K mg "_law_draw" s__law_draw ["_law_town_here", "_law_many"]
  _law_pick : DefAt K mg "_law_pick" s__law_pick ["_law_town_here", "_law_some"]
  _law_refusal : DefAt K mg "_law_refusal" s__law_refusal ["_law_caught"]
  _law_does : DefAt K mg "_law_does" s__law_does ["_law_kind", "_law_one", "_law_two", "_law_three"]
  _law_asked : DefAt K mg "_law_asked" s__law_asked ["_law_kind", "_law_one", "_law_two", "_law_three"]
  law : DefAt K mg "law" s_law ["_law_script"]
  z_isinstance : mg "isinstance" = none
  z_int : mg "int" = none
  z_bool : mg "bool" = none
  z_list : mg "list" = none
  z_all : mg "all" = none
  z_str : mg "str" = none
  z_min : mg "min" = none
  z_sorted : mg "sorted" = none
  z_any : mg "any" = none
  z_enumerate : mg "enumerate" = none
  z_len : mg "len" = none
  z_range : mg "range" = none
  z_ValueError : mg "ValueError" = none
  kb_runs_of_room : KBn K runs_of.d ["records", "room"] 1 ["room"] (fun us ws => us ++ ws) (fun us ws => us ++ ws)
  kb_sorted_by_room_ways : KBn K sorted_by.d ["records", "room", "ways"] 1 ["room", "ways"] (fun us ws => us ++ ws) (fun us ws => us ++ ws)
  kb_passes_ways : KBn K passes.d ["rows", "ways"] 1 ["ways"] (fun us ws => us ++ ws) (fun us ws => us ++ ws)
  xc_BadNumber : ExcC K BadNumber.C
  em_BadNumber : PySem.W.exmOne K (.ref BadNumber.C) (.ref ReelError.C) = some true
  iv_BadNumber : PySem.W.kitOne K (.ref BadNumber.C) (.type "ValueError") = some true
  is_BadNumber_ReelError : PySem.W.kitOne K (.ref BadNumber.C) (.ref ReelError.C) = some true
  is_BadNumber_BadNumber : PySem.W.kitOne K (.ref BadNumber.C) (.ref BadNumber.C) = some true
  is_BadNumber_BadName : PySem.W.kitOne K (.ref BadNumber.C) (.ref BadName.C) = some false
  is_BadNumber_BadReel : PySem.W.kitOne K (.ref BadNumber.C) (.ref BadReel.C) = some false
  is_BadNumber_NoRing : PySem.W.kitOne K (.ref BadNumber.C) (.ref NoRing.C) = some false
  is_BadNumber_AtEnd : PySem.W.kitOne K (.ref BadNumber.C) (.ref AtEnd.C) = some false
  is_BadNumber_AtStart : PySem.W.kitOne K (.ref BadNumber.C) (.ref AtStart.C) = some false
  is_BadNumber_TooLong : PySem.W.kitOne K (.ref BadNumber.C) (.ref TooLong.C) = some false
  is_BadNumber_BadForm : PySem.W.kitOne K (.ref BadNumber.C) (.ref BadForm.C) = some false
  is_BadNumber_BadRecord : PySem.W.kitOne K (.ref BadNumber.C) (.ref BadRecord.C) = some false
  is_BadNumber_BadBlock : PySem.W.kitOne K (.ref BadNumber.C) (.ref BadBlock.C) = some false
  is_BadNumber_BadLabel : PySem.W.kitOne K (.ref BadNumber.C) (.ref BadLabel.C) = some false
  is_BadNumber_NoReel : PySem.W.kitOne K (.ref BadNumber.C) (.ref NoReel.C) = some false
  is_BadNumber_NoFile : PySem.W.kitOne K (.ref BadNumber.C) (.ref NoFile.C) = some false
  is_BadNumber_Kept : PySem.W.kitOne K (.ref BadNumber.C) (.ref Kept.C) = some false
  xc_BadRecord : ExcC K BadRecord.C
  em_BadRecord : PySem.W.exmOne K (.ref BadRecord.C) (.ref ReelError.C) = some true
  iv_BadRecord : PySem.W.kitOne K (.ref BadRecord.C) (.type "ValueError") = some true
  is_BadRecord_ReelError : PySem.W.kitOne K (.ref BadRecord.C) (.ref ReelError.C) = some true
  is_BadRecord_BadNumber : PySem.W.kitOne K (.ref BadRecord.C) (.ref BadNumber.C) = some false
  is_BadRecord_BadName : PySem.W.kitOne K (.ref BadRecord.C) (.ref BadName.C) = some false
  is_BadRecord_BadReel : PySem.W.kitOne K (.ref BadRecord.C) (.ref BadReel.C) = some false
  is_BadRecord_NoRing : PySem.W.kitOne K (.ref BadRecord.C) (.ref NoRing.C) = some false
  is_BadRecord_AtEnd : PySem.W.kitOne K (.ref BadRecord.C) (.ref AtEnd.C) = some false
  is_BadRecord_AtStart : PySem.W.kitOne K (.ref BadRecord.C) (.ref AtStart.C) = some false
  is_BadRecord_TooLong : PySem.W.kitOne K (.ref BadRecord.C) (.ref TooLong.C) = some false
  is_BadRecord_BadForm : PySem.W.kitOne K (.ref BadRecord.C) (.ref BadForm.C) = some false
  is_BadRecord_BadRecord : PySem.W.kitOne K (.ref BadRecord.C) (.ref BadRecord.C) = some true
  is_BadRecord_BadBlock : PySem.W.kitOne K (.ref BadRecord.C) (.ref BadBlock.C) = some false
  is_BadRecord_BadLabel : PySem.W.kitOne K (.ref BadRecord.C) (.ref BadLabel.C) = some false
  is_BadRecord_NoReel : PySem.W.kitOne K (.ref BadRecord.C) (.ref NoReel.C) = some false
  is_BadRecord_NoFile : PySem.W.kitOne K (.ref BadRecord.C) (.ref NoFile.C) = some false
  is_BadRecord_Kept : PySem.W.kitOne K (.ref BadRecord.C) (.ref Kept.C) = some false
end R
set_option maxRecDepth 100000
set_option maxHeartbeats 4000000
namespace R
open PySem PySem.Spec PyProof.Rows L2 RZ
open PySem.W (Datum)
/-! ### the law's draws: some number below the bound; the town's two lists change, nothing else -/
def Town (H : Hp) (t r : Addr) : Prop := ∃ (c : Int) (ns : List Int), H t = some (.lst [.ref r, .int c]) ∧ H r = some (.lst (ns.map V.int)) ∧ 0 < ns.length ∧ ns.length ≤ 63
def But2 (t r : Addr) (H H' : Hp) : Prop := ∀ b o, H b = some o → b ≠ t → b ≠ r → H' b = some o
theorem But2.trans {t r : Addr} {H H1 H2 : Hp} (a : But2 t r H H1) (b : But2 t r H1 H2) : But2 t r H H2 := fun c o h h1 h2 => b c o (a c o h h1 h2) h1 h2
theorem But2.of_same {t r : Addr} {H H' : Hp} (e : Same H H') : But2 t r H H' := fun b o h _ _ => e b o h
theorem Town.same {H H' : Hp} {t r : Addr} (h : Town H t r) (e : Same H H') : Town H' t r := by
  obtain ⟨c, ns, h1, h2, h3, h4⟩ := h
  exact ⟨c, ns, e _ _ h1, e _ _ h2, h3, h4⟩
section
variable {P : Program} {w : World} {K : PySem.W.Frag} {mg : Str → Option Value} {base : Heap}
def sp__law_town (K : PySem.W.Frag) : Sp := fun vs H Q _ => ∃ (a : Addr) (ns : List Int), vs = [.ref a] ∧ SqL K H a (ns.map V.int) ∧ ns.length ≤ 63 ∧
  ∀ t r H', Same H H' → H t = none → H r = none → Town H' t r → Q (.ref t) H'
theorem ok__law_town (T : Txt K mg) : FnOk P w K mg base (L2.CX P w) 1 T._law_town.a T._law_town.d ["_law_script"] (sp__law_town K) := by
  refine T._law_town.F.okX sc__law_town (fun vs H Q E h => ?_) (fun cdv A outer s H vs Q E hr h => ?_)
  · obtain ⟨a, ns, rfl, _⟩ := h
    rfl
  · obtain ⟨a, ns, rfl, hS, hlen, k⟩ := h
    refine ⟨_, (pss_one (ps_ret (pe_lst (pa_cons (pe_ifExp (pt_cmpR (op_neP hr.units) (pv 0) (pe_lst pa_nil) (nomark _)) (pe_callTy call_list_of (by rfl) T.z_list (by decide +kernel) (pa_cons (pv 0) pa_nil)) (pe_lst (pa_cons pe_int pa_nil))) (pa_cons pe_int pa_nil))))), ?_⟩
    refine ⟨_, rfl, Nat.zero_le _, fun p np => ?_⟩
    have s1 := same_new (o := .lst []) np
    refine rNeP_of (dp_intsL (sql_same hS s1)) (dp_intsL (ns := []) (SqL.of upd_same)) ⟨_, rfl, ?_⟩
    refine iteN (fun e => ?_) (fun e => ?_)
    · refine ⟨_, rfl, a, _, rfl, .inl (sql_same hS s1), fun l nl => ?_⟩
      have s2 := s1.trans (same_new (o := .lst (ns.map V.int)) nl)
      refine ⟨(by show 2 ≤ sizeLine; decide), fun t nt => k t l _ (s2.trans (same_new nt)) (s2.free nt) (s1.free nl) ⟨0, ns, upd_same, ?_, ?_, hlen⟩⟩
      · rw [upd_ne (ne_of_none upd_same nt), upd_same]
      · cases ns with
        | nil => exact absurd rfl e
        | cons x r => exact Nat.succ_pos _
    · refine ⟨by decide, fun l nl => ?_⟩
      have s2 := s1.trans (same_new (o := .lst [.int 0]) nl)
      refine ⟨(by show 2 ≤ sizeLine; decide), fun t nt => k t l _ (s2.trans (same_new nt)) (s2.free nt) (s1.free nl) ⟨0, [0], upd_same, ?_, by decide, by decide⟩⟩
      rw [upd_ne (ne_of_none upd_same nt), upd_same]
      all_goals rfl
def sp__law_draw : Sp := fun vs H Q _ => ∃ (t r : Addr) (m : Int), vs = [.ref t, .int m] ∧ Town H t r ∧ 0 < m ∧ m < 1073741824 ∧
  ∀ z H', 0 ≤ z → z < m → But2 t r H H' → Town H' t r → Q (.int z) H'
theorem ok__law_draw (T : Txt K mg) : FnOk P w K mg base (L2.CX P w) 1 T._law_draw.a T._law_draw.d ["_law_town_here", "_law_many"] sp__law_draw := by
  refine T._law_draw.F.okX sc__law_draw (fun vs H Q E h => ?_) (fun cdv A outer s H vs Q E hr h => ?_)
  · obtain ⟨t, r, m, rfl, _⟩ := h
    rfl
  · obtain ⟨t, r, m, rfl, ⟨c, ns, ht, hrr, hpos, hlen⟩, hm, hm2, k⟩ := h
    refine ⟨_, (pss_cons (ps_set (i := 2) sc__law_draw.nd rfl (.inl rfl) (pe_ix ix_list (pv 0) pe_int (fun _ _ => rfl)))
    (pss_cons (ps_asg (pe_op op_add (pe_ix ix_list (pv 0) pe_int (fun _ _ => rfl)) pe_int) (pg_sub (pv 0) pe_int set_list))
    (pss_cons (ps_set (i := 3) sc__law_draw.nd rfl (.inl rfl) (pe_op op_mod (pe_ix ix_list (pv 0) pe_int (fun _ _ => rfl)) (pe_callB call_len_seq (by rfl) T.z_len PySem.boot_len (pa_cons (pv 2) pa_nil))))
    (pss_cons (ps_set (i := 4) sc__law_draw.nd rfl (.inl rfl) (pe_ix ix_list (pv 2) (pv 3) (fun _ _ => rfl)))
    (pss_cons (ps_if (pt_cmpR op_ge (pv 4) pe_int (nomark _))
      (pss_cons (ps_asg (pe_op op_fdiv (pv 4) (pv 1)) (pg_sub (pv 2) (pv 3) set_list))
      (pss_one (ps_ret (pe_op op_mod (pv 4) (pv 1)))))
      pss_nil)
    (pss_cons (ps_set (i := 5) sc__law_draw.nd rfl (.inl rfl) (pe_op op_mod (pe_op op_add (pv 4) (pe_op op_mul pe_int (pe_ix ix_list (pv 0) pe_int (fun _ _ => rfl)))) pe_int))
    (pss_cons (ps_set (i := 5) sc__law_draw.nd rfl (.inl rfl) (pe_op op_mod (pe_op op_pow (pv 5) pe_int) pe_int))
    (pss_one (ps_ret (pe_op op_mod (pe_op op_fdiv (pe_op op_mod (pe_op op_add (pe_op op_mul (pe_op op_fdiv (pv 5) pe_int) pe_int) (pv 5)) pe_int) pe_int) (pv 1))))))))))), ?_⟩
    refine ⟨_, rfl, t, _, 0, _, rfl, rfl, SqL.of ht, rfl, ?_⟩
    refine ⟨_, rfl, t, _, 1, _, rfl, rfl, SqL.of ht, rfl, _, _, rfl, rfl, _, rfl, t, _, 1, 1, rfl, rfl, ht, rfl, ?_⟩
    have ntr : t ≠ r := by
      intro e; subst e
      rw [ht] at hrr
      cases ns with
      | nil => exact absurd hpos (Nat.lt_irrefl _)
      | cons x q => cases hrr
    have ht1 : upd H t (HO.lst [.ref r, .int (c + 1)]) t = some (.lst [.ref r, .int (c + 1)]) := upd_same
    have hr1 : upd H t (HO.lst [.ref r, .int (c + 1)]) r = some (.lst (ns.map V.int)) := by rw [upd_ne ntr.symm]; exact hrr
    have hl0 : (0 : Int) < ((ns.map V.int).length : Int) := by rw [List.length_map]; omega
    refine ⟨_, rfl, t, _, 1, _, rfl, rfl, SqL.of ht1, rfl, _, rfl, r, _, rfl, .inl (SqL.of hr1), _, _, rfl, rfl, hl0, ?_⟩
    have h0 : 0 ≤ (c + 1) % ((ns.map V.int).length : Int) := Int.emod_nonneg _ (by omega)
    have h1 : (c + 1) % ((ns.map V.int).length : Int) < ((ns.map V.int).length : Int) := Int.emod_lt_of_pos _ hl0
    obtain ⟨j, ej⟩ : ∃ j : Nat, (c + 1) % ((ns.map V.int).length : Int) = (j : Int) := ⟨((c + 1) % ((ns.map V.int).length : Int)).toNat, by omega⟩
    have hj : j < ns.length := by rw [List.length_map] at h1 ej; omega
    have gj : (ns.map V.int)[j]? = some (.int ns[j]) := by
      rw [List.getElem?_map, List.getElem?_eq_getElem hj]
      rfl
    refine ⟨_, rfl, _, rfl, r, _, _, _, rfl, rfl, SqL.of hr1, at_of ej gj, ?_⟩
    refine ⟨_, rfl, _, _, rfl, rfl, _, rfl, iteD (fun e => ?_) (fun e => ?_)⟩
    · have ixj : ixN (ns.map V.int).length ((c + 1) % ((ns.map V.int).length : Int)) = some j := by
        rw [ej]
        unfold ixN
        rw [if_pos (by omega), if_pos (by rw [List.length_map]; omega), Int.toNat_natCast]
      refine ⟨_, rfl, _, rfl, _, _, rfl, rfl, ⟨hm, hm2⟩, _, rfl, _, rfl, r, _, _, j, rfl, rfl, hr1, ixj, ?_⟩
      refine ⟨_, rfl, _, rfl, _, _, rfl, rfl, hm, ?_⟩
      refine k _ _ (Int.emod_nonneg _ (by omega)) (Int.emod_lt_of_pos _ hm) (fun b o hb n1 n2 => ?_) ⟨c + 1, ns.set j (ns[j] / m), ?_, ?_, ?_, ?_⟩
      · rw [upd_ne n2, upd_ne n1]; exact hb
      · rw [upd_ne ntr]; exact ht1
      · rw [upd_same, List.map_set]
      · rw [List.length_set]; exact hpos
      · rw [List.length_set]; exact hlen
    · refine ⟨_, rfl, _, rfl, t, _, 1, _, rfl, rfl, SqL.of ht1, rfl, _, _, rfl, rfl, .inl ⟨by decide, by decide⟩, _, _, rfl, rfl, _, _, rfl, rfl, (show (0 : Int) < 4294967291 by decide), ?_⟩
      have b0 : 0 ≤ (ns[j] + 104729 * (c + 1)) % 4294967291 := Int.emod_nonneg _ (by decide)
      have b1 : (ns[j] + 104729 * (c + 1)) % 4294967291 < 4294967291 := Int.emod_lt_of_pos _ (by decide)
      refine ⟨_, rfl, _, _, rfl, rfl, ⟨by decide, by decide, by omega⟩, _, _, rfl, rfl, (show (0 : Int) < 4294967279 by decide), ?_⟩
      generalize ((ns[j] + 104729 * (c + 1)) % 4294967291) ^ (5 : Int).toNat = q
      have c0 : 0 ≤ q % 4294967279 := Int.emod_nonneg _ (by decide)
      have c1 : q % 4294967279 < 4294967279 := Int.emod_lt_of_pos _ (by decide)
      refine ⟨_, rfl, _, _, rfl, rfl, ⟨by decide, by decide⟩, _, _, rfl, rfl, .inr ⟨by decide, by decide⟩, _, rfl, _, _, rfl, rfl, _, _, rfl, rfl, (show (0 : Int) < 4294967231 by decide), _, _, rfl, rfl, ⟨by decide, by decide⟩, _, rfl, _, _, rfl, rfl, hm, ?_⟩
      exact k _ _ (Int.emod_nonneg _ (by omega)) (Int.emod_lt_of_pos _ hm) (fun b o hb n1 n2 => by rw [upd_ne n1]; exact hb) ⟨c + 1, ns, ht1, hr1, hpos, hlen⟩
theorem sql_but2 {t r l : Addr} {H H' : Hp} {xs : List V} (h : SqL K H l xs) (n1 : l ≠ t) (n2 : l ≠ r) (k : But2 t r H H') : SqL K H' l xs := by
  rcases h with (h | ⟨o, h⟩) | h
  · exact .inl (.inl (k _ _ h n1 n2))
  · exact .inl (.inr ⟨o, k _ _ h n1 n2⟩)
  · exact .inr h
def sp__law_pick (K : PySem.W.Frag) : Sp := fun vs H Q _ => ∃ (t r l : Addr) (xs : List V), vs = [.ref t, .ref l] ∧ Town H t r ∧ SqL K H l xs ∧ l ≠ t ∧ l ≠ r ∧ 0 < xs.length ∧ xs.length < 1000 ∧
  ∀ (j : Nat) (v : V) (H' : Hp), xs[j]? = some v → But2 t r H H' → Town H' t r → Q v H'
theorem ok__law_pick (T : Txt K mg) : FnOk P w K mg base (L2.CX P w) 2 T._law_pick.a T._law_pick.d ["_law_town_here", "_law_some"] (sp__law_pick K) := by
  refine T._law_pick.F.okX sc__law_pick (fun vs H Q E h => ?_) (fun cdv A outer s H vs Q E hr h => ?_)
  · obtain ⟨t, r, l, xs, rfl, _⟩ := h
    rfl
  · obtain ⟨t, r, l, xs, rfl, hT, hl, n1, n2, hpos, hlen, k⟩ := h
    refine ⟨_, (pss_one (ps_ret (pe_ix ix_list (pv 1) (pe_call (ok__law_draw T) (hr.mono (by decide)) (by rfl) T._law_draw.g T._law_draw.F.kp T._law_draw.b .nil passL (pa_cons (pv 0) (pa_cons (pe_callB call_len_seq (by rfl) T.z_len PySem.boot_len (pa_cons (pv 1) pa_nil)) pa_nil))) (fun _ _ => rfl)))), ?_⟩
    refine ⟨_, rfl, _, rfl, _, rfl, _, _, rfl, .inl hl, t, r, _, rfl, hT, by omega, by omega, fun z H' h0 h1 kb hT' => ?_⟩
    obtain ⟨j, ej⟩ : ∃ j : Nat, z = (j : Int) := ⟨z.toNat, by omega⟩
    have hj : j < xs.length := by omega
    exact ⟨l, _, _, xs[j], rfl, rfl, sql_but2 hl n1 n2 kb, at_of ej (List.getElem?_eq_getElem hj), k j _ _ (List.getElem?_eq_getElem hj) kb hT'⟩
end
end R
set_option maxRecDepth 100000
set_option maxHeartbeats 4000000
namespace R
open PySem PySem.Spec PyProof.Rows L2 RZ
open PySem.W (Datum)
def isWhole (x : V) (lo hi : Int) : Bool := match x with
  | .int i => decide (lo ≤ i) && decide (i ≤ hi)
  | _ => false
def sigL : List Nat := [65, 66, 67, 68, 69, 70, 71, 72, 73, 74, 75, 76, 77, 78, 79, 80, 81, 82, 83, 84, 85, 86, 87, 88, 89, 90, 48, 49, 50, 51, 52, 53, 54, 55, 56, 57]
def nameL (l : List Nat) (m : Int) : Bool := decide (1 ≤ (l.length : Int)) && decide ((l.length : Int) ≤ m) && l.all fun c => decide (c ∈ sigL)
def isName (x : V) (m : Int) : Bool := match x with
  | .str z => nameL z.cps.toList m
  | _ => false
theorem isName_S (l : List Nat) (m : Int) : isName (.str (S l)) m = nameL l m := by
  show nameL (S l).cps.toList m = nameL l m
  rw [S_cps]
/-- a text's size is bounded -/
def Sz (x : V) : Prop := match x with
  | .str z => z.length < 16777216
  | _ => True
theorem all_id_map (l : List Nat) (f : Nat → Bool) : (l.map f).all id = l.all f := by
  rw [List.all_map]
  rfl
theorem len_cps (z : Str) : z.cps.toList.length = z.length := by simp [Str.length]
section
variable {P : Program} {w : World} {K : PySem.W.Frag} {mg : Str → Option Value} {base : Heap}
def sp_is_whole (K : PySem.W.Frag) : Sp := fun vs H Q _ => ∃ (x : V) (n : String) (lo hi : Int), vs = [x, .int lo, .int hi] ∧ Pl K H x n ∧ Q (.bl (isWhole x lo hi)) H
theorem ok_is_whole (T : Txt K mg) : FnOk P w K mg base (L2.CX P w) 1 T.is_whole.a T.is_whole.d ["thing", "low", "high"] (sp_is_whole K) := by
  refine T.is_whole.F.okX sc_is_whole (fun vs H Q E h => ?_) (fun cdv A outer s H vs Q E hr h => ?_)
  · obtain ⟨x, n, lo, hi, rfl, _⟩ := h
    rfl
  · obtain ⟨x, n, lo, hi, rfl, hp, k⟩ := h
    refine ⟨_, (pss_one (ps_ret (pe_and (pe_callB call_isi (by rfl) T.z_isinstance (by decide +kernel) (pa_cons (pv 0) (pa_cons (pe_bltn (v := .ty "int") (by rfl) T.z_int (by decide +kernel) rfl) pa_nil))) (pe_and (pe_not (pe_callB call_isi (by rfl) T.z_isinstance (by decide +kernel) (pa_cons (pv 0) (pa_cons (pe_bltn (v := .ty "bool") (by rfl) T.z_bool (by decide +kernel) rfl) pa_nil)))) (pe_one (pe_chain op_le op_le (pv 1) (pv 0) (pv 2))))))), ?_⟩
    refine ⟨_, rfl, _, _, _, _, _, rfl, .ty _, hp.ty, kit_int hp, _, rfl, ?_⟩
    have stop : ∀ b, isWhole x lo hi = b → Q (.bl b) H := fun b e => by rw [← e]; exact k
    cases hp with
    | int i =>
      refine iteT ⟨_, rfl, _, _, _, _, _, rfl, .ty _, (Pl.int i).ty, kit_bool (Pl.int (K := K) (H := H) i), _, rfl, _, rfl, iteT ?_⟩
      refine ⟨_, rfl, _, rfl, _, _, rfl, rfl, _, rfl, iteD (fun e => ?_) (fun e => ?_)⟩
      · refine ⟨_, rfl, _, _, rfl, rfl, stop _ ?_⟩
        simp [isWhole, e]
      · exact stop _ (by simp [isWhole, e])
    | bl b => exact iteT ⟨_, rfl, _, _, _, _, _, rfl, .ty _, (Pl.bl b).ty, kit_bool (Pl.bl (K := K) (H := H) b), _, rfl, _, rfl, iteF (stop _ rfl)⟩
    | non => exact iteF (stop _ rfl)
    | str z => exact iteF (stop _ rfl)
    | lst h => exact iteF (stop _ rfl)
    | tup h => exact iteF (stop _ rfl)
    | dct h => exact iteF (stop _ rfl)
def sp_look_number (K : PySem.W.Frag) (CN : Addr) : Sp := fun vs H Q E => ∃ (x : V) (n : String) (lo hi : Int), vs = [x, .int lo, .int hi] ∧ Pl K H x n ∧ (isWhole x lo hi = true → Q .non H) ∧ (isWhole x lo hi = false → E (.ref CN) none H)
theorem ok_look_number (T : Txt K mg) : FnOk P w K mg base (L2.CX P w) 2 T.look_number.a T.look_number.d ["thing", "low", "high"] (sp_look_number K T.BadNumber.C) := by
  refine T.look_number.F.okX sc_look_number (fun vs H Q E h => ?_) (fun cdv A outer s H vs Q E hr h => ?_)
  · obtain ⟨x, n, lo, hi, rfl, _⟩ := h
    rfl
  · obtain ⟨x, n, lo, hi, rfl, hp, k1, k2⟩ := h
    refine ⟨_, (pss_one (ps_if (pt_not (pt_val (pe_call (ok_is_whole T) (hr.mono (by decide)) (by rfl) T.is_whole.g T.is_whole.F.kp T.is_whole.b .nil (passes_call (takes_of rfl rfl rfl rfl) (fun _ _ _ _ h => h)) (pa_cons (pv 0) (pa_cons (pv 1) (pa_cons (pv 2) pa_nil))))))
      (pss_one (ps_raise rfl (takes_of rfl rfl rfl rfl) (pmk_own PySem.F.excBase_ValueError T.BadNumber.x T.BadNumber.g T.BadNumber.k (raises_own T.BadNumber.b T.BadNumber.t) (by exact rfl))))
      pss_nil)), ?_⟩
    refine ⟨_, rfl, _, rfl, _, rfl, x, n, lo, hi, rfl, hp, _, rfl, iteNB (fun e => ?_) (fun e => ?_)⟩
    · exact k2 e
    · exact k1 e
end
end R
set_option maxRecDepth 100000
set_option maxHeartbeats 4000000
namespace R
open PySem PySem.Spec PyProof.Rows L2 RZ
open PySem.W (Datum)
def isForm (l : List Nat) : Bool := decide (l = [70]) || (decide (l = [86]) || decide (l = [83]))
/-- form, block, size fit -/
def okSizes (l : List Nat) (b s : Int) : Bool := !(decide (l = [70]) && decide (b < s) || decide (l = [86]) && decide (b < s + 3))
def okForm (x b s : V) : Bool := match x, b, s with
  | .str z, .int b, .int s => isForm z.cps.toList && (isWhole (.int b) 5 60 && (isWhole (.int s) 1 200 && okSizes z.cps.toList b s))
  | _, _, _ => false
theorem inForms (l : List Nat) : inV (.str (S l)) [.str (S [70]), .str (S [86]), .str (S [83])] = isForm l := by
  have h : ∀ k : List Nat, eqV (.str (S k)) (.str (S l)) = decide (l = k) := by
    intro k
    show (S k == S l) = _
    rw [Bool.eq_iff_iff, beq_iff_eq, decide_eq_true_eq, S_inj]
    exact ⟨fun e => e.symm, fun e => e.symm⟩
  unfold inV isForm
  rw [List.any_cons, List.any_cons, List.any_cons, List.any_nil, h, h, h, Bool.or_false]
theorem whole_int {x : V} {lo hi : Int} (h : isWhole x lo hi = true) : ∃ i, x = .int i ∧ lo ≤ i ∧ i ≤ hi := by
  cases x with
  | int i =>
    have h' : (decide (lo ≤ i) && decide (i ≤ hi)) = true := h
    rw [Bool.and_eq_true, decide_eq_true_eq, decide_eq_true_eq] at h'
    exact ⟨i, rfl, h'⟩
  | _ => exact nomatch h
theorem okForm_iff {x b s : V} (h : okForm x b s = true) : ∃ (l : List Nat) (bi si : Nat), x = .str (S l) ∧ b = .int bi ∧ s = .int si ∧ isForm l = true ∧ 5 ≤ bi ∧ bi ≤ 60 ∧ 1 ≤ si ∧ si ≤ 200 ∧ okSizes l bi si = true := by
  unfold okForm at h
  split at h
  · rename_i z b s
    rw [Bool.and_eq_true, Bool.and_eq_true, Bool.and_eq_true] at h
    obtain ⟨h1, h2, h3, h4⟩ := h
    obtain ⟨i, e, h5, h6⟩ := whole_int h2
    obtain ⟨j, e', h7, h8⟩ := whole_int h3
    cases e
    cases e'
    have eb : ((b.toNat : Nat) : Int) = b := by omega
    have es : ((s.toNat : Nat) : Int) = s := by omega
    exact ⟨z.cps.toList, b.toNat, s.toNat, by rw [← S_of], by rw [eb], by rw [es], h1, by omega, by omega, by omega, by omega, by rw [eb, es]; exact h4⟩
  · exact nomatch h
theorem okForm_of {l : List Nat} {b s : Nat} (h1 : isForm l = true) (h2 : 5 ≤ b ∧ b ≤ 60) (h3 : 1 ≤ s ∧ s ≤ 200) (h4 : okSizes l b s = true) : okForm (.str (S l)) (.int b) (.int s) = true := by
  show (isForm (S l).cps.toList && (isWhole (.int b) 5 60 && (isWhole (.int s) 1 200 && okSizes (S l).cps.toList b s))) = true
  rw [S_cps, h1, h4]
  have e1 : isWhole (.int (b : Int)) 5 60 = true := by
    show (decide (5 ≤ (b : Int)) && decide ((b : Int) ≤ 60)) = true
    rw [decide_eq_true (by omega), decide_eq_true (by omega)]; rfl
  have e2 : isWhole (.int (s : Int)) 1 200 = true := by
    show (decide (1 ≤ (s : Int)) && decide ((s : Int) ≤ 200)) = true
    rw [decide_eq_true (by omega), decide_eq_true (by omega)]; rfl
  rw [e1, e2]; rfl
theorem iteOr {c d : Bool} {A B : Prop} (h1 : (c || d) = true → A) (h2 : (c || d) = false → B) : if c = true then (if true = true then A else B) else (if d = true then A else B) := by
  cases c with
  | true => exact iteT (iteT (h1 rfl))
  | false =>
    cases d with
    | true => exact iteF (iteT (h1 rfl))
    | false => exact iteF (iteF (h2 rfl))
section
variable {P : Program} {w : World} {K : PySem.W.Frag} {mg : Str → Option Value} {base : Heap}
end
end R
set_option maxRecDepth 100000
set_option maxHeartbeats 4000000
namespace R
open PySem PySem.Spec PyProof.Rows L2 RZ
open PySem.W (Datum)
theorem But2.refl {t r : Addr} (H : Hp) : But2 t r H H := fun _ _ h _ _ => h
theorem Town.ne {H : Hp} {t r p : Addr} (h : Town H t r) (n : H p = none) : p ≠ t ∧ p ≠ r := by
  obtain ⟨c, ns, h1, h2, _⟩ := h
  exact ⟨fun e => (by rw [e, h1] at n; cases n), fun e => (by rw [e, h2] at n; cases n)⟩
theorem town_new {H : Hp} {t r p : Addr} {o : HO} (h : Town H t r) (n : H p = none) : Town (upd H p o) t r := h.same (same_new n)
/-- a comprehension whose items draw -/
theorem lc_draw {J : It} {n : Nat} {G : Hp → Prop} {Y : Nat → Hp → V → Hp → Prop} (w : Walk J n G Y) {g : TG} {te : TE} {vs : List Nat} {σ : L2.St} {H1 : Hp} {D t r : Addr} {Qd : Hp → Prop} (R : Nat → V → Prop) (hn : n < 16777216) (nD : H1 D = none) (ht : Town H1 t r)
    (hY : ∀ i H x H', Y i H x H' → Same H H') (hG : ∀ H, But2 t r H1 H → G H)
    (hs : ∀ i x H H', i < n → But2 t r H1 H' → Town H' t r → Y i H x H' → ∀ Q : VK, (∀ y H2, R i y → But2 t r H' H2 → Town H2 t r → Q y H2) → g x (wipe σ vs) H' fun σ2 H2 => wipe σ2 vs = wipe σ vs ∧ te σ2 H2 Q)
    (hd : ∀ xs H, xs.length = n → (∀ i x, xs[i]? = some x → R i x) → But2 t r H1 H → Town H t r → H D = some (.lst xs) → Qd H)
    (hg : ∀ x σ H (R R' : L2.St → Hp → Prop), (∀ σ2 H2, R σ2 H2 → R' σ2 H2) → g x σ H R → g x σ H R') :
    ∃ W : Nat → Nat → Hp → Prop, (∃ m, W 0 m (upd H1 D (.lst []))) ∧ ∀ i m H, W i m H →
      (J.stop i H ∧ Qd H) ∨ (J.go i H ∧ ∃ Nx : Hp → Prop, (∀ H', Nx H' → ∃ m', m' < m ∧ W (i + 1) m' H') ∧ ∀ x H', J.yld i H x H' → g x (wipe σ vs) H' fun σ2 H2 => wipe σ2 vs = wipe σ vs ∧ tYes σ2 H2 fun b H3 =>
        if b = true then te σ2 H3 fun y H4 => ∃ acc, H4 D = some (.lst acc) ∧ acc.length < sizeLine ∧ Nx (upd H4 D (.lst (acc ++ [y]))) else Nx H3) := by
  have nt := ht.ne nD
  refine lc_it w (fun i H => But2 t r H1 H ∧ Town H t r ∧ ∃ xs, xs.length = i ∧ (∀ j x, xs[j]? = some x → R j x) ∧ H D = some (.lst xs)) ⟨But2.of_same (same_new nD), town_new ht nD, [], rfl, fun j x h => by simp at h, upd_same⟩ (fun i H _ p => hG H p.1) (fun i x H H' hi p y => ?_) (fun H p => ?_)
  · obtain ⟨pb, pt, xs, hl, hR, hD⟩ := p
    have sH' := hY _ _ _ _ y
    refine hg _ _ _ _ _ (fun σ2 H2 z => z) (hs i x H H' hi (pb.trans (But2.of_same sH')) (pt.same sH') y _ fun v H2 hv b2 t2 => ?_)
    have hD2 : H2 D = some (.lst xs) := b2 _ _ (sH' _ _ hD) nt.1 nt.2
    refine ⟨xs, hD2, szl (by omega), ?_, ?_, xs ++ [v], by rw [List.length_append, hl]; rfl, ?_, upd_same⟩
    · intro b o hb h1 h2
      rw [upd_ne (ne_of_none hb nD)]
      exact b2 _ _ (sH' _ _ (pb _ _ hb h1 h2)) h1 h2
    · obtain ⟨c, ns, g1, g2, g3, g4⟩ := t2
      exact ⟨c, ns, by rw [upd_ne nt.1.symm]; exact g1, by rw [upd_ne nt.2.symm]; exact g2, g3, g4⟩
    · intro j x hx
      by_cases hj : j < xs.length
      · rw [List.getElem?_append_left hj] at hx
        exact hR j x hx
      · rw [List.getElem?_append_right (by omega)] at hx
        have : j - xs.length = 0 := by
          cases e : j - xs.length with
          | zero => rfl
          | succ q => rw [e] at hx; simp at hx
        rw [this] at hx
        have ej : j = i := by omega
        rw [ej]
        have ex : v = x := Option.some.inj hx
        rw [← ex]
        exact hv
  · obtain ⟨pb, pt, xs, hl, hR, hD⟩ := p
    exact hd xs H hl hR pb pt hD
theorem chars_of {p : Nat → Prop} : ∀ {xs : List V}, (∀ (i : Nat) x, xs[i]? = some x → ∃ c, x = V.str (S [c]) ∧ p c) → ∃ l : List Nat, xs = (l.map fun c => [c]).map (fun l => V.str (S l)) ∧ l.length = xs.length ∧ ∀ c ∈ l, p c
  | [], _ => ⟨[], rfl, rfl, fun c h => by simp at h⟩
  | x :: xs, h => by
    obtain ⟨c, rfl, hc⟩ := h 0 x rfl
    obtain ⟨l, e, hl, hp⟩ := chars_of (xs := xs) fun i x hx => h (i + 1) x hx
    refine ⟨c :: l, by rw [e]; rfl, by simp [hl], fun d hd => ?_⟩
    rcases List.mem_cons.mp hd with rfl | hd
    · exact hc
    · exact hp d hd
theorem flat_chars (l : List Nat) : (l.map fun c => [c]).flatten = l := by
  induction l with
  | nil => rfl
  | cons c r ih => rw [List.map_cons, List.flatten_cons, ih]; rfl
section
variable {P : Program} {w : World} {K : PySem.W.Frag} {mg : Str → Option Value} {base : Heap}
end
end R
set_option maxRecDepth 100000
set_option maxHeartbeats 4000000
namespace R
open PySem PySem.Spec PyProof.Rows L2 RZ
open PySem.W (Datum)
/-! ### the name of a refusal -/
def W14 : List (List Nat) := [[110, 117, 109, 98, 101, 114], [110, 97, 109, 101], [114, 101, 101, 108], [114, 105, 110, 103], [101, 110, 100], [115, 116, 97, 114, 116], [108, 111, 110, 103], [102, 111, 114, 109], [114, 101, 99, 111, 114, 100], [98, 108, 111, 99, 107], [108, 97, 98, 101, 108], [110, 111, 32, 114, 101, 101, 108], [102, 105, 108, 101], [107, 101, 112, 116]]
def bsK (j : Nat) : List Bool := (List.range 14).map fun i => decide (i = j)
theorem bsK_count : ∀ j, j < 14 → (bsK j).count true = 1 := by decide
theorem bsK_at : ∀ j, j < 14 → (bsK j)[j]? = some true ∧ ∀ m, m < j → (bsK j)[m]? = some false := by decide
theorem W14_at : ∀ j, j < 14 → W14[j]? = some (W14.getD j []) := by decide
section
variable {P : Program} {w : World} {K : PySem.W.Frag} {mg : Str → Option Value} {base : Heap}
/-- the class at D is the j-th of the refusals -/
structure IsKind (T : Txt K mg) (D : Addr) (j : Nat) : Prop where
  x : ExcC K D
  k0 : PySem.W.kitOne K (.ref D) (.ref T.BadNumber.C) = some (decide (0 = j))
  k1 : PySem.W.kitOne K (.ref D) (.ref T.BadName.C) = some (decide (1 = j))
  k2 : PySem.W.kitOne K (.ref D) (.ref T.BadReel.C) = some (decide (2 = j))
  k3 : PySem.W.kitOne K (.ref D) (.ref T.NoRing.C) = some (decide (3 = j))
  k4 : PySem.W.kitOne K (.ref D) (.ref T.AtEnd.C) = some (decide (4 = j))
  k5 : PySem.W.kitOne K (.ref D) (.ref T.AtStart.C) = some (decide (5 = j))
  k6 : PySem.W.kitOne K (.ref D) (.ref T.TooLong.C) = some (decide (6 = j))
  k7 : PySem.W.kitOne K (.ref D) (.ref T.BadForm.C) = some (decide (7 = j))
  k8 : PySem.W.kitOne K (.ref D) (.ref T.BadRecord.C) = some (decide (8 = j))
  k9 : PySem.W.kitOne K (.ref D) (.ref T.BadBlock.C) = some (decide (9 = j))
  k10 : PySem.W.kitOne K (.ref D) (.ref T.BadLabel.C) = some (decide (10 = j))
  k11 : PySem.W.kitOne K (.ref D) (.ref T.NoReel.C) = some (decide (11 = j))
  k12 : PySem.W.kitOne K (.ref D) (.ref T.NoFile.C) = some (decide (12 = j))
  k13 : PySem.W.kitOne K (.ref D) (.ref T.Kept.C) = some (decide (13 = j))
  r : PySem.W.kitOne K (.ref D) (.ref T.ReelError.C) = some true
  v : PySem.W.kitOne K (.ref D) (.type "ValueError") = some true
  e : PySem.W.exmOne K (.ref D) (.ref T.ReelError.C) = some true
  lt : j < 14
theorem kind_BadNumber (T : Txt K mg) : IsKind T T.BadNumber.C 0 := ⟨T.xc_BadNumber, T.is_BadNumber_BadNumber, T.is_BadNumber_BadName, T.is_BadNumber_BadReel, T.is_BadNumber_NoRing, T.is_BadNumber_AtEnd, T.is_BadNumber_AtStart, T.is_BadNumber_TooLong, T.is_BadNumber_BadForm, T.is_BadNumber_BadRecord, T.is_BadNumber_BadBlock, T.is_BadNumber_BadLabel, T.is_BadNumber_NoReel, T.is_BadNumber_NoFile, T.is_BadNumber_Kept, T.is_BadNumber_ReelError, T.iv_BadNumber, T.em_BadNumber, by decide⟩
theorem kind_BadRecord (T : Txt K mg) : IsKind T T.BadRecord.C 8 := ⟨T.xc_BadRecord, T.is_BadRecord_BadNumber, T.is_BadRecord_BadName, T.is_BadRecord_BadReel, T.is_BadRecord_NoRing, T.is_BadRecord_AtEnd, T.is_BadRecord_AtStart, T.is_BadRecord_TooLong, T.is_BadRecord_BadForm, T.is_BadRecord_BadRecord, T.is_BadRecord_BadBlock, T.is_BadRecord_BadLabel, T.is_BadRecord_NoReel, T.is_BadRecord_NoFile, T.is_BadRecord_Kept, T.is_BadRecord_ReelError, T.iv_BadRecord, T.em_BadRecord, by decide⟩
def sp__law_refusal (T : Txt K mg) : Sp := fun vs H Q _ => ∃ (a D : Addr) (j : Nat), vs = [.ref a] ∧ H a = some (KeptE D a) ∧ IsKind T D j ∧ ∀ H', Same H H' → Q (.str (S (W14.getD j []))) H'
theorem ok__law_refusal (T : Txt K mg) : FnOk P w K mg base (L2.CX P w) 1 T._law_refusal.a T._law_refusal.d ["_law_caught"] (sp__law_refusal T) := by
  refine T._law_refusal.F.okX sc__law_refusal (fun vs H Q E h => ?_) (fun cdv A outer s0 H vs Q E hr h => ?_)
  · obtain ⟨a, D, j, rfl, _⟩ := h
    rfl
  · obtain ⟨a, D, j, rfl, ha, hk, k⟩ := h
    refine ⟨_, (pss_cons (ps_set (i := 1) sc__law_refusal.nd rfl (.inl rfl) (pe_lst (pa_cons (pe_callB call_isK (by rfl) T.z_isinstance (by decide +kernel) (pa_cons (pv 0) (pa_cons (pe_glob (v := .ref T.BadNumber.C) rfl T.BadNumber.g rfl) pa_nil))) (pa_cons (pe_callB call_isK (by rfl) T.z_isinstance (by decide +kernel) (pa_cons (pv 0) (pa_cons (pe_glob (v := .ref T.BadName.C) rfl T.BadName.g rfl) pa_nil))) (pa_cons (pe_callB call_isK (by rfl) T.z_isinstance (by decide +kernel) (pa_cons (pv 0) (pa_cons (pe_glob (v := .ref T.BadReel.C) rfl T.BadReel.g rfl) pa_nil))) pa_nil)))))
    (pss_cons (ps_set (i := 1) sc__law_refusal.nd rfl (.inl rfl) (pe_op op_cat (pv 1) (pe_lst (pa_cons (pe_callB call_isK (by rfl) T.z_isinstance (by decide +kernel) (pa_cons (pv 0) (pa_cons (pe_glob (v := .ref T.NoRing.C) rfl T.NoRing.g rfl) pa_nil))) (pa_cons (pe_callB call_isK (by rfl) T.z_isinstance (by decide +kernel) (pa_cons (pv 0) (pa_cons (pe_glob (v := .ref T.AtEnd.C) rfl T.AtEnd.g rfl) pa_nil))) (pa_cons (pe_callB call_isK (by rfl) T.z_isinstance (by decide +kernel) (pa_cons (pv 0) (pa_cons (pe_glob (v := .ref T.AtStart.C) rfl T.AtStart.g rfl) pa_nil))) pa_nil))))))
    (pss_cons (ps_set (i := 1) sc__law_refusal.nd rfl (.inl rfl) (pe_op op_cat (pv 1) (pe_lst (pa_cons (pe_callB call_isK (by rfl) T.z_isinstance (by decide +kernel) (pa_cons (pv 0) (pa_cons (pe_glob (v := .ref T.TooLong.C) rfl T.TooLong.g rfl) pa_nil))) (pa_cons (pe_callB call_isK (by rfl) T.z_isinstance (by decide +kernel) (pa_cons (pv 0) (pa_cons (pe_glob (v := .ref T.BadForm.C) rfl T.BadForm.g rfl) pa_nil))) (pa_cons (pe_callB call_isK (by rfl) T.z_isinstance (by decide +kernel) (pa_cons (pv 0) (pa_cons (pe_glob (v := .ref T.BadRecord.C) rfl T.BadRecord.g rfl) pa_nil))) pa_nil))))))
    (pss_cons (ps_set (i := 1) sc__law_refusal.nd rfl (.inl rfl) (pe_op op_cat (pv 1) (pe_lst (pa_cons (pe_callB call_isK (by rfl) T.z_isinstance (by decide +kernel) (pa_cons (pv 0) (pa_cons (pe_glob (v := .ref T.BadBlock.C) rfl T.BadBlock.g rfl) pa_nil))) (pa_cons (pe_callB call_isK (by rfl) T.z_isinstance (by decide +kernel) (pa_cons (pv 0) (pa_cons (pe_glob (v := .ref T.BadLabel.C) rfl T.BadLabel.g rfl) pa_nil))) (pa_cons (pe_callB call_isK (by rfl) T.z_isinstance (by decide +kernel) (pa_cons (pv 0) (pa_cons (pe_glob (v := .ref T.NoReel.C) rfl T.NoReel.g rfl) pa_nil))) pa_nil))))))
    (pss_cons (ps_set (i := 1) sc__law_refusal.nd rfl (.inl rfl) (pe_op op_cat (pv 1) (pe_lst (pa_cons (pe_callB call_isK (by rfl) T.z_isinstance (by decide +kernel) (pa_cons (pv 0) (pa_cons (pe_glob (v := .ref T.NoFile.C) rfl T.NoFile.g rfl) pa_nil))) (pa_cons (pe_callB call_isK (by rfl) T.z_isinstance (by decide +kernel) (pa_cons (pv 0) (pa_cons (pe_glob (v := .ref T.Kept.C) rfl T.Kept.g rfl) pa_nil))) pa_nil)))))
    (pss_cons (ps_if (PW.pt (pw_or (pt_cmpR op_ne (pe_bm PySem.F.plainAttrs_list PySem.F.slot_list_count PySem.F.type_list_count mt_cntB (pv 1) (pa_cons pe_bl pa_nil)) pe_int (nomark _)) (pw_or (pt_not (pt_val (pe_callB call_isK (by rfl) T.z_isinstance (by decide +kernel) (pa_cons (pv 0) (pa_cons (pe_glob (v := .ref T.ReelError.C) rfl T.ReelError.g rfl) pa_nil))))) (pw_or1 (pt_not (pt_val (pe_callB call_isK (by rfl) T.z_isinstance (by decide +kernel) (pa_cons (pv 0) (pa_cons (pe_bltn (v := .ty "ValueError") (by rfl) T.z_ValueError (by decide +kernel) rfl) pa_nil)))))))))
      (pss_one (ps_ret (pe_strS (l := [111, 100, 100]) (by decide +kernel))))
      pss_nil)
    (pss_cons (ps_set (i := 2) sc__law_refusal.nd rfl (.inl rfl) (pe_lst (pa_cons (pe_strS (l := [110, 117, 109, 98, 101, 114]) (by decide +kernel)) (pa_cons (pe_strS (l := [110, 97, 109, 101]) (by decide +kernel)) (pa_cons (pe_strS (l := [114, 101, 101, 108]) (by decide +kernel)) (pa_cons (pe_strS (l := [114, 105, 110, 103]) (by decide +kernel)) (pa_cons (pe_strS (l := [101, 110, 100]) (by decide +kernel)) (pa_cons (pe_strS (l := [115, 116, 97, 114, 116]) (by decide +kernel)) (pa_cons (pe_strS (l := [108, 111, 110, 103]) (by decide +kernel)) (pa_cons (pe_strS (l := [102, 111, 114, 109]) (by decide +kernel)) (pa_cons (pe_strS (l := [114, 101, 99, 111, 114, 100]) (by decide +kernel)) (pa_cons (pe_strS (l := [98, 108, 111, 99, 107]) (by decide +kernel)) (pa_cons (pe_strS (l := [108, 97, 98, 101, 108]) (by decide +kernel)) (pa_cons (pe_strS (l := [110, 111, 32, 114, 101, 101, 108]) (by decide +kernel)) pa_nil))))))))))))))
    (pss_one (ps_ret (pe_ix ix_list (pe_op op_cat (pv 2) (pe_lst (pa_cons (pe_strS (l := [102, 105, 108, 101]) (by decide +kernel)) (pa_cons (pe_strS (l := [107, 101, 112, 116]) (by decide +kernel)) pa_nil)))) (pe_bm PySem.F.plainAttrs_list PySem.F.slot_list_index PySem.F.type_list_index mt_index (pv 1) (pa_cons pe_bl pa_nil)) (fun _ _ => rfl))))))))))), ?_⟩
    refine ⟨_, rfl, a, D, _, _, _, rfl, ha, hk.x, fun _ h => h, hk.k0, _, rfl, a, D, _, _, _, rfl, ha, hk.x, fun _ h => h, hk.k1, _, rfl, a, D, _, _, _, rfl, ha, hk.x, fun _ h => h, hk.k2, sz (show 3 ≤ 16777216 by decide), fun p1 n1 => ?_⟩
    have s1 := same_new (o := .lst ([.bl (decide (0 = j)), .bl (decide (1 = j)), .bl (decide (2 = j))] : List V)) n1
    refine ⟨_, rfl, _, rfl, a, D, _, _, _, rfl, (s1 _ _ ha), hk.x, fun _ h => h, hk.k3, _, rfl, a, D, _, _, _, rfl, (s1 _ _ ha), hk.x, fun _ h => h, hk.k4, _, rfl, a, D, _, _, _, rfl, (s1 _ _ ha), hk.x, fun _ h => h, hk.k5, sz (show 3 ≤ 16777216 by decide), fun q0 mq0 => ?_⟩
    have tq0 := same_new (o := .lst ([.bl (decide (3 = j)), .bl (decide (4 = j)), .bl (decide (5 = j))] : List V)) mq0
    refine ⟨p1, q0, _, _, rfl, rfl, tq0 _ _ upd_same, upd_same, sz (show 6 ≤ 16777216 by decide), fun r0 mr0 => ?_⟩
    have tr0 := (s1.trans tq0).trans (same_new (o := .lst (([.bl (decide (0 = j)), .bl (decide (1 = j)), .bl (decide (2 = j))] : List V) ++ ([.bl (decide (3 = j)), .bl (decide (4 = j)), .bl (decide (5 = j))] : List V))) mr0)
    refine ⟨_, rfl, _, rfl, a, D, _, _, _, rfl, (tr0 _ _ ha), hk.x, fun _ h => h, hk.k6, _, rfl, a, D, _, _, _, rfl, (tr0 _ _ ha), hk.x, fun _ h => h, hk.k7, _, rfl, a, D, _, _, _, rfl, (tr0 _ _ ha), hk.x, fun _ h => h, hk.k8, sz (show 3 ≤ 16777216 by decide), fun q1 mq1 => ?_⟩
    have tq1 := same_new (o := .lst ([.bl (decide (6 = j)), .bl (decide (7 = j)), .bl (decide (8 = j))] : List V)) mq1
    refine ⟨r0, q1, _, _, rfl, rfl, tq1 _ _ upd_same, upd_same, sz (show 9 ≤ 16777216 by decide), fun r1 mr1 => ?_⟩
    have tr1 := (tr0.trans tq1).trans (same_new (o := .lst ((([.bl (decide (0 = j)), .bl (decide (1 = j)), .bl (decide (2 = j))] : List V) ++ ([.bl (decide (3 = j)), .bl (decide (4 = j)), .bl (decide (5 = j))] : List V)) ++ ([.bl (decide (6 = j)), .bl (decide (7 = j)), .bl (decide (8 = j))] : List V))) mr1)
    refine ⟨_, rfl, _, rfl, a, D, _, _, _, rfl, (tr1 _ _ ha), hk.x, fun _ h => h, hk.k9, _, rfl, a, D, _, _, _, rfl, (tr1 _ _ ha), hk.x, fun _ h => h, hk.k10, _, rfl, a, D, _, _, _, rfl, (tr1 _ _ ha), hk.x, fun _ h => h, hk.k11, sz (show 3 ≤ 16777216 by decide), fun q2 mq2 => ?_⟩
    have tq2 := same_new (o := .lst ([.bl (decide (9 = j)), .bl (decide (10 = j)), .bl (decide (11 = j))] : List V)) mq2
    refine ⟨r1, q2, _, _, rfl, rfl, tq2 _ _ upd_same, upd_same, sz (show 12 ≤ 16777216 by decide), fun r2 mr2 => ?_⟩
    have tr2 := (tr1.trans tq2).trans (same_new (o := .lst (((([.bl (decide (0 = j)), .bl (decide (1 = j)), .bl (decide (2 = j))] : List V) ++ ([.bl (decide (3 = j)), .bl (decide (4 = j)), .bl (decide (5 = j))] : List V)) ++ ([.bl (decide (6 = j)), .bl (decide (7 = j)), .bl (decide (8 = j))] : List V)) ++ ([.bl (decide (9 = j)), .bl (decide (10 = j)), .bl (decide (11 = j))] : List V))) mr2)
    refine ⟨_, rfl, _, rfl, a, D, _, _, _, rfl, (tr2 _ _ ha), hk.x, fun _ h => h, hk.k12, _, rfl, a, D, _, _, _, rfl, (tr2 _ _ ha), hk.x, fun _ h => h, hk.k13, sz (show 2 ≤ 16777216 by decide), fun q3 mq3 => ?_⟩
    have tq3 := same_new (o := .lst ([.bl (decide (12 = j)), .bl (decide (13 = j))] : List V)) mq3
    refine ⟨r2, q3, _, _, rfl, rfl, tq3 _ _ upd_same, upd_same, sz (show 14 ≤ 16777216 by decide), fun r3 mr3 => ?_⟩
    have tr3 := (tr2.trans tq3).trans (same_new (o := .lst ((((([.bl (decide (0 = j)), .bl (decide (1 = j)), .bl (decide (2 = j))] : List V) ++ ([.bl (decide (3 = j)), .bl (decide (4 = j)), .bl (decide (5 = j))] : List V)) ++ ([.bl (decide (6 = j)), .bl (decide (7 = j)), .bl (decide (8 = j))] : List V)) ++ ([.bl (decide (9 = j)), .bl (decide (10 = j)), .bl (decide (11 = j))] : List V)) ++ ([.bl (decide (12 = j)), .bl (decide (13 = j))] : List V))) mr3)
    have hl : ∀ {H' : Hp}, H' r3 = some (.lst ((((([.bl (decide (0 = j)), .bl (decide (1 = j)), .bl (decide (2 = j))] : List V) ++ ([.bl (decide (3 = j)), .bl (decide (4 = j)), .bl (decide (5 = j))] : List V)) ++ ([.bl (decide (6 = j)), .bl (decide (7 = j)), .bl (decide (8 = j))] : List V)) ++ ([.bl (decide (9 = j)), .bl (decide (10 = j)), .bl (decide (11 = j))] : List V)) ++ ([.bl (decide (12 = j)), .bl (decide (13 = j))] : List V))) → SqL K H' r3 ((bsK j).map V.bl) := fun {H'} h => SqL.of h
    have hc := bsK_count j hk.lt
    refine ⟨_, rfl, .inl ⟨rfl, _, hl upd_same⟩, r3, bsK j, rfl, rfl, hl upd_same, rfl, _, rfl, ?_⟩
    rw [hc]
    refine iteF ⟨_, rfl, a, D, _, _, _, rfl, (tr3 _ _ ha), hk.x, fun _ h => h, hk.r, _, rfl, iteF ⟨_, rfl, a, D, _, _, _, rfl, (tr3 _ _ ha), hk.x, fun _ h => h, hk.v, _, rfl, iteF ?_⟩⟩
    refine ⟨sz (by decide), fun pw nw => ?_⟩
    have u1 := same_new (o := .lst (txs (W14.take 12))) nw
    refine ⟨_, rfl, sz (by decide), fun pf nf => ⟨pw, pf, txs (W14.take 12), txs (W14.drop 12), rfl, rfl, (same_new nf _ _ upd_same), upd_same, sz (by decide), fun pc nc => ?_⟩⟩
    have u2 := (u1.trans (same_new (o := .lst (txs (W14.drop 12))) nf)).trans (same_new (o := .lst (txs (W14.take 12) ++ txs (W14.drop 12))) nc)
    obtain ⟨z1, z2⟩ := bsK_at j hk.lt
    refine ⟨_, rfl, .inl ⟨rfl, _, hl (u2 _ _ upd_same)⟩, r3, _, _, j, .bl true, rfl, rfl, hl (u2 _ _ upd_same), rfl, flat_bls _, by rw [List.getElem?_map, z1]; rfl, rfl, fun m z' hm hz => ?_, ?_⟩
    · rw [List.getElem?_map, z2 m hm] at hz
      cases hz
      rfl
    · refine ⟨pc, _, _, _, rfl, rfl, SqL.of upd_same, at_of (j := j) rfl (show (txs W14)[j]? = _ by rw [show txs W14 = W14.map (fun l => V.str (S l)) from rfl, List.getElem?_map, W14_at j hk.lt]; rfl), ?_⟩
      exact k _ (tr3.trans u2)
end
end R
set_option maxRecDepth 100000
set_option maxHeartbeats 4000000
namespace R
open PySem PySem.Spec PyProof.Rows L2 RZ
open PySem.W (Datum)
open PySem.NumText
/-- the signs of a text -/
def txt (x : V) : List Nat := match x with
  | .str z => z.cps.toList
  | _ => []
theorem txt_S (l : List Nat) : txt (.str (S l)) = l := S_cps l
theorem nameL_len {l : List Nat} {m : Nat} (h : nameL l m = true) : 1 ≤ l.length ∧ l.length ≤ m := by
  unfold nameL at h
  rw [Bool.and_eq_true, Bool.and_eq_true, decide_eq_true_eq, decide_eq_true_eq] at h
  omega
theorem isName_of {x : V} {m : Nat} (h : isName x m = true) : ∃ l, x = .str (S l) ∧ nameL l m = true := by
  cases x with
  | str z =>
    obtain ⟨l, rfl⟩ : ∃ l, z = S l := ⟨_, S_of z⟩
    rw [isName_S] at h
    exact ⟨l, rfl, h⟩
  | _ => exact nomatch h
def isDig (c : Nat) : Bool := decide (c ∈ ([48, 49, 50, 51, 52, 53, 54, 55, 56, 57] : List Nat))
theorem isDig_iff (c : Nat) : isDig c = true ↔ 48 ≤ c ∧ c ≤ 57 := by
  unfold isDig
  rw [decide_eq_true_eq]
  constructor
  · intro h
    simp only [List.mem_cons, List.not_mem_nil, or_false] at h
    omega
  · intro h
    obtain ⟨k, rfl⟩ : ∃ k, c = 48 + k := ⟨c - 48, by omega⟩
    have : ∀ k, k < 10 → (48 + k) ∈ ([48, 49, 50, 51, 52, 53, 54, 55, 56, 57] : List Nat) := by decide
    exact this k (by omega)
theorem allDig {l : List Nat} (h : l.all isDig = true) : ∀ c ∈ l, 48 ≤ c ∧ c ≤ 57 := fun c hc => (isDig_iff c).mp (List.all_eq_true.mp h c hc)
/-! ### what is read -/
def readVol (l : List Nat) : Option (List Nat × List Nat) :=
  if l.length = 18 ∧ l.take 4 = [86, 79, 76, 49] then
    (if nameL (bareL ((l.take 10).drop 4)) 8 = true ∧ nameL (bareL (l.drop 10)) 8 = true then some (bareL ((l.take 10).drop 4), bareL (l.drop 10)) else none)
  else none
section
variable {P : Program} {w : World} {K : PySem.W.Frag} {mg : Str → Option Value} {base : Heap}
end
end R
set_option maxRecDepth 100000
set_option maxHeartbeats 4000000
namespace R
open PySem PySem.Spec PyProof.Rows L2 RZ
open PySem.W (Datum)
def prnt (l : List Nat) : Bool := l.all fun c => decide (32 ≤ c) && decide (c ≤ 126)
def okRec (f : List Nat) (s : Int) : Option (List Nat) → Bool
  | none => false
  | some l => prnt l && !(decide (s < (l.length : Int)) || (decide (f = [70]) && decide ((l.length : Int) < s)))
def okRecs (f : List Nat) (s : Int) : Option (List (Option (List Nat))) → Bool
  | none => false
  | some rs => rs.all (okRec f s)
theorem lt_one (a b : Nat) : ([a] < [b]) ↔ a < b := by
  rw [List.cons_lt_cons_iff]
  exact ⟨fun h => h.elim id fun h => absurd h.2 (List.not_lt_nil _), .inl⟩
/-- the blocks that parts make: each in the block that is begun, as long as it has room -/
def fillStep (b : Int) (acc : List (List Nat)) (p : List Nat) : List (List Nat) :=
  match acc.getLast? with
  | none => acc ++ [p]
  | some l => if (l.length : Int) + p.length ≤ b then acc.dropLast ++ [l ++ p] else acc ++ [p]
def fill (b : Int) (ps : List (List Nat)) : List (List Nat) := ps.foldl (fillStep b) []
theorem fillStep_len (b : Int) (acc : List (List Nat)) (p : List Nat) : (fillStep b acc p).length ≤ acc.length + 1 := by
  unfold fillStep
  split
  · simp
  · split
    · rw [List.length_append, List.length_dropLast, List.length_singleton]; omega
    · simp
theorem fold_len (b : Int) : ∀ (ps acc : List (List Nat)), (ps.foldl (fillStep b) acc).length ≤ acc.length + ps.length
  | [], acc => by simp
  | p :: ps, acc => by
    rw [List.foldl_cons]
    have h1 := fold_len b ps (fillStep b acc p)
    have h2 := fillStep_len b acc p
    rw [List.length_cons]
    omega
theorem fill_take (b : Int) (ps : List (List Nat)) {i : Nat} {p : List Nat} (h : ps[i]? = some p) : fill b (ps.take (i + 1)) = fillStep b (fill b (ps.take i)) p := by
  unfold fill
  rw [List.take_add_one, h, Option.toList_some, List.foldl_append]
  rfl
theorem fill_all (b : Int) (hb : b < 1000000) : ∀ (ps acc : List (List Nat)), (∀ p ∈ ps, p.length < 1000000) → (∀ l ∈ acc, l.length < 1000000) → ∀ l ∈ ps.foldl (fillStep b) acc, l.length < 1000000
  | [], acc, _, h2, l, hl => h2 l hl
  | p :: ps, acc, h1, h2, l, hl => by
    rw [List.foldl_cons] at hl
    refine fill_all b hb ps _ (fun q hq => h1 q (List.mem_cons_of_mem _ hq)) (fun m hm => ?_) l hl
    have hp := h1 p List.mem_cons_self
    unfold fillStep at hm
    split at hm
    · rcases List.mem_append.mp hm with hm | hm
      · exact h2 m hm
      · rw [List.mem_singleton.mp hm]; exact hp
    · split at hm
      · rename_i l' _ hle
        rcases List.mem_append.mp hm with hm | hm
        · exact h2 m (List.dropLast_subset _ hm)
        · rw [List.mem_singleton.mp hm, List.length_append]; omega
      · rcases List.mem_append.mp hm with hm | hm
        · exact h2 m hm
        · rw [List.mem_singleton.mp hm]; exact hp
theorem snoc_cases {α : Type} (xs : List α) : xs = [] ∨ ∃ ys y, xs = ys ++ [y] := by
  cases h : xs.getLast? with
  | none => exact .inl (List.getLast?_eq_none_iff.mp h)
  | some y =>
    obtain ⟨ys, e⟩ := List.getLast?_eq_some_iff.mp h
    exact .inr ⟨ys, y, e⟩
theorem fillStep_nil (b : Int) (p : List Nat) : fillStep b [] p = [p] := rfl
theorem fillStep_snoc (b : Int) (ys : List (List Nat)) (l p : List Nat) : fillStep b (ys ++ [l]) p = if (l.length : Int) + p.length ≤ b then ys ++ [l ++ p] else ys ++ [l] ++ [p] := by
  unfold fillStep
  rw [List.getLast?_concat]
  dsimp only
  rw [List.dropLast_concat]
/-- the number of three figures ahead -/
def lenIn (t : List Nat) : Option Nat := if (t.take 3).length = 3 ∧ (t.take 3).all isDig = true then some (PySem.NumText.digitsVal (t.take 3)) else none
section
variable {P : Program} {w : World} {K : PySem.W.Frag} {mg : Str → Option Value} {base : Heap}
end
end R
set_option maxRecDepth 100000
set_option maxHeartbeats 8000000
set_option pp.maxSteps 1500
set_option pp.deepTerms false
namespace R
open PySem PySem.Spec PyProof.Rows L2 RZ
open PySem.W (Datum)
def okTx : Option (List (Option (List Nat))) → Bool
  | none => false
  | some rs => rs.all Option.isSome
theorem okTx_ls {r : Option (List (Option (List Nat)))} (h : okTx r = true) : ∃ ls : List (List Nat), r = some (ls.map some) := by
  cases r with
  | none => cases h
  | some rs =>
    refine ⟨rs.map fun o => o.getD [], ?_⟩
    rw [List.map_map]
    congr 1
    have h2 : rs.all Option.isSome = true := h
    rw [List.all_eq_true] at h2
    conv => lhs; rw [← List.map_id rs]
    refine List.map_congr_left fun o ho => ?_
    cases o with
    | none => exact absurd (h2 _ ho) (by decide)
    | some l => rfl
theorem okTx_of (ls : List (List Nat)) : okTx (some (ls.map some)) = true := by
  show (ls.map some).all Option.isSome = true
  rw [List.all_eq_true]
  intro o ho
  obtain ⟨l, _, rfl⟩ := List.mem_map.mp ho
  rfl
theorem items_some {K : PySem.W.Frag} {H : Hp} : ∀ {xs : List V} {ls : List (List Nat)}, Items K H xs (ls.map some) → xs = txs ls ∧ ∀ l ∈ ls, l.length < 16777216
  | [], [], _ => ⟨rfl, fun l h => by cases h⟩
  | _, l :: ls, .cons (.str _ hz) t => by
    obtain ⟨h1, h2⟩ := items_some t
    refine ⟨by rw [h1]; rfl, fun m hm => ?_⟩
    rcases List.mem_cons.mp hm with rfl | hm
    · exact hz
    · exact h2 m hm
section
variable {P : Program} {w : World} {K : PySem.W.Frag} {mg : Str → Option Value} {base : Heap}
def sp_look_texts (K : PySem.W.Frag) (CR : Addr) : Sp := fun vs H Q E => ∃ (v : V) (r : Option (List (Option (List Nat)))), vs = [v] ∧ Recs K H v r ∧ (okTx r = true → ∀ H', Same H H' → Q .non H') ∧ (okTx r = false → ∀ H', Same H H' → E (.ref CR) none H')
theorem ok_look_texts (T : Txt K mg) : FnOk P w K mg base (L2.CX P w) 1 T.look_texts.a T.look_texts.d ["records"] (sp_look_texts K T.BadRecord.C) := by
  refine T.look_texts.F.okX sc_look_texts (fun vs H Q E h => ?_) (fun cdv A outer s0 H vs Q E hr h => ?_)
  · obtain ⟨v, r, rfl, _⟩ := h
    rfl
  · obtain ⟨v, r, rfl, hR, k1, k2⟩ := h
    refine ⟨_, (pss_one (ps_if (PW.pt (pw_or (pt_not (pt_val (pe_callB call_isi (by rfl) T.z_isinstance (by decide +kernel) (pa_cons (pv 0) (pa_cons (pe_bltn (v := .ty "list") (by rfl) T.z_list (by decide +kernel) rfl) pa_nil))))) (pw_or1 (pt_not (pt_val (pe_callB (cr_all rfl) (by rfl) T.z_all (by decide +kernel) (pa_cons (pe_lc (own := [("record", 1)]) (g := gName 1) rfl sc_look_texts.nd (pi_listC (K := K) rfl (pv 0)) (blkOk_by (N := N_look_texts) (sc := defScope s_look_texts) (by decide +kernel)) (fun _ _ _ _ _ => (pg_name (i := 1) sc_look_texts.nd rfl (.inl rfl))) (fun _ _ _ _ _ => pts_nil) (fun _ _ _ _ _ => (pe_callB (call_isiC (K := K) rfl) (by rfl) T.z_isinstance (by decide +kernel) (pa_cons (pv 1) (pa_cons (pe_bltn (v := .ty "str") (by rfl) T.z_str (by decide +kernel) rfl) pa_nil))))) pa_nil)))))))
      (pss_one (ps_raise rfl (takes_of rfl rfl rfl rfl) (pmk_own PySem.F.excBase_ValueError T.BadRecord.x T.BadRecord.g T.BadRecord.k (raises_own T.BadRecord.b T.BadRecord.t) (by exact rfl))))
      pss_nil)), ?_⟩
    obtain ⟨n, hn, hl⟩ := hR.pl
    refine ⟨_, rfl, _, _, _, _, _, rfl, .ty _, hn.ty, kit_list hn, _, rfl, ?_⟩
    rw [hl]
    cases hR with
    | no h hn => exact iteT (k2 rfl _ (Same.refl _))
    | lst hS hi hz =>
      rename_i a xs rs
      refine iteF ?_
      refine ⟨_, rfl, a, rfl, ⟨_, hS⟩, fun D nD => lc_items (i := 1) Option.isSome hS hi hz nD (fun _ => rfl) (fun x r H' hr' hI s1 Q2 q2 => ?_) (fun H' s1 hD => ?_)⟩
      · obtain ⟨n1, hn1, hl1⟩ := hI.pl
        refine ⟨_, rfl, _, _, _, _, _, rfl, .ty _, hn1.ty, kit_str hn1, ?_⟩
        rw [hl1]
        exact q2 _ (Same.refl _)
      · refine ⟨_, _, rfl, SqL.of hD, _, rfl, ?_⟩
        have e : ((rs.map Option.isSome).all id) = okTx (some rs) := by
          rw [List.all_map]
          rfl
        rw [e]
        exact iteNB (fun e => k2 e _ s1) (fun e => k1 e _ s1)
/-- what the loop holds -/
structure RunI (H0 H : Hp) (i r f : Addr) (as : List Addr) (ins rst : List (List Nat)) (rs : List (List (List Nat))) : Prop where
  s : Same H0 H
  hi : H i = some (.lst (txs ins))
  hr : H r = some (.lst (txs rst))
  hf : H f = some (.lst (as.map V.ref))
  ro : Rows H as rs
  nd : (i :: r :: f :: as).Nodup
  fr : ∀ a ∈ i :: r :: f :: as, H0 a = none
  ne : ∀ l ∈ rs, l ≠ []
theorem RunI.same {H0 H H' : Hp} {i r f : Addr} {as : List Addr} {ins rst : List (List Nat)} {rs : List (List (List Nat))} (h : RunI H0 H i r f as ins rst rs) (s : Same H H') : RunI H0 H' i r f as ins rst rs :=
  ⟨h.s.trans s, s _ _ h.hi, s _ _ h.hr, s _ _ h.hf, h.ro.same s, h.nd, h.fr, h.ne⟩
theorem rows_last {rs : List (List (List Nat))} (h : rs ≠ []) (hne : ∀ l ∈ rs, l ≠ []) : ∃ rs0 l0 w, rs = rs0 ++ [l0 ++ [w]] ∧ lastL rs = w := by
  rcases snoc_cases rs with rfl | ⟨rs0, l, rfl⟩
  · exact absurd rfl h
  rcases snoc_cases l with rfl | ⟨l0, w, rfl⟩
  · exact absurd rfl (hne [] (List.mem_append_right _ List.mem_cons_self))
  · refine ⟨rs0, l0, w, rfl, ?_⟩
    unfold lastL
    rw [List.getLast?_concat, Option.getD_some, List.getLast?_concat]
    rfl
theorem insL_len {ins : List (List Nat)} (h : ins ≠ []) (rst : List (List Nat)) (rs : List (List (List Nat))) : (insL ins rst rs).length + rst.tail.length + 1 = ins.length + rst.length := by
  have h1 := List.length_erase_of_mem (bestL_mem h rs)
  have h2 : 0 < ins.length := List.length_pos_iff.mpr h
  unfold insL
  cases rst with
  | nil => simp; omega
  | cons x r => simp; omega
theorem runsF_nil (m : Nat) (rst : List (List Nat)) (rs : List (List (List Nat))) : runsF m [] rst rs = rs := by cases m <;> rfl
theorem sum_snoc (rs : List (List (List Nat))) (l : List (List Nat)) : ((rs ++ [l]).map List.length).sum = (rs.map List.length).sum + l.length := by
  rw [List.map_append, List.sum_append]
  show _ + (l.length + 0) = _
  omega
theorem sum_len {rs : List (List (List Nat))} (h : ∀ l ∈ rs, l ≠ []) : rs.length ≤ (rs.map List.length).sum := by
  induction rs with
  | nil => exact Nat.le_refl _
  | cons l r ih =>
    rw [List.length_cons, List.map_cons, List.sum_cons]
    have h1 := ih fun x hx => h x (List.mem_cons_of_mem _ hx)
    have h2 := List.length_pos_iff.mpr (h l List.mem_cons_self)
    omega
theorem ableL_nil (ins : List (List Nat)) : ableL ins [] = [] := by
  unfold ableL
  exact List.filter_eq_nil_iff.mpr fun a _ h => by simp at h
theorem putL_sum (ins : List (List Nat)) (rs : List (List (List Nat))) : ((putL ins rs).map List.length).sum = (rs.map List.length).sum + 1 := by
  unfold putL
  by_cases e : ableL ins rs = []
  · rw [if_pos e, sum_snoc]; rfl
  · rw [if_neg e]
    rcases snoc_cases rs with rfl | ⟨rs0, l, rfl⟩
    · exact absurd (ableL_nil ins) e
    · rw [List.dropLast_concat, List.getLast?_concat, sum_snoc, sum_snoc, Option.getD_some, List.length_append]
      rfl
theorem len_sum {rs : List (List (List Nat))} {l : List (List Nat)} (h : l ∈ rs) : l.length ≤ (rs.map List.length).sum := by
  induction rs with
  | nil => cases h
  | cons x r ih =>
    rw [List.map_cons, List.sum_cons]
    rcases List.mem_cons.mp h with rfl | h
    · omega
    · have := ih h; omega
theorem cut_txs_to (ls : List (List Nat)) (k : Nat) : cutV (txs ls) none (some (k : Int)) = txs (ls.take k) := by
  show sl (ls.map _) none (some (k : Int)) = _
  rw [sl_to, ← List.map_take]
  rfl
theorem cut_txs_from (ls : List (List Nat)) (k : Nat) : cutV (txs ls) (some (k : Int)) none = txs (ls.drop k) := by
  show sl (ls.map _) (some (k : Int)) none = _
  rw [sl_from, ← List.map_drop]
  rfl
def MidR (H0 : Hp) : TS := fun D σ H => ∃ (i r f b a : Addr) (as : List Addr) (ins rst l ab : List (List Nat)) (rs rs0 : List (List (List Nat))) (o0 o1 o6 : Option V), σ = [o0, o1, some (.ref i), some (.ref r), some (.ref f), some (.ref b), o6, none] ∧
  Same H0 H ∧ H i = some (.lst (txs ins)) ∧ H r = some (.lst (txs rst)) ∧ H f = some (.lst ((as ++ [a]).map V.ref)) ∧ Rows H as rs0 ∧ H a = some (.lst (txs l)) ∧ (i :: r :: f :: (as ++ [a])).Nodup ∧ (∀ x ∈ i :: r :: f :: (as ++ [a]), H0 x = none) ∧ (∀ l ∈ rs0, l ≠ []) ∧
  H b = some (.lst (txs ab)) ∧ ab ≠ [] ∧ least ab = bestL ins rs ∧ putL ins rs = rs0 ++ [l ++ [bestL ins rs]] ∧ ins ≠ [] ∧ l.length < 1000000 ∧ ins.length < 1000000 ∧
  ∀ H' b6 as2, RunI H0 H' i r f as2 (insL ins rst rs) rst.tail (putL ins rs) → D.nx [o0, o1, some (.ref i), some (.ref r), some (.ref f), some (.ref b), some b6, none] H'
def sp_runs_of (K : PySem.W.Frag) (CR CN : Addr) : Sp := fun vs H Q E => ∃ (v x : V) (r : Option (List (Option (List Nat)))) (n : String), vs = [v, x] ∧ Recs K H v r ∧ Pl K H x n ∧ (okTx r = false → ∀ H', Same H H' → E (.ref CR) none H') ∧
  (okTx r = true → isWhole x 1 50 = false → ∀ H', Same H H' → E (.ref CN) none H') ∧
  ∀ (ls : List (List Nat)) (k : Nat), r = some (ls.map some) → x = .int k → 1 ≤ k → k ≤ 50 → ls.length ≤ 100000 ∧ ∀ f as H', Same H H' → H' f = some (.lst (as.map V.ref)) → Rows H' as (runsF ls.length (ls.take k) (ls.drop k) []) → (f :: as).Nodup → (∀ a ∈ f :: as, H a = none) → Q (.ref f) H'
theorem ok_runs_of (T : Txt K mg) : FnOk P w K mg base (L2.CX P w) 3 T.runs_of.a T.runs_of.d ["records", "room"] (sp_runs_of K T.BadRecord.C T.BadNumber.C) := by
  refine T.runs_of.F.okX sc_runs_of (fun vs H Q E h => ?_) (fun cdv A outer s0 H vs Q E hr h => ?_)
  · obtain ⟨v, x, r, n, rfl, _⟩ := h
    rfl
  · obtain ⟨v, x, r, n, rfl, hR, hp, k1, k2, k3⟩ := h
    refine ⟨_, (pss_cons (ps_expr (pe_call (ok_look_texts T) (hr.mono (by decide)) (by rfl) T.look_texts.g T.look_texts.F.kp T.look_texts.b .nil (passes_call (takes_of rfl rfl rfl rfl) (fun _ _ _ _ h => h)) (pa_cons (pv 0) pa_nil)))
    (pss_cons (ps_expr (pe_call (ok_look_number T) (hr.mono (by decide)) (by rfl) T.look_number.g T.look_number.F.kp T.look_number.b .nil (passes_call (takes_of rfl rfl rfl rfl) (fun _ _ _ _ h => h)) (pa_cons (pv 1) (pa_cons pe_int (pa_cons pe_int pa_nil)))))
    (pss_cons (ps_set (i := 2) sc_runs_of.nd rfl (.inl rfl) (pe_callTy call_list_of (by rfl) T.z_list (by decide +kernel) (pa_cons (pe_slice sl_list (pv 0) po_none (po_some (pv 1))) pa_nil)))
    (pss_cons (ps_set (i := 3) sc_runs_of.nd rfl (.inl rfl) (pe_callTy call_list_of (by rfl) T.z_list (by decide +kernel) (pa_cons (pe_slice sl_list (pv 0) (po_some (pv 1)) po_none) pa_nil)))
    (pss_cons (ps_set (i := 4) sc_runs_of.nd rfl (.inr rfl) (pe_lst pa_nil))
    (pss_cons (ps_while (passes_of rfl) (pt_cmpR (op_neP hr.units) (pv 2) (pe_lst pa_nil) (nomark _))
      (pss_cons (ps_setLc (i := 5) (own := [("one", 7)]) (g := gName 7) rfl sc_runs_of.nd rfl rfl (sw_true rfl rfl rfl (by decide +kernel)) (pi_listC (K := K) rfl (pv 2)) (blkOk_by (N := N_runs_of) (sc := defScope s_runs_of) (by decide +kernel)) (fun _ _ _ _ _ => (pg_name (i := 7) sc_runs_of.nd rfl (.inl rfl))) (fun _ _ _ _ _ => (pts_one (PW.pt (pw_and (pt_cmpR (op_nePC (K := K) rfl hr.units) (pv 4) (pe_lst pa_nil) (nomark _)) (pw_and1 (pt_cmpR op_geS (pv 7) (pe_ix (ix_listC (K := K) rfl) (pe_ix (ix_listC (K := K) rfl) (pv 4) (pe_un un_neg pe_int) (fun _ _ => rfl)) (pe_un un_neg pe_int) (fun _ _ => rfl)) (nomark _))))))) (fun _ _ _ _ _ => (pv 7)))
      (pss_cons (ps_if (pt_cmpR (op_eqP hr.units) (pv 5) (pe_lst pa_nil) (nomark _))
        (pss_cons (ps_expr (pe_bm PySem.F.plainAttrs_list PySem.F.slot_list_append PySem.F.type_list_append mt_append (pv 4) (pa_cons (pe_lst pa_nil) pa_nil)))
        (pss_one (ps_set (i := 5) sc_runs_of.nd rfl (.inl rfl) (pv 2))))
        pss_nil)
      (PSs.mid (t' := MidR H) (pss_cons (ps_set (i := 6) sc_runs_of.nd rfl (.inl rfl) (pe_callB (cr_minD rfl hr.units) (by rfl) T.z_min (by decide +kernel) (pa_cons (pv 5) pa_nil)))
      (pss_cons (ps_expr (pe_bm PySem.F.plainAttrs_list PySem.F.slot_list_append PySem.F.type_list_append mt_append (pe_ix ix_list (pv 4) (pe_un un_neg pe_int) (fun _ _ => rfl)) (pa_cons (pv 6) pa_nil)))
      (pss_cons (ps_expr (pe_bm PySem.F.plainAttrs_list PySem.F.slot_list_remove PySem.F.type_list_remove mt_removeS (pv 2) (pa_cons (pv 6) pa_nil)))
      (pss_one (ps_if (pt_cmpR (op_neP hr.units) (pv 3) (pe_lst pa_nil) (nomark _))
        (pss_one (ps_expr (pe_bm PySem.F.plainAttrs_list PySem.F.slot_list_append PySem.F.type_list_append mt_append (pv 2) (pa_cons (pe_bm PySem.F.plainAttrs_list PySem.F.slot_list_pop PySem.F.type_list_pop mt_popAt (pv 3) (pa_cons pe_int pa_nil)) pa_nil))))
        pss_nil))))) ?m1))))
    (pss_one (ps_ret (pv 4))))))))), ?_⟩
    case m1 =>
      rintro D σ H1 ⟨i, r, f, b, a, as, ins, rst, l, ab, rs, rs0, o0, o1, o6, rfl, sm, hi, hrr, hf, hro, ha, hnd, hfr, hne, hb, hab, hle, hput, hins, hl, hil, kD⟩
      have nd1 : i ∉ r :: f :: (as ++ [a]) := (List.nodup_cons.mp hnd).1
      have nd2 : r ∉ f :: (as ++ [a]) := (List.nodup_cons.mp (List.nodup_cons.mp hnd).2).1
      have nd3 : f ∉ as ++ [a] := (List.nodup_cons.mp (List.nodup_cons.mp (List.nodup_cons.mp hnd).2).2).1
      have nd4 : (as ++ [a]).Nodup := (List.nodup_cons.mp (List.nodup_cons.mp (List.nodup_cons.mp hnd).2).2).2
      have nda : a ∉ as := by
        have := List.nodup_append.mp nd4
        exact fun h => this.2.2 a h a List.mem_cons_self rfl
      have ai : i ≠ a := fun e => nd1 (by rw [e]; exact List.mem_cons_of_mem _ (List.mem_cons_of_mem _ (List.mem_append_right _ List.mem_cons_self)))
      have ar : r ≠ a := fun e => nd2 (by rw [e]; exact List.mem_cons_of_mem _ (List.mem_append_right _ List.mem_cons_self))
      have af : f ≠ a := fun e => nd3 (by rw [e]; exact List.mem_append_right _ List.mem_cons_self)
      have ri : r ≠ i := fun e => nd1 (by rw [← e]; exact List.mem_cons_self)
      have fi : f ≠ i := fun e => nd1 (by rw [← e]; exact List.mem_cons_of_mem _ List.mem_cons_self)
      have fr' : f ≠ r := fun e => nd2 (by rw [← e]; exact List.mem_cons_self)
      have ias : i ∉ as := fun h => nd1 (List.mem_cons_of_mem _ (List.mem_cons_of_mem _ (List.mem_append_left _ h)))
      have ras : r ∉ as := fun h => nd2 (List.mem_cons_of_mem _ (List.mem_append_left _ h))
      have f0 : ∀ x, x = i ∨ x = r ∨ x = a → H x = none := fun x hx => hfr x (by
        rcases hx with rfl | rfl | rfl
        · exact List.mem_cons_self
        · exact List.mem_cons_of_mem _ List.mem_cons_self
        · exact List.mem_cons_of_mem _ (List.mem_cons_of_mem _ (List.mem_cons_of_mem _ (List.mem_append_right _ List.mem_cons_self))))
      have keep : ∀ {H2 : Hp} {x : Addr} {o : HO}, Same H H2 → H x = none → Same H (upd H2 x o) := fun {H2 x o} s n y q hy => by
        rw [upd_ne (ne_of_none hy n)]; exact s y q hy
      refine ⟨_, rfl, minS hab (SqL.of hb) ?_⟩
      rw [hle]
      have hbm := bestL_mem hins rs
      generalize hw : bestL ins rs = wd at *
      refine ⟨_, rfl, _, rfl, f, _, _, .ref a, rfl, rfl, SqL.of hf, (by rw [List.map_append]; exact atI_last _ _), .inl ⟨rfl, _, SqL.of ha⟩, _, rfl, a, _, _, rfl, rfl, ha, szl (by rw [strs_len]; omega), ?_⟩
      have ea : txs l ++ [V.str (S wd)] = txs (l ++ [wd]) := by rw [strs_app]; rfl
      rw [ea]
      have hi2 : upd H1 a (.lst (txs (l ++ [wd]))) i = some (.lst (txs ins)) := by rw [upd_ne ai]; exact hi
      refine ⟨_, rfl, .inl ⟨rfl, _, SqL.of hi2⟩, _, rfl, i, ins, wd, rfl, rfl, hi2, hbm, ?_⟩
      have s3 : Same H (upd (upd H1 a (.lst (txs (l ++ [wd])))) i (.lst (txs (ins.erase wd)))) := keep (keep sm (f0 a (.inr (.inr rfl)))) (f0 i (.inl rfl))
      have hr3 : upd (upd H1 a (.lst (txs (l ++ [wd])))) i (.lst (txs (ins.erase wd))) r = some (.lst (txs rst)) := by rw [upd_ne ri, upd_ne ar]; exact hrr
      have hf3 : upd (upd H1 a (.lst (txs (l ++ [wd])))) i (.lst (txs (ins.erase wd))) f = some (.lst ((as ++ [a]).map V.ref)) := by rw [upd_ne fi, upd_ne af]; exact hf
      have ro3 : Rows (upd (upd H1 a (.lst (txs (l ++ [wd])))) i (.lst (txs (ins.erase wd)))) (as ++ [a]) (rs0 ++ [l ++ [wd]]) := Rows.snoc ((hro.upd nda).upd ias) (by rw [upd_ne ai.symm]; exact upd_same)
      have ne3 : ∀ x ∈ rs0 ++ [l ++ [wd]], x ≠ [] := fun x hx => by
        rcases List.mem_append.mp hx with hx | hx
        · exact hne x hx
        · rw [List.mem_singleton.mp hx]; simp
      have hi3 : upd (upd H1 a (.lst (txs (l ++ [wd])))) i (.lst (txs (ins.erase wd))) i = some (.lst (txs (ins.erase wd))) := upd_same
      generalize upd (upd H1 a (.lst (txs (l ++ [wd])))) i (.lst (txs (ins.erase wd))) = H3 at *
      refine ⟨_, rfl, sz (by decide), fun e ne => ?_⟩
      have se := same_new (o := .lst []) ne
      refine ne_strs (ms := []) (SqL.of (se _ _ hr3)) (SqL.of upd_same) ⟨_, rfl, iteN (fun hn => ?_) (fun hn => ?_)⟩
      · cases rst with
        | nil => exact absurd rfl hn
        | cons y ys =>
          refine ⟨_, rfl, .inl ⟨rfl, _, SqL.of (se _ _ hi3)⟩, _, rfl, .inl ⟨rfl, _, SqL.of (se _ _ hr3)⟩, r, _, 0, 0, _, rfl, rfl, se _ _ hr3, by decide, by decide, by simp [seqIndex?, txs], rfl, i, txs (ins.erase wd), _, rfl, rfl, ?_, ?_, ?_⟩
          · rw [upd_ne ri.symm]; exact se _ _ hi3
          · have := List.length_erase_le (a := wd) (l := ins)
            exact szl (by rw [strs_len]; omega)
          · have e1 : txs (ins.erase wd) ++ [V.str (S y)] = txs (insL ins (y :: ys) rs) := by
              rw [show insL ins (y :: ys) rs = ins.erase wd ++ [y] by rw [← hw]; rfl, strs_app]; rfl
            rw [e1]
            refine kD _ _ (as ++ [a]) ⟨keep (keep (s3.trans se) (f0 r (.inr (.inl rfl)))) (f0 i (.inl rfl)), upd_same, ?_, ?_, ?_, hnd, hfr, by rw [hput]; exact ne3⟩
            · rw [upd_ne ri, upd_same]; rfl
            · rw [upd_ne fi, upd_ne fr']; exact se _ _ hf3
            · rw [hput]
              exact ((ro3.same se).upd (fun h => by
                rcases List.mem_append.mp h with h | h
                · exact ras h
                · exact ar (List.mem_singleton.mp h))).upd (fun h => by
                rcases List.mem_append.mp h with h | h
                · exact ias h
                · exact ai (List.mem_singleton.mp h))
      · subst hn
        have e1 : ins.erase wd = insL ins [] rs := by rw [← hw]; rfl
        rw [e1] at hi3
        exact kD _ _ (as ++ [a]) ⟨s3.trans se, se _ _ hi3, se _ _ hr3, se _ _ hf3, by rw [hput]; exact ro3.same se, hnd, hfr, by rw [hput]; exact ne3⟩
    refine ⟨_, rfl, v, r, rfl, hR, fun yes H1 s1 => ?_, fun no H1 s1 => k1 no H1 s1⟩
    refine ⟨_, rfl, x, n, 1, 50, rfl, hp.same s1, fun yes2 => ?_, fun no => k2 yes no H1 s1⟩
    obtain ⟨ls, rfl⟩ := okTx_ls yes
    obtain ⟨k, rfl, hk1, hk2⟩ : ∃ k : Nat, x = .int k ∧ 1 ≤ k ∧ k ≤ 50 := by
      cases x with
      | int j =>
        have : (decide (1 ≤ j) && decide (j ≤ 50)) = true := yes2
        simp only [Bool.and_eq_true, decide_eq_true_eq] at this
        exact ⟨j.toNat, by congr 1; omega, by omega, by omega⟩
      | _ => cases yes2
    obtain ⟨hlen, fin⟩ := k3 ls k rfl rfl hk1 hk2
    cases hR with
    | lst hS hi hz =>
    rename_i a xs
    obtain ⟨rfl, hls⟩ := items_some hi
    have hS1 := sql_same hS s1
    refine ⟨_, rfl, _, rfl, _, rfl, a, _, rfl, hS1, fun p np => ?_⟩
    rw [cut_txs_to]
    refine ⟨p, _, rfl, .inl (SqL.of upd_same), fun i ni => ?_⟩
    have s2 := (s1.trans (same_new (o := .lst (txs (ls.take k))) np)).trans (same_new (o := .lst (txs (ls.take k))) ni)
    have hi0 := (s1.trans (same_new (o := .lst (txs (ls.take k))) np)).free ni
    obtain ⟨H2, e2⟩ : ∃ G, G = upd (upd H1 p (.lst (txs (ls.take k)))) i (.lst (txs (ls.take k))) := ⟨_, rfl⟩
    rw [← e2] at s2 ⊢
    have gi2 : H2 i = some (.lst (txs (ls.take k))) := by rw [e2]; exact upd_same
    refine ⟨_, rfl, _, rfl, _, rfl, a, _, rfl, sql_same hS s2, fun p2 np2 => ?_⟩
    rw [cut_txs_from]
    refine ⟨p2, _, rfl, .inl (SqL.of upd_same), fun r ni2 => ?_⟩
    have s23 := (same_new (o := .lst (txs (ls.drop k))) np2).trans (same_new (o := .lst (txs (ls.drop k))) ni2)
    have s3 := s2.trans s23
    have hr0 := (s2.trans (same_new (o := .lst (txs (ls.drop k))) np2)).free ni2
    have hri : r ≠ i := (ne_of_none (same_new np2 _ _ gi2) ni2).symm
    obtain ⟨H3, e3⟩ : ∃ G, G = upd (upd H2 p2 (.lst (txs (ls.drop k)))) r (.lst (txs (ls.drop k))) := ⟨_, rfl⟩
    rw [← e3] at s3 s23 ⊢
    have gr3 : H3 r = some (.lst (txs (ls.drop k))) := by rw [e3]; exact upd_same
    have gi3 := s23 _ _ gi2
    refine ⟨sz (by decide), fun f nf => ?_⟩
    have sf := same_new (o := .lst []) nf
    have hfi : f ≠ i := (ne_of_none gi3 nf).symm
    have hfr : f ≠ r := (ne_of_none gr3 nf).symm
    generalize hFin : runsF ls.length (ls.take k) (ls.drop k) [] = Fin at fin
    refine ⟨fun m σ H' => ∃ (ins rst : List (List Nat)) (rs : List (List (List Nat))) (as : List Addr) (o5 o6 : Option V), σ = [some (.ref a), some (.int (k : Nat)), some (.ref i), some (.ref r), some (.ref f), o5, o6, none] ∧ RunI H H' i r f as ins rst rs ∧ m = ins.length + rst.length ∧ runsF m ins rst rs = Fin ∧ m + (rs.map List.length).sum = ls.length,
      ⟨ls.length, ls.take k, ls.drop k, [], [], none, none, rfl, ⟨s3.trans sf, sf _ _ gi3, sf _ _ gr3, upd_same, trivial, ?_, ?_, fun l h => by cases h⟩, ?_, hFin, by simp⟩, fun m σ H' w0 => ?_⟩
    · refine List.nodup_cons.mpr ⟨fun h => ?_, List.nodup_cons.mpr ⟨fun h => hfr (List.mem_singleton.mp h).symm, List.nodup_cons.mpr ⟨List.not_mem_nil, List.nodup_nil⟩⟩⟩
      rcases List.mem_cons.mp h with h | h
      · exact hri h.symm
      · exact hfi (List.mem_singleton.mp h).symm
    · intro x hx
      rcases List.mem_cons.mp hx with rfl | hx
      · exact hi0
      rcases List.mem_cons.mp hx with rfl | hx
      · exact hr0
      rw [List.mem_singleton.mp hx]
      exact s3.free nf
    · rw [← List.length_append, List.take_append_drop]
    obtain ⟨ins, rst, rs, as, o5, o6, rfl, I, em, hrun, htot⟩ := w0
    refine ⟨_, rfl, sz (by decide), fun e ne => ne_strs (ms := []) (SqL.of (same_new ne _ _ I.hi)) (SqL.of upd_same) ⟨_, rfl, iteN (fun hne => ?_) (fun heq => ?_)⟩⟩
    · have I1 := I.same (same_new (o := .lst []) ne)
      have hsum : (rs.map List.length).sum ≤ 100000 := by omega
      have hrl : rs.length ≤ 100000 := Nat.le_trans (sum_len I1.ne) hsum
      refine ⟨fun σ' H2 => ∃ m', m' < m ∧ ∃ (ins rst : List (List Nat)) (rs : List (List (List Nat))) (as : List Addr) (o5 o6 : Option V), σ' = [some (.ref a), some (.int (k : Nat)), some (.ref i), some (.ref r), some (.ref f), o5, o6, none] ∧ RunI H H2 i r f as ins rst rs ∧ m' = ins.length + rst.length ∧ runsF m' ins rst rs = Fin ∧ m' + (rs.map List.length).sum = ls.length, fun σ' H2 h => h, ?_⟩
      refine ⟨_, rfl, i, rfl, ⟨_, SqL.of I1.hi⟩, fun D nD => lc_filter (ls := ins) (i := 7) (fun o => !decide (rs = []) && !decide (o < lastL rs)) (SqL.of I1.hi) (by omega) nD (fun _ => rfl) (fun _ => rfl) (fun l H5 hl5 s5 Q2 q2 => ?_) (fun H5 s5 hD => ?_)⟩
      · have I5 := I1.same s5
        refine ⟨_, rfl, sz (by decide), fun p5 np5 => ne_rows (bs := []) (ms := []) (SqL.of (same_new np5 _ _ I5.hf)) (I5.ro.same (same_new np5)) (SqL.of upd_same) trivial ⟨_, rfl, iteN (fun hrs => ?_) (fun hrs => ?_)⟩⟩
        · have I6 := I5.same (same_new (o := .lst []) np5)
          obtain ⟨rs0, l0, wd, erw, hlast⟩ := rows_last hrs I6.ne
          obtain ⟨as0, b, rfl, ro0, hb⟩ := Rows.unsnoc (by rw [← erw]; exact I6.ro)
          refine ⟨_, rfl, _, rfl, _, rfl, f, _, _, .ref b, rfl, rfl, SqL.of I6.hf, (by rw [List.map_append]; exact atI_last _ _), _, rfl, b, _, _, .str (S wd), rfl, rfl, SqL.of hb, (by rw [strs_app]; exact atI_last _ _), l, wd, rfl, rfl, _, rfl, ?_⟩
          have := q2 _ (same_new (o := .lst []) np5)
          rw [decide_eq_false hrs, hlast] at this
          exact this
        · have := q2 _ (same_new (o := .lst []) np5)
          rw [decide_eq_true hrs] at this
          exact this
      · have I5 := I1.same s5
        have hD' : H5 D = some (.lst (txs (ableL ins rs))) := hD
        have nxt : ∀ (σ' : L2.St) (H6 : Hp) (b6 : V) (as2 : List Addr) (b : Addr), σ' = [some (.ref a), some (.int (k : Nat)), some (.ref i), some (.ref r), some (.ref f), some (.ref b), some b6, none] → RunI H H6 i r f as2 (insL ins rst rs) rst.tail (putL ins rs) → ∃ m', m' < m ∧ ∃ (ins rst : List (List Nat)) (rs : List (List (List Nat))) (as : List Addr) (o5 o6 : Option V), σ' = [some (.ref a), some (.int (k : Nat)), some (.ref i), some (.ref r), some (.ref f), o5, o6, none] ∧ RunI H H6 i r f as ins rst rs ∧ m' = ins.length + rst.length ∧ runsF m' ins rst rs = Fin ∧ m' + (rs.map List.length).sum = ls.length := by
          intro σ' H6 b6 as2 b eσ R6
          have h7 := insL_len hne rst rs
          refine ⟨(insL ins rst rs).length + rst.tail.length, by omega, _, _, _, as2, _, _, eσ, R6, rfl, ?_, ?_⟩
          · rw [← hrun, show m = (insL ins rst rs).length + rst.tail.length + 1 by omega]
            show _ = if ins = [] then rs else _
            rw [if_neg hne]
          · rw [putL_sum]; omega
        refine ⟨_, rfl, sz (by decide), fun p6 np6 => eq_strs (ms := []) (SqL.of (same_new np6 _ _ hD')) (SqL.of upd_same) ⟨_, rfl, iteD (fun eab => ?_) (fun eab => ?_)⟩⟩
        · have I6 := I5.same (same_new (o := .lst []) np6)
          refine ⟨_, rfl, .inl ⟨rfl, _, SqL.of I6.hf⟩, sz (by decide), fun q nq => ?_⟩
          have I7 := I6.same (same_new (o := .lst []) nq)
          have hq0 : H q = none := I6.s.free nq
          refine ⟨f, _, _, rfl, rfl, I7.hf, szl (by rw [List.length_map, I7.ro.len]; omega), ?_⟩
          have nd1 : i ∉ r :: f :: as := (List.nodup_cons.mp I7.nd).1
          have nd2 : r ∉ f :: as := (List.nodup_cons.mp (List.nodup_cons.mp I7.nd).2).1
          have nd3 : f ∉ as := (List.nodup_cons.mp (List.nodup_cons.mp (List.nodup_cons.mp I7.nd).2).2).1
          have fi : f ≠ i := fun e => nd1 (by rw [← e]; exact List.mem_cons_of_mem _ List.mem_cons_self)
          have fr' : f ≠ r := fun e => nd2 (by rw [← e]; exact List.mem_cons_self)
          have qi : q ≠ i := (ne_of_none I6.hi nq).symm
          have qr : q ≠ r := (ne_of_none I6.hr nq).symm
          have qf : q ≠ f := (ne_of_none I6.hf nq).symm
          have qas : q ∉ as := fun h => by
            obtain ⟨j, hj⟩ := List.getElem?_of_mem h
            obtain ⟨l, _, hl⟩ := Rows.get I6.ro hj
            rw [nq] at hl
            cases hl
          have emap : as.map V.ref ++ [.ref q] = (as ++ [q]).map V.ref := by rw [List.map_append]; rfl
          rw [emap]
          refine ⟨_, rfl, i, r, f, i, q, as, ins, rst, [], ins, rs, rs, _, _, _, rfl, ?_, ?_, ?_, upd_same, I7.ro.upd nd3, ?_, ?_, ?_, I7.ne, ?_, hne, ?_, ?_, hne, by decide, by omega, fun H8 b6 as2 R8 => nxt _ _ b6 as2 i rfl R8⟩
          · intro y o hy
            rw [upd_ne (ne_of_none hy (I7.fr f (List.mem_cons_of_mem _ (List.mem_cons_of_mem _ List.mem_cons_self))))]
            exact I7.s y o hy
          · rw [upd_ne fi.symm]; exact I7.hi
          · rw [upd_ne fr'.symm]; exact I7.hr
          · rw [upd_ne qf]; exact upd_same
          · refine List.nodup_cons.mpr ⟨fun h => ?_, List.nodup_cons.mpr ⟨fun h => ?_, List.nodup_cons.mpr ⟨fun h => ?_, ?_⟩⟩⟩
            · rcases List.mem_cons.mp h with h | h
              · exact nd1 (by rw [h]; exact List.mem_cons_self)
              rcases List.mem_cons.mp h with h | h
              · exact fi h.symm
              rcases List.mem_append.mp h with h | h
              · exact nd1 (List.mem_cons_of_mem _ (List.mem_cons_of_mem _ h))
              · exact qi (List.mem_singleton.mp h).symm
            · rcases List.mem_cons.mp h with h | h
              · exact fr' h.symm
              rcases List.mem_append.mp h with h | h
              · exact nd2 (List.mem_cons_of_mem _ h)
              · exact qr (List.mem_singleton.mp h).symm
            · rcases List.mem_append.mp h with h | h
              · exact nd3 h
              · exact qf (List.mem_singleton.mp h).symm
            · have h4 := (List.nodup_cons.mp (List.nodup_cons.mp (List.nodup_cons.mp I7.nd).2).2).2
              refine List.nodup_append.mpr ⟨h4, List.nodup_cons.mpr ⟨List.not_mem_nil, List.nodup_nil⟩, fun x hx y hy e => ?_⟩
              rw [List.mem_singleton.mp hy] at e
              exact qas (e ▸ hx)
          · intro x hx
            rcases List.mem_cons.mp hx with rfl | hx
            · exact I7.fr _ List.mem_cons_self
            rcases List.mem_cons.mp hx with rfl | hx
            · exact I7.fr _ (List.mem_cons_of_mem _ List.mem_cons_self)
            rcases List.mem_cons.mp hx with rfl | hx
            · exact I7.fr _ (List.mem_cons_of_mem _ (List.mem_cons_of_mem _ List.mem_cons_self))
            rcases List.mem_append.mp hx with hx | hx
            · exact I7.fr _ (List.mem_cons_of_mem _ (List.mem_cons_of_mem _ (List.mem_cons_of_mem _ hx)))
            · rw [List.mem_singleton.mp hx]; exact hq0
          · rw [upd_ne fi.symm]; exact I7.hi
          · unfold bestL; rw [if_pos eab]
          · show putL ins rs = rs ++ [[] ++ [bestL ins rs]]
            unfold putL; rw [if_pos eab]; rfl
        · have I6 := I5.same (same_new (o := .lst []) np6)
          have hrs : rs ≠ [] := fun h => eab (by rw [h]; exact ableL_nil ins)
          rcases snoc_cases rs with rfl | ⟨rs0, l, rfl⟩
          · exact absurd rfl hrs
          obtain ⟨as0, b, rfl, ro0, hb⟩ := Rows.unsnoc I6.ro
          have hll := len_sum (rs := rs0 ++ [l]) (List.mem_append_right _ List.mem_cons_self)
          refine ⟨i, r, f, D, b, as0, ins, rst, l, ableL ins (rs0 ++ [l]), rs0 ++ [l], rs0, _, _, _, rfl, I6.s, I6.hi, I6.hr, I6.hf, ro0, hb, I6.nd, I6.fr, fun x hx => I6.ne x (List.mem_append_left _ hx), same_new np6 _ _ hD', eab, ?_, ?_, hne, by omega, by omega, fun H8 b6 as2 R8 => nxt _ _ b6 as2 D rfl R8⟩
          · unfold bestL; rw [if_neg eab]
          · unfold putL; rw [if_neg eab, List.dropLast_concat, List.getLast?_concat]; rfl
    · subst heq
      rw [runsF_nil] at hrun
      subst hrun
      have I1 := I.same (same_new (o := .lst []) ne)
      have h3 := (List.nodup_cons.mp (List.nodup_cons.mp I1.nd).2).2
      exact ⟨_, rfl, fin f as _ I1.s I1.hf I1.ro h3 fun x hx => I1.fr x (List.mem_cons_of_mem _ (List.mem_cons_of_mem _ hx))⟩
end
end R
set_option maxRecDepth 100000
set_option maxHeartbeats 8000000
set_option pp.maxSteps 1500
set_option pp.deepTerms false
namespace R
open PySem PySem.Spec PyProof.Rows L2 RZ
open PySem.W (Datum)
theorem items_same {K : PySem.W.Frag} {H H' : Hp} (s : Same H H') : ∀ {xs : List V} {rs : List (Option (List Nat))}, Items K H xs rs → Items K H' xs rs
  | _, _, .nil => .nil
  | _, _, .cons h t => .cons (h.same s) (items_same s t)
theorem Recs.same {K : PySem.W.Frag} {H H' : Hp} {v : V} {r : Option (List (Option (List Nat)))} (h : Recs K H v r) (s : Same H H') : Recs K H' v r := by
  cases h with
  | no h hn => exact .no (h.same s) hn
  | lst h hi hz => exact .lst (sql_same h s) (items_same s hi) hz
/-- a value that may be a list of lists of texts -/
inductive Rws (K : PySem.W.Frag) (H : Hp) : V → Option (List (Option (List (Option (List Nat))))) → Prop
  | no {x : V} {n : String} (h : Pl K H x n) (hn : (n == "list") = false) : Rws K H x none
  | lst {a : Addr} {xs : List V} {rs : List (Option (List (Option (List Nat))))} (h : SqL K H a xs) (hi : ∀ (i : Nat) (x : V), xs[i]? = some x → ∃ r, rs[i]? = some r ∧ Recs K H x r) (hl : xs.length = rs.length) (hz : xs.length < 16777216) : Rws K H (.ref a) (some rs)
theorem Rws.pl {K : PySem.W.Frag} {H : Hp} {x : V} {r : Option (List (Option (List (Option (List Nat)))))} (h : Rws K H x r) : ∃ n, Pl K H x n ∧ (n == "list") = r.isSome := by
  cases h with
  | no h hn => exact ⟨_, h, hn⟩
  | lst h hi hl hz => exact ⟨"list", .lst h, rfl⟩
def txO (r : Option (List (Option (List Nat)))) : List (List Nat) := (r.getD []).map fun o => o.getD []
theorem txO_of (ls : List (List Nat)) : txO (some (ls.map some)) = ls := by
  unfold txO
  rw [Option.getD_some, List.map_map]
  conv => rhs; rw [← List.map_id ls]
  rfl
def rowOk (r : Option (List (Option (List Nat)))) : Bool := okTx r && decide (txO r = srt (txO r))
def goodR : Option (List (Option (List (Option (List Nat))))) → Bool
  | none => false
  | some rs => rs.all rowOk
theorem goodR_rows {rs : List (Option (List (Option (List Nat))))} (h : rs.all rowOk = true) : rs = (rs.map txO).map fun l => some (l.map some) := by
  rw [List.all_eq_true] at h
  rw [List.map_map]
  conv => lhs; rw [← List.map_id rs]
  refine List.map_congr_left fun o ho => ?_
  have h1 : (okTx o && decide (txO o = srt (txO o))) = true := h o ho
  rw [Bool.and_eq_true] at h1
  obtain ⟨ls, rfl⟩ := okTx_ls h1.1
  show some (ls.map some) = some ((txO (some (ls.map some))).map some)
  rw [txO_of]
section
variable {P : Program} {w : World} {K : PySem.W.Frag} {mg : Str → Option Value} {base : Heap}
def sp_merged (K : PySem.W.Frag) (CR : Addr) : Sp := fun vs H Q E => ∃ (v : V) (r : Option (List (Option (List (Option (List Nat)))))), vs = [v] ∧ Rws K H v r ∧ (∀ rs, r = some rs → ∀ o ∈ rs, (txO o).length < 64) ∧ (goodR r = false → ∀ H', Same H H' → E (.ref CR) none H') ∧
  ∀ rows : List (List (List Nat)), r = some (rows.map fun l => some (l.map some)) → (∀ l ∈ rows, Up l) → rows.length ≤ 100000 ∧ (rows.map List.length).sum ≤ 100000 ∧ ∀ q H', Grow H q H' (txs (mergeF (rows.map List.length).sum rows [])) → Q (.ref q) H'
/-- what the loop holds -/
structure MerI (H0 H : Hp) (d q : Addr) (as : List Addr) (left : List (List (List Nat))) (fs : List (List Nat)) : Prop where
  s : Same H0 H
  hd : H d = some (.lst (as.map V.ref))
  ro : Rows H as left
  hq : H q = some (.lst (txs fs))
  nd : (d :: q :: as).Nodup
  fr : ∀ a ∈ d :: q :: as, H0 a = none
theorem MerI.same {H0 H H' : Hp} {d q : Addr} {as : List Addr} {left : List (List (List Nat))} {fs : List (List Nat)} (h : MerI H0 H d q as left fs) (s : Same H H') : MerI H0 H' d q as left fs := ⟨h.s.trans s, s _ _ h.hd, h.ro.same s, s _ _ h.hq, h.nd, h.fr⟩
theorem rows_at {H : Hp} {as : List Addr} {ls : List (List (List Nat))} {k : Nat} {l : List (List Nat)} (h : Rows H as ls) (e : ls[k]? = some l) : ∃ b, as[k]? = some b ∧ H b = some (.lst (txs l)) := by
  have hk := (List.getElem?_eq_some_iff.mp e).1
  have hk2 : k < as.length := by rw [h.len]; exact hk
  obtain ⟨l', e', hb⟩ := h.get (List.getElem?_eq_getElem hk2)
  rw [e] at e'
  cases e'
  exact ⟨_, List.getElem?_eq_getElem hk2, hb⟩
theorem mergeF_nil {rs : List (List (List Nat))} (h : ∀ l ∈ rs, l = []) (n : Nat) (fs : List (List Nat)) : mergeF n rs fs = fs := by
  cases n with
  | zero => rfl
  | succ n =>
    unfold mergeF
    rw [show headsL rs = [] from hdsFrom_nil.mpr h]
theorem mergeF_step {n : Nat} {rs : List (List (List Nat))} {fs : List (List Nat)} {p : Hd} {ps : List Hd} (h : headsL rs = p :: ps) : mergeF (n + 1) rs fs = mergeF n (rs.set (leastP p ps).2 ((rs.getD (leastP p ps).2 []).tail)) (fs ++ [(leastP p ps).1]) := by
  show (match headsL rs with
    | [] => fs
    | p :: ps => mergeF n (rs.set (leastP p ps).2 ((rs.getD (leastP p ps).2 []).tail)) (fs ++ [(leastP p ps).1])) = _
  rw [h]
theorem ok_merged (T : Txt K mg) : FnOk P w K mg base (L2.CX P w) 2 T.merged.a T.merged.d ["rows"] (sp_merged K T.BadRecord.C) := by
  refine T.merged.F.okX sc_merged (fun vs H Q E h => ?_) (fun cdv A outer s0 H vs Q E hr h => ?_)
  · obtain ⟨v, r, rfl, _⟩ := h
    rfl
  · obtain ⟨v, r, rfl, hR, h64, k1, k2⟩ := h
    refine ⟨_, (pss_cons (ps_if (pt_not (pt_val (pe_callB call_isi (by rfl) T.z_isinstance (by decide +kernel) (pa_cons (pv 0) (pa_cons (pe_bltn (v := .ty "list") (by rfl) T.z_list (by decide +kernel) rfl) pa_nil)))))
      (pss_one (ps_raise rfl (takes_of rfl rfl rfl rfl) (pmk_own PySem.F.excBase_ValueError T.BadRecord.x T.BadRecord.g T.BadRecord.k (raises_own T.BadRecord.b T.BadRecord.t) (by exact rfl))))
      pss_nil)
    (pss_cons (ps_for (passes_of rfl) rfl
      (pi_list (pv 0)) (pg_name (i := 1) sc_merged.nd rfl (.inl rfl))
      (pss_cons (ps_expr (pe_call (ok_look_texts T) (hr.mono (by decide)) (by rfl) T.look_texts.g T.look_texts.F.kp T.look_texts.b .nil (passes_call (takes_of rfl rfl rfl rfl) (fun _ _ _ _ h => h)) (pa_cons (pv 1) pa_nil)))
      (pss_one (ps_if (pt_cmpR (op_neP hr.units) (pv 1) (pe_callB cr_sortedS (by rfl) T.z_sorted (by decide +kernel) (pa_cons (pv 1) pa_nil)) (nomark _))
        (pss_one (ps_raise rfl (takes_of rfl rfl rfl rfl) (pmk_own PySem.F.excBase_ValueError T.BadRecord.x T.BadRecord.g T.BadRecord.k (raises_own T.BadRecord.b T.BadRecord.t) (by exact rfl))))
        pss_nil))))
    (pss_cons (ps_setLc (i := 2) (own := [("row", 1)]) (g := gName 1) rfl sc_merged.nd rfl rfl (sw_true rfl rfl rfl (by decide +kernel)) (pi_listC (K := K) rfl (pv 0)) (blkOk_by (N := N_merged) (sc := defScope s_merged) (by decide +kernel)) (fun _ _ _ _ _ => (pg_name (i := 1) sc_merged.nd rfl (.inl rfl))) (fun _ _ _ _ _ => pts_nil) (fun _ _ _ _ _ => (pe_callTy (call_list_ofC (K := K) rfl) (by rfl) T.z_list (by decide +kernel) (pa_cons (pv 1) pa_nil))))
    (pss_cons (ps_set (i := 3) sc_merged.nd rfl (.inl rfl) (pe_lst pa_nil))
    (pss_cons (ps_while (passes_of rfl) (pt_val (pe_callB (cr_any rfl) (by rfl) T.z_any (by decide +kernel) (pa_cons (pe_lc (own := [("row", 1)]) (g := gName 1) rfl sc_merged.nd (pi_listC (K := K) rfl (pv 2)) (blkOk_by (N := N_merged) (sc := defScope s_merged) (by decide +kernel)) (fun _ _ _ _ _ => (pg_name (i := 1) sc_merged.nd rfl (.inl rfl))) (fun _ _ _ _ _ => pts_nil) (fun _ _ _ _ _ => (pe_cmpR (op_nePC (K := K) rfl hr.units) (pv 1) (pe_lst pa_nil) (nomark _)))) pa_nil)))
      (pss_cons (ps_setLc (i := 4) (own := [("k", 7), ("row", 1)]) (g := gTup K 2 (gCons (gName 7) (gCons (gName 1) gNil))) rfl sc_merged.nd rfl rfl (sw_true rfl rfl rfl (by decide +kernel)) (pi_enum (by rfl) T.z_enumerate (pa_cons (pv 2) pa_nil)) (blkOk_by (N := N_merged) (sc := defScope s_merged) (by decide +kernel)) (fun _ _ _ _ _ => (pg_tup rfl (pgs_cons (pg_name (i := 7) sc_merged.nd rfl (.inl rfl)) (pgs_cons (pg_name (i := 1) sc_merged.nd rfl (.inl rfl)) pgs_nil)))) (fun _ _ _ _ _ => (pts_one (pt_cmpR (op_nePC (K := K) rfl hr.units) (pv 1) (pe_lst pa_nil) (nomark _)))) (fun _ _ _ _ _ => (pe_tup (pa_cons (pe_ix (ix_listC (K := K) rfl) (pv 1) pe_int (fun _ _ => rfl)) (pa_cons (pv 7) pa_nil)))))
      (pss_cons (ps_asg (pe_callB (cr_minD rfl hr.units) (by rfl) T.z_min (by decide +kernel) (pa_cons (pv 4) pa_nil)) (pg_tup rfl (pgs_cons (pg_name (i := 5) sc_merged.nd rfl (.inl rfl)) (pgs_cons (pg_name (i := 6) sc_merged.nd rfl (.inl rfl)) pgs_nil))))
      (pss_one (ps_expr (pe_bm PySem.F.plainAttrs_list PySem.F.slot_list_append PySem.F.type_list_append mt_append (pv 3) (pa_cons (pe_bm PySem.F.plainAttrs_list PySem.F.slot_list_pop PySem.F.type_list_pop mt_popAt (pe_ix ix_list (pv 2) (pv 6) (fun _ _ => rfl)) (pa_cons pe_int pa_nil)) pa_nil)))))))
    (pss_one (ps_ret (pv 3)))))))), ?_⟩
    obtain ⟨n, hn, hl⟩ := hR.pl
    refine ⟨_, rfl, _, _, _, _, _, rfl, .ty _, hn.ty, kit_list hn, _, rfl, ?_⟩
    rw [hl]
    cases hR with
    | no h hn => exact iteT (k1 rfl _ (Same.refl _))
    | lst hS hi hll hz =>
    rename_i a xs rs
    refine iteF ?_
    refine ⟨_, rfl, a, rfl, ⟨_, hS⟩, for_it (walk_list (xs := xs)) (fun i σ H' => Same H H' ∧ (rs.take i).all rowOk = true ∧ ∃ o1, σ = [some (.ref a), o1, none, none, none, none, none, none]) ⟨Same.refl _, rfl, none, rfl⟩ (fun i σ H' _ h => sql_same hS h.1) ?_ ?_⟩
    · rintro i x σ H1 H2 hlt ⟨sm, hall, o1, rfl⟩ ⟨rfl, hx⟩
      obtain ⟨r, hr', hrec⟩ := hi i x hx
      have bad : rowOk r = false → goodR (some rs) = false := fun e => by
        show rs.all _ = false
        cases hb : rs.all rowOk with
        | false => rfl
        | true => rw [List.all_eq_true] at hb; rw [hb r (List.mem_of_getElem? hr')] at e; cases e
      refine ⟨_, rfl, x, r, rfl, hrec.same sm, fun yes H3 s3 => ?_, fun no H3 s3 => k1 (bad (by unfold rowOk; rw [no]; rfl)) _ (sm.trans s3)⟩
      obtain ⟨ls, rfl⟩ := okTx_ls yes
      have hrec3 := (hrec.same sm).same s3
      cases hrec3 with
      | lst hS3 hi3 hz3 =>
      rename_i b ys
      obtain ⟨rfl, _⟩ := items_some hi3
      have l64 := h64 rs rfl _ (List.mem_of_getElem? hr')
      rw [txO_of] at l64
      refine ⟨_, rfl, _, rfl, ?_⟩
      dsimp only [tNil]
      refine sort_txs hS3 l64 ?_
      intro p np
      refine ne_strs (sql_same hS3 (same_new np)) (SqL.of upd_same) ⟨_, rfl, iteN (fun hne => ?_) (fun he => ?_)⟩
      · exact k1 (bad (by unfold rowOk; rw [txO_of, decide_eq_false hne, Bool.and_false])) _ ((sm.trans s3).trans (same_new np))
      · refine ⟨(sm.trans s3).trans (same_new np), ?_, _, rfl⟩
        rw [List.take_add_one, hr', Option.toList_some, List.all_append, hall]
        show (true && (rowOk _ && true)) = true
        unfold rowOk
        rw [txO_of, okTx_of, decide_eq_true he]
        rfl
    rintro σ H1 ⟨s1, hall, o1, rfl⟩
    rw [hll, List.take_length] at hall
    obtain ⟨rows, hrows⟩ : ∃ rows : List (List (List Nat)), rs = rows.map fun l => some (l.map some) := ⟨_, goodR_rows hall⟩
    have hup : ∀ l ∈ rows, Up l := fun l hl => by
      rw [hrows, List.all_eq_true] at hall
      have h1 : (okTx (some (l.map some)) && decide (txO (some (l.map some)) = srt (txO (some (l.map some))))) = true := hall _ (List.mem_map.mpr ⟨l, hl, rfl⟩)
      rw [Bool.and_eq_true, txO_of] at h1
      exact up_srt.mp (of_decide_eq_true h1.2)
    obtain ⟨hrl, hsum, fin⟩ := k2 rows (by rw [hrows]) hup
    have hxl : xs.length = rows.length := by rw [hll, hrows, List.length_map]
    have hrow : ∀ (i : Nat) (x : V) (H' : Hp), xs[i]? = some x → Same H H' → ∃ l b, rows[i]? = some l ∧ x = .ref b ∧ SqL K H' b (txs l) := fun i x H' hx sH => by
      obtain ⟨r, hr', hrec⟩ := hi i x hx
      rw [hrows, List.getElem?_map] at hr'
      obtain ⟨l, hl, rfl⟩ := Option.map_eq_some_iff.mp hr'
      cases hrec.same sH with
      | lst hS3 hi3 hz3 =>
        obtain ⟨rfl, _⟩ := items_some hi3
        exact ⟨l, _, hl, rfl, hS3⟩
    -- the rows, each anew
    refine ⟨_, rfl, a, rfl, ⟨_, sql_same hS s1⟩, fun D nD => ?_⟩
    refine lc_it (walk_list (xs := xs)) (fun i H' => ∃ as : List Addr, Same H1 H' ∧ H' D = some (.lst (as.map V.ref)) ∧ Rows H' as (rows.take i) ∧ (D :: as).Nodup ∧ ∀ x ∈ D :: as, H1 x = none)
      ⟨[], same_new nD, upd_same, trivial, List.nodup_cons.mpr ⟨List.not_mem_nil, List.nodup_nil⟩, fun x hx => by rw [List.mem_singleton.mp hx]; exact nD⟩ (fun i H' _ p => by obtain ⟨_, p, _⟩ := p; exact sql_same hS (s1.trans p)) (fun i x H2 H3 hlt p y => ?_) (fun H2 p => ?_)
    · obtain ⟨as, s2, hD, hro, hnd, hfr⟩ := p
      obtain ⟨rfl, hx⟩ := y
      obtain ⟨l, b, hl, rfl, hb⟩ := hrow i x H3 hx (s1.trans s2)
      refine ⟨rfl, _, rfl, b, _, rfl, .inl hb, fun p np => ?_⟩
      have sp := same_new (o := .lst (txs l)) np
      have pD : p ≠ D := (ne_of_none hD np).symm
      have pas : p ∉ as := fun h => by
        obtain ⟨j, hj⟩ := List.getElem?_of_mem h
        obtain ⟨l, _, hl⟩ := Rows.get hro hj
        rw [np] at hl
        cases hl
      refine ⟨as.map V.ref, sp _ _ hD, szl ?_, as ++ [p], ?_, ?_, ?_, ?_, ?_⟩
      · rw [List.length_map, hro.len, List.length_take]; omega
      · intro z o hz
        rw [upd_ne (ne_of_none hz nD)]
        exact sp _ _ (s2 _ _ hz)
      · rw [upd_same, List.map_append]; rfl
      · rw [List.take_add_one, hl]
        refine Rows.snoc ((hro.same sp).upd (List.nodup_cons.mp hnd).1) ?_
        rw [upd_ne pD]; exact upd_same
      · refine List.nodup_cons.mpr ⟨fun h => ?_, List.nodup_append.mpr ⟨(List.nodup_cons.mp hnd).2, List.nodup_cons.mpr ⟨List.not_mem_nil, List.nodup_nil⟩, fun x hx y hy e => pas (by rw [← List.mem_singleton.mp hy, ← e]; exact hx)⟩⟩
        rcases List.mem_append.mp h with h | h
        · exact (List.nodup_cons.mp hnd).1 h
        · exact pD (List.mem_singleton.mp h).symm
      · intro x hx
        rcases List.mem_cons.mp hx with rfl | hx
        · exact nD
        rcases List.mem_append.mp hx with hx | hx
        · exact hfr x (List.mem_cons_of_mem _ hx)
        · rw [List.mem_singleton.mp hx]; exact s2.free np
    obtain ⟨as0, s2, hD, hro, hnd, hfr⟩ := p
    rw [hxl, List.take_length] at hro
    refine ⟨sz (by decide), fun q nq => ?_⟩
    have sq := same_new (o := .lst []) nq
    generalize hFin : mergeF (rows.map List.length).sum rows [] = Fin at fin
    refine ⟨fun m σ H' => ∃ (left : List (List (List Nat))) (fs : List (List Nat)) (as : List Addr) (o4 o5 o6 : Option V), σ = [some (.ref a), o1, some (.ref D), some (.ref q), o4, o5, o6, none] ∧ MerI H H' D q as left fs ∧ left.length ≤ 100000 ∧ m = (left.map List.length).sum ∧ mergeF m left fs = Fin ∧ m + fs.length ≤ 100000,
      ⟨_, rows, [], as0, none, none, none, rfl, ⟨(s1.trans s2).trans sq, sq _ _ hD, hro.same sq, upd_same, ?_, ?_⟩, hrl, rfl, hFin, by rw [List.length_nil]; omega⟩, fun m σ H' w0 => ?_⟩
    · have qD : q ≠ D := (ne_of_none hD nq).symm
      refine List.nodup_cons.mpr ⟨fun h => ?_, List.nodup_cons.mpr ⟨fun h => ?_, (List.nodup_cons.mp hnd).2⟩⟩
      · rcases List.mem_cons.mp h with h | h
        · exact qD h.symm
        · exact (List.nodup_cons.mp hnd).1 h
      · obtain ⟨j, hj⟩ := List.getElem?_of_mem h
        obtain ⟨l, _, hl⟩ := Rows.get hro hj
        rw [nq] at hl
        cases hl
    · intro x hx
      rcases List.mem_cons.mp hx with rfl | hx
      · exact s1.free nD
      rcases List.mem_cons.mp hx with rfl | hx
      · exact (s1.trans s2).free nq
      · exact s1.free (hfr x (List.mem_cons_of_mem _ hx))
    obtain ⟨left, fs, as, o4, o5, o6, rfl, I, hll2, em, hmer, htot⟩ := w0
    -- is there one left
    refine ⟨_, rfl, D, rfl, ⟨_, SqL.of I.hd⟩, fun D2 nD2 => lc_map (walk_list (xs := as.map V.ref)) ((left.map fun l => !decide (l = [])).map V.bl) (by simp [I.ro.len]) (by rw [List.length_map, I.ro.len]; omega) nD2 yat_same (fun _ s => SqL.of (s _ _ I.hd)) (fun j x H5 H6 y hj hy t1 t2 hY Q2 q2 => ⟨rfl, ?_⟩) (fun H5 t1 hD2 => ?_) gName_mono⟩
    · obtain ⟨rfl, hx⟩ := hY
      rw [List.getElem?_map] at hx
      obtain ⟨b, hb, rfl⟩ := Option.map_eq_some_iff.mp hx
      obtain ⟨l, hl, hHb⟩ := I.ro.get hb
      rw [List.getElem?_map, List.getElem?_map, hl] at hy
      have ey : V.bl (!decide (l = [])) = y := Option.some.inj hy
      subst ey
      exact ⟨_, rfl, sz (by decide), fun p np => ne_strs (ms := []) (SqL.of (same_new np _ _ (t2 _ _ hHb))) (SqL.of upd_same) (q2 _ (same_new np))⟩
    have I5 := I.same t1
    refine ⟨D2, _, rfl, SqL.of hD2, _, rfl, iteB (fun hany => ?_) (fun hno => ?_)⟩
    · have hh : headsL left ≠ [] := fun e => by
        rw [List.any_map] at hany
        obtain ⟨l, hl, h2⟩ := List.any_eq_true.mp hany
        have h3 : (!decide (l = [])) = true := h2
        rw [decide_eq_true (hdsFrom_nil.mp e l hl)] at h3
        cases h3
      refine ⟨fun σ' H2 => ∃ m', m' < m ∧ ∃ (left : List (List (List Nat))) (fs : List (List Nat)) (as : List Addr) (o4 o5 o6 : Option V), σ' = [some (.ref a), o1, some (.ref D), some (.ref q), o4, o5, o6, none] ∧ MerI H H2 D q as left fs ∧ left.length ≤ 100000 ∧ m' = (left.map List.length).sum ∧ mergeF m' left fs = Fin ∧ m' + fs.length ≤ 100000, fun σ' H2 h => h, ?_⟩
      -- the heads
      refine ⟨_, rfl, D, _, rfl, SqL.of I5.hd, fun D3 nD3 => ?_⟩
      refine lc_it walk_enum (fun i H6 => ∃ ts : List Addr, Same H5 H6 ∧ H6 D3 = some (.lst (ts.map V.ref)) ∧ Heads H6 ts (headsL (left.take i)) ∧ ts.length ≤ i) ⟨[], same_new nD3, upd_same, trivial, Nat.le_refl _⟩ (fun i H6 _ p => by obtain ⟨_, p, _⟩ := p; exact SqL.of (p _ _ I5.hd)) (fun i x H6 H7 hlt p y => ?_) (fun H6 p => ?_)
      · obtain ⟨ts, s6, hD3, hhd, htl⟩ := p
        obtain ⟨T2, u, v, rfl, h1, rfl, h3, h4⟩ := y
        have h3' : u = V.int (i : Nat) := (Option.some.inj h3).symm
        subst h3'
        have h4' : (as.map V.ref)[i]? = some v := h4
        rw [List.getElem?_map] at h4'
        obtain ⟨b, hb, rfl⟩ := Option.map_eq_some_iff.mp h4'
        obtain ⟨l, hl, hHb⟩ := I5.ro.get hb
        have sT := same_new (o := .tup [.int (i : Nat), .ref b]) h1
        refine ⟨T2, _, rfl, .inl (.inl upd_same), rfl, .int (i : Nat), [.ref b], rfl, .ref b, [], rfl, rfl, rfl, ?_⟩
        have e8 : headsL (left.take (i + 1)) = headsL (left.take i) ++ hdOf l i := by
          rw [List.take_add_one, hl]
          show hdsFrom 0 (left.take i ++ [l]) = _
          rw [hdsFrom_snoc, List.length_take, Nat.zero_add, Nat.min_eq_left (by
            have := (List.getElem?_eq_some_iff.mp hl).1
            omega)]
          rfl
        refine ⟨_, rfl, sz (by decide), fun p np => ne_strs (ms := []) (SqL.of (same_new np _ _ (sT _ _ (s6 _ _ hHb)))) (SqL.of upd_same) ⟨_, rfl, ?_⟩⟩
        have s68 := sT.trans (same_new (o := .lst []) np)
        refine iteN (fun hne => ?_) (fun he => ?_)
        · cases l with
          | nil => exact absurd rfl hne
          | cons wd tl =>
            have hb8 := s68 _ _ (s6 _ _ hHb)
            refine ⟨_, rfl, b, _, _, .str (S wd), rfl, rfl, SqL.of hb8, (show atI (txs (wd :: tl)) ((0 : Nat) : Int) = some (.str (S wd)) from atI_nat rfl), _, rfl, sz (show 2 ≤ 16777216 by decide), fun t nt => ?_⟩
            have st := same_new (o := .tup [.str (S wd), .int (i : Nat)]) nt
            have h9 := st _ _ (s68 _ _ hD3)
            refine ⟨ts.map V.ref, h9, szl ?_, ts ++ [t], ?_, ?_, ?_, ?_⟩
            · rw [List.length_map]
              have := (List.getElem?_eq_some_iff.mp hl).1
              omega
            · intro z o hz
              rw [upd_ne (ne_of_none hz nD3)]
              exact st _ _ (s68 _ _ (s6 _ _ hz))
            · rw [upd_same, List.map_append]; rfl
            · rw [e8]
              exact Heads.snoc (Heads.upd_lst h9 (((hhd.same s68).same st))) (by rw [upd_ne (ne_of upd_same h9 (by intro z; cases z))]; exact upd_same)
            · rw [List.length_append]; show _ + 1 ≤ _; omega
        · subst he
          refine ⟨ts, s6.trans s68, s68 _ _ hD3, ?_, by omega⟩
          rw [e8]
          show Heads _ ts (headsL (left.take i) ++ [])
          rw [List.append_nil]
          exact hhd.same s68
      obtain ⟨ts, s6, hD3, hhd, _⟩ := p
      rw [List.length_map, I5.ro.len, List.take_length] at hhd
      have I6 := I5.same s6
      cases hps : headsL left with
      | nil => exact absurd hps hh
      | cons p ps =>
      rw [hps] at hhd
      have hmem : leastP p ps ∈ hdsFrom 0 left := by
        have := leastP_mem ps p
        rw [← hps] at this
        exact this
      obtain ⟨j, tl, hj1, hj2⟩ := hdsFrom_mem hmem
      rw [Nat.zero_add] at hj1
      obtain ⟨b, hb, hHb⟩ := rows_at I6.ro hj2
      have hnd2 := (List.nodup_cons.mp (List.nodup_cons.mp I6.nd).2).2
      have hbm : b ∈ as := List.mem_of_getElem? hb
      have bD : D ≠ b := fun e => (List.nodup_cons.mp I6.nd).1 (by rw [e]; exact List.mem_cons_of_mem _ hbm)
      have bq : q ≠ b := fun e => (List.nodup_cons.mp (List.nodup_cons.mp I6.nd).2).1 (by rw [e]; exact hbm)
      have Dq : D ≠ q := fun e => (List.nodup_cons.mp I6.nd).1 (by rw [e]; exact List.mem_cons_self)
      refine ⟨_, rfl, ?_⟩
      dsimp only [tNil]
      refine minP (SqL.of hD3) hhd ?_
      intro t ht
      refine ⟨t, _, rfl, SqT.of ht, rfl, _, _, rfl, _, _, rfl, rfl, ?_⟩
      have hq2 : upd H6 b (.lst (txs tl)) q = some (.lst (txs fs)) := by rw [upd_ne bq]; exact I6.hq
      refine ⟨_, rfl, .inl ⟨rfl, _, SqL.of I6.hq⟩, _, rfl, _, rfl, D, _, _, .ref b, rfl, rfl, SqL.of I6.hd, at_of (j := j) (by rw [hj1]) (by rw [List.getElem?_map, hb]; rfl), .inl ⟨rfl, _, SqL.of hHb⟩, b, _, 0, 0, _, rfl, rfl, hHb, by decide, by decide, by simp [seqIndex?, txs], rfl, q, txs fs, _, rfl, rfl, hq2, szl (by rw [strs_len]; omega), ?_⟩
      have hsum2 := sum_set hj2
      have eq1 : txs fs ++ [V.str (S (leastP p ps).1)] = txs (fs ++ [(leastP p ps).1]) := by rw [strs_app]; rfl
      refine ⟨((left.set j tl).map List.length).sum, by omega, left.set j tl, fs ++ [(leastP p ps).1], as, _, _, _, rfl, ⟨?_, ?_, ?_, ?_, I6.nd, I6.fr⟩, by rw [List.length_set]; exact hll2, rfl, ?_, ?_⟩
      · intro z o hz
        rw [upd_ne (ne_of_none hz (I6.fr q (List.mem_cons_of_mem _ List.mem_cons_self))), upd_ne (ne_of_none hz (I6.fr b (List.mem_cons_of_mem _ (List.mem_cons_of_mem _ hbm))))]
        exact I6.s z o hz
      · rw [upd_ne Dq, upd_ne bD]; exact I6.hd
      · exact (Rows.set (tl := tl) I6.ro hb hnd2).upd (List.nodup_cons.mp (List.nodup_cons.mp I6.nd).2).1
      · rw [← eq1]; exact upd_same
      · rw [← hmer, show m = ((left.set j tl).map List.length).sum + 1 by omega]
        rw [mergeF_step hps, hj1, show left.getD j [] = (leastP p ps).1 :: tl by rw [List.getD_eq_getElem?_getD, hj2]; rfl]
        rfl
      · rw [List.length_append]; show _ + (_ + 1) ≤ _; omega
    · have he : ∀ l ∈ left, l = [] := fun l hl => by
        rw [List.any_map] at hno
        have := List.any_eq_false.mp hno l hl
        by_cases h : l = []
        · exact h
        · exact absurd (show (id ∘ fun l : List (List Nat) => !decide (l = [])) l = true by show (!decide (l = [])) = true; rw [decide_eq_false h]; rfl) this
      rw [mergeF_nil he] at hmer
      subst hmer
      exact ⟨_, rfl, fin q _ ⟨I5.fr q (List.mem_cons_of_mem _ List.mem_cons_self), I5.s, I5.hq⟩⟩
end
end R
set_option maxRecDepth 100000
set_option maxHeartbeats 8000000
set_option pp.maxSteps 1500
set_option pp.deepTerms false
namespace R
open PySem PySem.Spec PyProof.Rows L2 RZ
open PySem.W (Datum)
/-! ### merging puts all in order -/
theorem leastP_le : ∀ (xs : List Hd) (x : Hd), (leastP x xs).1 ≤ x.1 ∧ ∀ y ∈ xs, (leastP x xs).1 ≤ y.1
  | [], x => ⟨List.le_refl _, fun y h => by cases h⟩
  | y :: r, x => by
    have hc : (if (if y.1 = x.1 then decide (y.2 < x.2) else decide (y.1 < x.1)) = true then y else x).1 ≤ x.1 ∧ (if (if y.1 = x.1 then decide (y.2 < x.2) else decide (y.1 < x.1)) = true then y else x).1 ≤ y.1 := by
      by_cases e : y.1 = x.1
      · rw [if_pos e]
        by_cases e2 : decide (y.2 < x.2) = true
        · rw [if_pos e2]; exact ⟨by rw [e]; exact List.le_refl _, List.le_refl _⟩
        · rw [if_neg e2]; exact ⟨List.le_refl _, by rw [e]; exact List.le_refl _⟩
      · rw [if_neg e]
        by_cases e2 : y.1 < x.1
        · rw [if_pos (decide_eq_true e2)]; exact ⟨List.le_of_lt e2, List.le_refl _⟩
        · rw [if_neg (by rw [decide_eq_false e2]; decide)]; exact ⟨List.le_refl _, e2⟩
    obtain ⟨h1, h2⟩ := leastP_le r (if (if y.1 = x.1 then decide (y.2 < x.2) else decide (y.1 < x.1)) = true then y else x)
    refine ⟨List.le_trans h1 hc.1, fun z hz => ?_⟩
    rcases List.mem_cons.mp hz with rfl | hz
    · exact List.le_trans h1 hc.2
    · exact h2 z hz
theorem hdsFrom_in : ∀ {rs : List (List (List Nat))} {k j : Nat} {h : List Nat} {t : List (List Nat)}, rs[j]? = some (h :: t) → (h, k + j) ∈ hdsFrom k rs
  | l :: r, k, 0, h, t, e => by
    cases e
    exact List.mem_cons_self
  | l :: r, k, j + 1, h, t, e => by
    have := hdsFrom_in (rs := r) (k := k + 1) (j := j) e
    rw [show k + 1 + j = k + (j + 1) by omega] at this
    exact List.mem_append_right _ this
  | [], _, _, _, _, e => by simp at e
theorem set_perm : ∀ {rs : List (List (List Nat))} {k : Nat} {w : List Nat} {tl : List (List Nat)}, rs[k]? = some (w :: tl) → (w :: (rs.set k tl).flatten).Perm rs.flatten
  | l :: r, 0, w, tl, e => by
    cases e
    exact List.Perm.refl _
  | l :: r, k + 1, w, tl, e => by
    have := set_perm (rs := r) (k := k) (w := w) (tl := tl) e
    rw [List.set_cons_succ, List.flatten_cons, List.flatten_cons]
    exact List.perm_middle.symm.trans (this.append_left l)
  | [], _, _, _, e => by simp at e
theorem up_snoc {fs : List (List Nat)} {w : List Nat} (h : Up fs) (hw : ∀ a ∈ fs, a ≤ w) : Up (fs ++ [w]) :=
  List.pairwise_append.mpr ⟨h, List.pairwise_singleton _ _, fun a ha b hb => by rw [List.mem_singleton.mp hb]; exact hw a ha⟩
theorem sum_zero {rs : List (List (List Nat))} (h : (rs.map List.length).sum = 0) : ∀ l ∈ rs, l = [] := fun l hl => by
  have := len_sum hl
  exact List.length_eq_zero_iff.mp (by omega)
theorem flat_nil {rs : List (List (List Nat))} (h : ∀ l ∈ rs, l = []) : rs.flatten = [] := by
  rw [List.flatten_eq_nil_iff]
  exact h
theorem sum_nil {rs : List (List (List Nat))} (h : ∀ l ∈ rs, l = []) : (rs.map List.length).sum = 0 := by
  induction rs with
  | nil => rfl
  | cons x r ih =>
    rw [List.map_cons, List.sum_cons, h x List.mem_cons_self, ih fun l hl => h l (List.mem_cons_of_mem _ hl)]
    rfl
theorem mergeF_all : ∀ (n : Nat) (rs : List (List (List Nat))) (fs : List (List Nat)), (rs.map List.length).sum = n → (∀ l ∈ rs, Up l) → Up fs → (∀ a ∈ fs, ∀ b ∈ rs.flatten, a ≤ b) → Up (mergeF n rs fs) ∧ (mergeF n rs fs).Perm (fs ++ rs.flatten)
  | 0, rs, fs, hn, hr, hf, hb => ⟨hf, by rw [flat_nil (sum_zero hn), List.append_nil]; exact List.Perm.refl _⟩
  | n + 1, rs, fs, hn, hr, hf, hb => by
    cases hps : headsL rs with
    | nil => rw [sum_nil (hdsFrom_nil.mp hps)] at hn; cases hn
    | cons p ps =>
      have hmem : leastP p ps ∈ hdsFrom 0 rs := by
        have := leastP_mem ps p
        rw [← hps] at this
        exact this
      obtain ⟨j, tl, hj1, hj2⟩ := hdsFrom_mem hmem
      rw [Nat.zero_add] at hj1
      rw [mergeF_step hps, hj1, show rs.getD j [] = (leastP p ps).1 :: tl by rw [List.getD_eq_getElem?_getD, hj2]; rfl]
      show Up (mergeF n (rs.set j tl) _) ∧ (mergeF n (rs.set j tl) _).Perm _
      generalize hw : leastP p ps = wk at *
      obtain ⟨wd, k0⟩ := wk
      dsimp only at hj2
      have hwl : wd :: tl ∈ rs := List.mem_of_getElem? hj2
      have hmin : ∀ b ∈ rs.flatten, wd ≤ b := fun b hb => by
        obtain ⟨l, hl, hbl⟩ := List.mem_flatten.mp hb
        obtain ⟨i, hi⟩ := List.getElem?_of_mem hl
        cases l with
        | nil => cases hbl
        | cons h t =>
          have hin := hdsFrom_in (k := 0) hi
          have hle : wd ≤ h := by
            obtain ⟨h1, h2⟩ := leastP_le ps p
            rw [hw] at h1 h2
            have hin2 : (h, 0 + i) ∈ p :: ps := by rw [← hps]; exact hin
            rcases List.mem_cons.mp hin2 with e | e
            · rw [← e] at h1; exact h1
            · exact h2 _ e
          rcases List.mem_cons.mp hbl with rfl | hbl
          · exact hle
          · exact List.le_trans hle ((List.pairwise_cons.mp (hr _ hl)).1 b hbl)
      have hp := set_perm hj2
      have hsum := sum_set hj2
      obtain ⟨g1, g2⟩ := mergeF_all n (rs.set j tl) (fs ++ [wd]) (by omega) (fun l hl => by
        rcases List.mem_or_eq_of_mem_set hl with h | rfl
        · exact hr l h
        · exact (List.pairwise_cons.mp (hr _ hwl)).2) (up_snoc hf fun a ha => hb a ha wd (List.mem_flatten.mpr ⟨_, hwl, List.mem_cons_self⟩)) (fun a ha b hb2 => by
        have hb3 : b ∈ rs.flatten := hp.subset (List.mem_cons_of_mem _ hb2)
        rcases List.mem_append.mp ha with ha | ha
        · exact hb a ha b hb3
        · rw [List.mem_singleton.mp ha]; exact hmin b hb3)
      refine ⟨g1, g2.trans ?_⟩
      rw [List.append_assoc]
      exact hp.append_left fs
theorem mergeF_srt {rs : List (List (List Nat))} (h : ∀ l ∈ rs, Up l) : mergeF (rs.map List.length).sum rs [] = srt rs.flatten := by
  obtain ⟨h1, h2⟩ := mergeF_all _ rs [] rfl h List.Pairwise.nil (fun a ha => by cases ha)
  exact srt_of h2 h1
/-! ### the rows rise, and all is there -/
theorem least_le {xs : List (List Nat)} : ∀ b ∈ xs, least xs ≤ b := by
  have h : ∀ (xs : List (List Nat)) (x : List Nat), leastL x xs ≤ x ∧ ∀ y ∈ xs, leastL x xs ≤ y := by
    intro xs
    induction xs with
    | nil => exact fun x => ⟨List.le_refl _, fun y h => by cases h⟩
    | cons y r ih =>
      intro x
      obtain ⟨h1, h2⟩ := ih (if y < x then y else x)
      have hc : (if y < x then y else x) ≤ x ∧ (if y < x then y else x) ≤ y := by
        by_cases e : y < x
        · rw [if_pos e]; exact ⟨List.le_of_lt e, List.le_refl _⟩
        · rw [if_neg e]; exact ⟨List.le_refl _, e⟩
      refine ⟨List.le_trans h1 hc.1, fun z hz => ?_⟩
      rcases List.mem_cons.mp hz with rfl | hz
      · exact List.le_trans h1 hc.2
      · exact h2 z hz
  intro b hb
  cases xs with
  | nil => cases hb
  | cons x r =>
    rcases List.mem_cons.mp hb with rfl | hb
    · exact (h r b).1
    · exact (h r x).2 b hb
theorem able_of {ins : List (List Nat)} {rs : List (List (List Nat))} {o : List Nat} (h : o ∈ ableL ins rs) : o ∈ ins ∧ rs ≠ [] ∧ lastL rs ≤ o := by
  obtain ⟨h1, h2⟩ := List.mem_filter.mp (show o ∈ ins.filter _ from h)
  rw [Bool.and_eq_true, Bool.not_eq_true', decide_eq_false_iff_not, Bool.not_eq_true', decide_eq_false_iff_not] at h2
  exact ⟨h1, h2.1, h2.2⟩
theorem putL_ok {ins : List (List Nat)} {rs : List (List (List Nat))} (hi : ins ≠ []) (hu : ∀ l ∈ rs, Up l) (hn : ∀ l ∈ rs, l ≠ []) : (∀ l ∈ putL ins rs, Up l) ∧ (∀ l ∈ putL ins rs, l ≠ []) ∧ (putL ins rs).flatten = rs.flatten ++ [bestL ins rs] := by
  unfold putL
  by_cases e : ableL ins rs = []
  · rw [if_pos e]
    refine ⟨fun l hl => ?_, fun l hl => ?_, by rw [List.flatten_append]; rfl⟩
    · rcases List.mem_append.mp hl with hl | hl
      · exact hu l hl
      · rw [List.mem_singleton.mp hl]; exact List.pairwise_singleton _ _
    · rcases List.mem_append.mp hl with hl | hl
      · exact hn l hl
      · rw [List.mem_singleton.mp hl]; simp
  · rw [if_neg e]
    have hb : bestL ins rs ∈ ableL ins rs := by unfold bestL; rw [if_neg e]; exact least_mem e
    obtain ⟨_, hrs, hle⟩ := able_of hb
    obtain ⟨rs0, l0, w, rfl, hlast⟩ := rows_last hrs hn
    rw [hlast] at hle
    rw [List.dropLast_concat, List.getLast?_concat, Option.getD_some]
    have hu0 := hu (l0 ++ [w]) (List.mem_append_right _ List.mem_cons_self)
    refine ⟨fun l hl => ?_, fun l hl => ?_, by rw [List.flatten_append, List.flatten_append, List.append_assoc]; rw [List.flatten_cons, List.flatten_cons]; simp⟩
    · rcases List.mem_append.mp hl with hl | hl
      · exact hu l (List.mem_append_left _ hl)
      · rw [List.mem_singleton.mp hl]
        refine up_snoc hu0 fun a ha => ?_
        rcases List.mem_append.mp ha with ha | ha
        · exact List.le_trans ((List.pairwise_append.mp hu0).2.2 a ha w List.mem_cons_self) hle
        · rw [List.mem_singleton.mp ha]; exact hle
    · rcases List.mem_append.mp hl with hl | hl
      · exact hn l (List.mem_append_left _ hl)
      · rw [List.mem_singleton.mp hl]; simp
theorem insL_perm {ins : List (List Nat)} (h : ins ≠ []) (rst : List (List Nat)) (rs : List (List (List Nat))) : (bestL ins rs :: (insL ins rst rs ++ rst.tail)).Perm (ins ++ rst) := by
  have hp := List.perm_cons_erase (bestL_mem h rs)
  unfold insL
  cases rst with
  | nil => rw [List.tail_nil, List.append_nil, List.append_nil]; exact hp.symm
  | cons x r =>
    show (bestL ins rs :: ((ins.erase (bestL ins rs) ++ [x]) ++ r)).Perm _
    rw [List.append_assoc]
    exact (hp.symm.append_right (x :: r))
theorem runsF_all : ∀ (m : Nat) (ins rst : List (List Nat)) (rs : List (List (List Nat))), m = ins.length + rst.length → (ins = [] → rst = []) → (∀ l ∈ rs, Up l) → (∀ l ∈ rs, l ≠ []) →
    (∀ l ∈ runsF m ins rst rs, Up l) ∧ (∀ l ∈ runsF m ins rst rs, l ≠ []) ∧ (runsF m ins rst rs).flatten.Perm (rs.flatten ++ (ins ++ rst))
  | 0, ins, rst, rs, hm, _, hu, hn => by
    have h1 : ins = [] := List.length_eq_zero_iff.mp (by omega)
    have h2 : rst = [] := List.length_eq_zero_iff.mp (by omega)
    subst h1 h2
    exact ⟨hu, hn, by rw [List.append_nil, List.append_nil]; exact List.Perm.refl _⟩
  | m + 1, ins, rst, rs, hm, he, hu, hn => by
    by_cases hi : ins = []
    · have := he hi
      subst hi this
      cases hm
    · show (∀ l ∈ (if ins = [] then rs else _), Up l) ∧ _
      rw [show runsF (m + 1) ins rst rs = runsF m (insL ins rst rs) rst.tail (putL ins rs) from if_neg hi]
      rw [if_neg hi]
      obtain ⟨p1, p2, p3⟩ := putL_ok hi hu hn
      have hl := insL_len hi rst rs
      obtain ⟨g1, g2, g3⟩ := runsF_all m (insL ins rst rs) rst.tail (putL ins rs) (by omega) (fun h => by
        unfold insL at h
        cases rst with
        | nil => rfl
        | cons x r => simp at h) p1 p2
      refine ⟨g1, g2, g3.trans ?_⟩
      rw [p3, List.append_assoc]
      exact (insL_perm hi rst rs).append_left rs.flatten
theorem runs_ok (ls : List (List Nat)) {k : Nat} (hk : 1 ≤ k) : (∀ l ∈ runsF ls.length (ls.take k) (ls.drop k) [], Up l) ∧ (∀ l ∈ runsF ls.length (ls.take k) (ls.drop k) [], l ≠ []) ∧ (runsF ls.length (ls.take k) (ls.drop k) []).flatten.Perm ls := by
  have h := runsF_all ls.length (ls.take k) (ls.drop k) [] (by rw [← List.length_append, List.take_append_drop]) (fun e => by
    cases ls with
    | nil => exact List.drop_nil
    | cons x r =>
      obtain ⟨j, rfl⟩ : ∃ j, k = j + 1 := ⟨k - 1, by omega⟩
      cases e) (fun l h => by cases h) (fun l h => by cases h)
  refine ⟨h.1, h.2.1, h.2.2.trans ?_⟩
  rw [List.take_append_drop]
  exact List.Perm.refl _
/-! ### turns -/
def turnsF (w : Nat) : Nat → Nat → Nat
  | 0, _ => 0
  | f + 1, n => if n ≤ 1 then 0 else 1 + turnsF w f ((n + w - 1) / w)
theorem turns_small (w : Nat) {n : Nat} (h : n ≤ 1) (f : Nat) : turnsF w f n = 0 := by
  cases f with
  | zero => rfl
  | succ f => exact if_pos h
theorem turn_less {n w : Nat} (h : 1 < n) (hw : 2 ≤ w) : (n + w - 1) / w < n := by
  rw [Nat.div_lt_iff_lt_mul (by omega)]
  have : n * 2 ≤ n * w := Nat.mul_le_mul_left n hw
  have h2 : (n - 1) * 2 ≤ (n - 1) * w := Nat.mul_le_mul_left _ hw
  have h3 : n * w = (n - 1) * w + w := by
    obtain ⟨j, rfl⟩ : ∃ j, n = j + 1 := ⟨n - 1, by omega⟩
    rw [Nat.add_mul, Nat.one_mul]; rfl
  omega
section
variable {P : Program} {w : World} {K : PySem.W.Frag} {mg : Str → Option Value} {base : Heap}
def sp_passes (K : PySem.W.Frag) (CN : Addr) : Sp := fun vs H Q E => ∃ (v x : V) (n1 n2 : String), vs = [v, x] ∧ Pl K H v n1 ∧ Pl K H x n2 ∧ (isWhole v 0 100000 = false → E (.ref CN) none H) ∧ (isWhole v 0 100000 = true → isWhole x 2 50 = false → E (.ref CN) none H) ∧
  ∀ n k : Nat, v = .int n → x = .int k → n ≤ 100000 → 2 ≤ k → k ≤ 50 → Q (.int (turnsF k n n : Nat)) H
theorem ok_passes (T : Txt K mg) : FnOk P w K mg base (L2.CX P w) 3 T.passes.a T.passes.d ["rows", "ways"] (sp_passes K T.BadNumber.C) := by
  refine T.passes.F.okX sc_passes (fun vs H Q E h => ?_) (fun cdv A outer s0 H vs Q E hr h => ?_)
  · obtain ⟨v, x, n1, n2, rfl, _⟩ := h
    rfl
  · obtain ⟨v, x, n1, n2, rfl, h1, h2, k1, k2, k3⟩ := h
    refine ⟨_, (pss_cons (ps_if (pt_not (pt_val (pe_call (ok_is_whole T) (hr.mono (by decide)) (by rfl) T.is_whole.g T.is_whole.F.kp T.is_whole.b .nil (passes_call (takes_of rfl rfl rfl rfl) (fun _ _ _ _ h => h)) (pa_cons (pv 0) (pa_cons pe_int (pa_cons pe_int pa_nil))))))
      (pss_one (ps_raise rfl (takes_of rfl rfl rfl rfl) (pmk_own PySem.F.excBase_ValueError T.BadNumber.x T.BadNumber.g T.BadNumber.k (raises_own T.BadNumber.b T.BadNumber.t) (by exact rfl))))
      pss_nil)
    (pss_cons (ps_expr (pe_call (ok_look_number T) (hr.mono (by decide)) (by rfl) T.look_number.g T.look_number.F.kp T.look_number.b .nil (passes_call (takes_of rfl rfl rfl rfl) (fun _ _ _ _ h => h)) (pa_cons (pv 1) (pa_cons pe_int (pa_cons pe_int pa_nil)))))
    (pss_cons (ps_set (i := 2) sc_passes.nd rfl (.inl rfl) pe_int)
    (pss_cons (ps_while (passes_of rfl) (pt_cmpR op_gt (pv 0) pe_int (nomark _))
      (pss_cons (ps_set (i := 0) sc_passes.nd rfl (.inl rfl) (pe_op op_fdiv (pe_op op_sub (pe_op op_add (pv 0) (pv 1)) pe_int) (pv 1)))
      (pss_one (ps_aug (i := 2) sc_passes.nd rfl (.inl rfl) pe_int ip_add))))
    (pss_one (ps_ret (pv 2))))))), ?_⟩
    refine ⟨_, rfl, v, n1, 0, 100000, rfl, h1, _, rfl, iteNB (fun e => k1 e) (fun e => ?_)⟩
    refine ⟨_, rfl, x, n2, 2, 50, rfl, h2, fun e2 => ?_, fun e2 => k2 e e2⟩
    obtain ⟨n, rfl, hn⟩ : ∃ n : Nat, v = .int n ∧ n ≤ 100000 := by
      cases v with
      | int j =>
        have : (decide (0 ≤ j) && decide (j ≤ 100000)) = true := e
        simp only [Bool.and_eq_true, decide_eq_true_eq] at this
        exact ⟨j.toNat, by congr 1; omega, by omega⟩
      | _ => cases e
    obtain ⟨k, rfl, hk1, hk2⟩ : ∃ k : Nat, x = .int k ∧ 2 ≤ k ∧ k ≤ 50 := by
      cases x with
      | int j =>
        have : (decide (2 ≤ j) && decide (j ≤ 50)) = true := e2
        simp only [Bool.and_eq_true, decide_eq_true_eq] at this
        exact ⟨j.toNat, by congr 1; omega, by omega, by omega⟩
      | _ => cases e2
    have fin := k3 n k rfl rfl hn hk1 hk2
    generalize hFin : turnsF k n n = Fin at fin
    refine ⟨fun m σ H' => ∃ n' t : Nat, σ = [some (.int (n' : Nat)), some (.int (k : Nat)), some (.int (t : Nat))] ∧ H' = H ∧ n' ≤ m ∧ t + turnsF k m n' = Fin, ⟨n, n, 0, rfl, rfl, Nat.le_refl _, by rw [Nat.zero_add]; exact hFin⟩, fun m σ H' w0 => ?_⟩
    obtain ⟨n', t, rfl, eH, hm, ht⟩ := w0
    subst eH
    refine ⟨_, rfl, _, _, rfl, rfl, _, rfl, iteD (fun e1 => ?_) (fun e1 => ?_)⟩
    · have hn1 : 1 < n' := by omega
      obtain ⟨m', rfl⟩ : ∃ m', m = m' + 1 := ⟨m - 1, by omega⟩
      refine ⟨fun σ' H2 => ∃ m2, m2 < m' + 1 ∧ ∃ n' t : Nat, σ' = [some (.int (n' : Nat)), some (.int (k : Nat)), some (.int (t : Nat))] ∧ H2 = H' ∧ n' ≤ m2 ∧ t + turnsF k m2 n' = Fin, fun σ' H2 h => h, ?_⟩
      have ev : (((n' : Nat) : Int) + (k : Nat) - 1) / (k : Nat) = (((n' + k - 1) / k : Nat) : Int) := by
        rw [show ((n' : Nat) : Int) + (k : Nat) - 1 = ((n' + k - 1 : Nat) : Int) by omega]
        exact (Int.natCast_ediv _ _).symm
      refine ⟨_, rfl, _, rfl, _, _, rfl, rfl, _, _, rfl, rfl, _, rfl, _, _, rfl, rfl, ⟨by omega, by omega⟩, ?_⟩
      dsimp only
      rw [ev]
      have hl := turn_less hn1 hk1
      refine ⟨_, rfl, _, _, rfl, rfl, m', Nat.lt_succ_self _, (n' + k - 1) / k, t + 1, rfl, rfl, by omega, ?_⟩
      rw [← ht, show turnsF k (m' + 1) n' = 1 + turnsF k m' ((n' + k - 1) / k) from if_neg (by omega)]
      omega
    · rw [turns_small k (by omega)] at ht
      subst ht
      exact ⟨_, rfl, fin⟩
end
end R
set_option maxRecDepth 100000
set_option maxHeartbeats 8000000
set_option pp.maxSteps 1500
set_option pp.deepTerms false
namespace R
open PySem PySem.Spec PyProof.Rows L2 RZ
open PySem.W (Datum)
/-- the rows, so many at a time -/
def chunks (w : Nat) (rs : List (List (List Nat))) (n : Nat) : List (List (List (List Nat))) := (List.range n).map fun j => (rs.drop (j * w)).take w
theorem chunks_flat (w : Nat) (hw : 1 ≤ w) : ∀ (n : Nat) (rs : List (List (List Nat))), ((chunks w rs n).map List.flatten).flatten = (rs.take (n * w)).flatten
  | 0, rs => by
    rw [Nat.zero_mul]
    rfl
  | n + 1, rs => by
    unfold chunks
    rw [List.range_succ, List.map_append, List.map_append, List.flatten_append]
    have ih := chunks_flat w hw n rs
    unfold chunks at ih
    rw [ih, Nat.succ_mul, List.take_add, List.flatten_append]
    show _ ++ ([((rs.drop (n * w)).take w).flatten]).flatten = _
    rw [List.flatten_cons, List.flatten_nil, List.append_nil]
theorem chunk_cover {n w : Nat} (hn : 1 ≤ n) (hw : 1 ≤ w) : n ≤ (n + w - 1) / w * w := by
  have h1 := Nat.div_add_mod (n + w - 1) w
  have h2 := Nat.mod_lt (n + w - 1) (show w > 0 by omega)
  rw [Nat.mul_comm] at h1
  omega
theorem chunk_small {n w j : Nat} (hw : 1 ≤ w) (h : j < (n + w - 1) / w) : j * w < n := by
  have h1 : (j + 1) * w ≤ (n + w - 1) / w * w := Nat.mul_le_mul_right w h
  have h2 := Nat.div_mul_le_self (n + w - 1) w
  rw [Nat.add_mul, Nat.one_mul] at h1
  omega
theorem cut_refs (as : List Addr) (k w : Nat) : cutV (as.map V.ref) (some (k : Int)) (some ((k : Int) + (w : Nat))) = ((as.drop k).take w).map V.ref := by
  show sl (as.map V.ref) (some (k : Int)) (some ((k : Int) + (w : Nat))) = _
  rw [show (k : Int) + (w : Nat) = ((k + w : Nat) : Int) by omega, sl_mid, List.map_take, List.map_drop, List.take_drop]
theorem Rows.drop {H : Hp} : ∀ {as : List Addr} {ls : List (List (List Nat))} (k : Nat), Rows H as ls → Rows H (as.drop k) (ls.drop k)
  | as, ls, 0, h => h
  | a :: as, l :: ls, k + 1, h => Rows.drop (as := as) (ls := ls) k h.2
  | [], [], _ + 1, _ => trivial
  | [], _ :: _, _ + 1, h => h.elim
  | _ :: _, [], _ + 1, h => h.elim
theorem Rows.take {H : Hp} : ∀ {as : List Addr} {ls : List (List (List Nat))} (k : Nat), Rows H as ls → Rows H (as.take k) (ls.take k)
  | _, _, 0, _ => trivial
  | a :: as, l :: ls, k + 1, h => ⟨h.1, Rows.take (as := as) (ls := ls) k h.2⟩
  | [], [], _ + 1, _ => trivial
  | [], _ :: _, _ + 1, h => h.elim
  | _ :: _, [], _ + 1, h => h.elim
theorem items_txs {K : PySem.W.Frag} {H : Hp} : ∀ {ls : List (List Nat)}, (∀ l ∈ ls, l.length < 16777216) → Items K H (txs ls) (ls.map some)
  | [], _ => .nil
  | l :: r, h => .cons (.str l (h l List.mem_cons_self)) (items_txs fun x hx => h x (List.mem_cons_of_mem _ hx))
theorem Rws.of {K : PySem.W.Frag} {H : Hp} {a : Addr} {as : List Addr} {ls : List (List (List Nat))} (h : SqL K H a (as.map V.ref)) (r : Rows H as ls) (h1 : ls.length < 16777216) (h2 : ∀ l ∈ ls, l.length < 16777216 ∧ ∀ w ∈ l, w.length < 16777216) : Rws K H (.ref a) (some (ls.map fun l => some (l.map some))) := by
  refine .lst h (fun i x hx => ?_) (by rw [List.length_map, List.length_map, r.len]) (by rw [List.length_map, r.len]; exact h1)
  rw [List.getElem?_map] at hx
  obtain ⟨b, hb, rfl⟩ := Option.map_eq_some_iff.mp hx
  obtain ⟨l, hl, hH⟩ := r.get hb
  have hm := h2 l (List.mem_of_getElem? hl)
  exact ⟨some (l.map some), by rw [List.getElem?_map, hl]; rfl, .lst (SqL.of hH) (items_txs hm.2) (by rw [strs_len]; exact hm.1)⟩
theorem goodR_up {ls : List (List (List Nat))} (h : ∀ l ∈ ls, Up l) : goodR (some (ls.map fun l => some (l.map some))) = true := by
  show (ls.map _).all rowOk = true
  rw [List.all_eq_true]
  intro o ho
  obtain ⟨l, hl, rfl⟩ := List.mem_map.mp ho
  unfold rowOk
  rw [txO_of, okTx_of, decide_eq_true (up_srt.mpr (h l hl))]
  rfl
theorem rows_map_inj {a b : List (List (List Nat))} (h : (a.map fun l => some (l.map some)) = b.map fun l => some (l.map some)) : a = b := by
  have e : ∀ c : List (List (List Nat)), (c.map fun l => some (l.map some)).map txO = c := fun c => by
    rw [List.map_map]
    conv => rhs; rw [← List.map_id c]
    exact List.map_congr_left fun l _ => txO_of l
  rw [← e a, h, e b]
theorem flat_len (rs : List (List (List Nat))) : (rs.map List.length).sum = rs.flatten.length := List.length_flatten.symm
theorem rgc_of {m n u : Nat} (e : m = n) (hn : n ≤ 60) (hu : 2 ≤ u) (hu2 : u ≤ 50) : RgC 0 (m : Nat) (u : Nat) ((n + u - 1) / u) := by
  subst e
  refine ⟨by omega, by omega, ?_, ?_⟩
  · unfold Builtin.Range.small
    rw [rangeSize_pos (by omega) (by omega)]
    have h1 : (((m : Nat) : Int) + (u : Nat) - 1) / (u : Nat) ≤ 1000 := by
      rw [show ((m : Nat) : Int) + (u : Nat) - 1 = ((m + u - 1 : Nat) : Int) by omega]
      have h2 := Nat.div_le_self (m + u - 1) u
      have h3 : (((m + u - 1 : Nat) : Int) / ((u : Nat) : Int)) = (((m + u - 1) / u : Nat) : Int) := (Int.natCast_ediv _ _).symm
      rw [h3]
      omega
    have h0 : 0 ≤ (((m : Nat) : Int) + (u : Nat) - 1) / (u : Nat) := Int.ediv_nonneg (by omega) (by omega)
    generalize (((m : Nat) : Int) + (u : Nat) - 1) / (u : Nat) = z at h0 h1
    simp only [Builtin.Range.rangeFitsLong, Bool.and_eq_true, Bool.or_eq_true, decide_eq_true_eq, beq_iff_eq, show ((u : Nat) : Int) > 0 by omega, if_true]
    omega
  · rw [rangeSize_pos (by omega) (by omega)]
    rw [show ((m : Nat) : Int) + (u : Nat) - 1 = ((m + u - 1 : Nat) : Int) by omega]
    exact (Int.natCast_ediv _ _).symm
section
variable {P : Program} {w : World} {K : PySem.W.Frag} {mg : Str → Option Value} {base : Heap}
def sp_sorted_by (K : PySem.W.Frag) (CR CN : Addr) : Sp := fun vs H Q E => ∃ (v x y : V) (r : Option (List (Option (List Nat)))) (n1 n2 : String), vs = [v, x, y] ∧ Recs K H v r ∧ Pl K H x n1 ∧ Pl K H y n2 ∧
  (okTx r = false → ∀ H', Same H H' → E (.ref CR) none H') ∧ (okTx r = true → isWhole x 1 50 = false → ∀ H', Same H H' → E (.ref CN) none H') ∧ (okTx r = true → isWhole x 1 50 = true → isWhole y 2 50 = false → ∀ H', Same H H' → E (.ref CN) none H') ∧
  (∀ ls : List (List Nat), r = some (ls.map some) → ls.length ≤ 60 ∧ ∀ l ∈ ls, l.length < 16777216) ∧
  ∀ (ls : List (List Nat)) (k u : Nat), r = some (ls.map some) → x = .int k → y = .int u → 1 ≤ k → k ≤ 50 → 2 ≤ u → u ≤ 50 → ∀ p q H', Same H H' → H' q = some (.lst (txs (srt ls))) →
    H' p = some (.tup [.ref q, .int (turnsF u (runsF ls.length (ls.take k) (ls.drop k) []).length (runsF ls.length (ls.take k) (ls.drop k) []).length : Nat)]) → H p = none → H q = none → Q (.ref p) H'
theorem ok_sorted_by (T : Txt K mg) : FnOk P w K mg base (L2.CX P w) 4 T.sorted_by.a T.sorted_by.d ["records", "room", "ways"] (sp_sorted_by K T.BadRecord.C T.BadNumber.C) := by
  refine T.sorted_by.F.okX sc_sorted_by (fun vs H Q E h => ?_) (fun cdv A outer s0 H vs Q E hr h => ?_)
  · obtain ⟨v, x, y, r, n1, n2, rfl, _⟩ := h
    rfl
  · obtain ⟨v, x, y, r, n1, n2, rfl, hR, h1, h2, k1, k2, k3, hb, fin⟩ := h
    refine ⟨_, (pss_cons (ps_set (i := 3) sc_sorted_by.nd rfl (.inr rfl) (pe_callN (ok_runs_of T) (hr.mono (by decide)) (by rfl) T.runs_of.g T.runs_of.F.kp T.kb_runs_of_room (passes_call (takes_of rfl rfl rfl rfl) (fun _ _ _ _ h => h)) (pa_cons (pv 0) pa_nil) (pk_cons (pv 1) pk_nil)))
    (pss_cons (ps_expr (pe_call (ok_look_number T) (hr.mono (by decide)) (by rfl) T.look_number.g T.look_number.F.kp T.look_number.b .nil (passes_call (takes_of rfl rfl rfl rfl) (fun _ _ _ _ h => h)) (pa_cons (pv 2) (pa_cons pe_int (pa_cons pe_int pa_nil)))))
    (pss_cons (ps_set (i := 4) sc_sorted_by.nd rfl (.inl rfl) pe_int)
    (pss_cons (ps_while (passes_of rfl) (pt_cmpR op_gt (pe_callB call_len_seq (by rfl) T.z_len PySem.boot_len (pa_cons (pv 3) pa_nil)) pe_int (nomark _))
      (pss_cons (ps_set (i := 3) sc_sorted_by.nd rfl (.inr rfl) (pe_lc (own := [("k", 5)]) (g := gName 5) rfl sc_sorted_by.nd (pi_range3 (by rfl) T.z_range (pa_cons pe_int (pa_cons (pe_callB call_len_seq (by rfl) T.z_len PySem.boot_len (pa_cons (pv 3) pa_nil)) (pa_cons (pv 2) pa_nil)))) (blkOk_by (N := N_sorted_by) (sc := defScope s_sorted_by) (by decide +kernel)) (fun _ _ _ _ _ => (pg_name (i := 5) sc_sorted_by.nd rfl (.inl rfl))) (fun _ _ _ _ _ => pts_nil) (fun _ _ _ _ _ => (pe_call (ok_merged T) (hr.mono (by decide)) (by rfl) T.merged.g T.merged.F.kp T.merged.b .nil passL (pa_cons (pe_slice (sl_listC (K := K) rfl) (pv 3) (po_some (pv 5)) (po_some (pe_op op_add (pv 5) (pv 2)))) pa_nil)))))
      (pss_one (ps_aug (i := 4) sc_sorted_by.nd rfl (.inl rfl) pe_int ip_add))))
    (pss_one (ps_ret (pe_tup (pa_cons (pe_ifExp (pt_cmpR (op_neP hr.units) (pv 3) (pe_lst pa_nil) (nomark _)) (pe_ix ix_list (pv 3) pe_int (fun _ _ => rfl)) (pe_lst pa_nil)) (pa_cons (pv 4) pa_nil))))))))), ?_⟩
    refine ⟨_, rfl, _, rfl, rfl, rfl, v, x, r, n1, rfl, hR, h1, fun no H1 s1 => k1 no _ s1, fun yes no H1 s1 => k2 yes no _ s1, fun ls k er ex hk1 hk2 => ⟨by have := (hb ls er).1; omega, fun f as H1 s1 hf hro hnd hfr => ?_⟩⟩
    have hyes : okTx r = true := by rw [er]; exact okTx_of ls
    have hxw : isWhole x 1 50 = true := by
      rw [ex]
      show (decide ((1 : Int) ≤ (k : Nat)) && decide (((k : Nat) : Int) ≤ 50)) = true
      rw [decide_eq_true (by omega), decide_eq_true (by omega)]; rfl
    refine ⟨_, rfl, y, n2, 2, 50, rfl, h2.same s1, fun e2 => ?_, fun e2 => k3 hyes hxw e2 _ s1⟩
    obtain ⟨u, rfl, hu1, hu2⟩ : ∃ u : Nat, y = .int u ∧ 2 ≤ u ∧ u ≤ 50 := by
      cases y with
      | int j =>
        have : (decide (2 ≤ j) && decide (j ≤ 50)) = true := e2
        simp only [Bool.and_eq_true, decide_eq_true_eq] at this
        exact ⟨j.toNat, by congr 1; omega, by omega, by omega⟩
      | _ => cases e2
    obtain ⟨hlen, hlong⟩ := hb ls er
    have hfin := fin ls k u er ex rfl hk1 hk2 hu1 hu2
    obtain ⟨r1, r2, r3⟩ := runs_ok ls hk1
    generalize hrw : runsF ls.length (ls.take k) (ls.drop k) [] = rw0 at *
    generalize hFin : turnsF u rw0.length rw0.length = Fin at hfin
    refine ⟨fun m σ H' => ∃ (f : Addr) (as : List Addr) (rs : List (List (List Nat))) (t : Nat) , σ = [some v, some x, some (.int (u : Nat)), some (.ref f), some (.int (t : Nat)), none] ∧ Same H H' ∧ H' f = some (.lst (as.map V.ref)) ∧ Rows H' as rs ∧ (∀ a ∈ as, H a = none) ∧ (∀ l ∈ rs, Up l) ∧ rs.flatten.Perm ls ∧ rs.length ≤ 60 ∧ rs.length ≤ m ∧ t + turnsF u m rs.length = Fin,
      ⟨rw0.length, f, as, rw0, 0, rfl, s1, hf, hro, fun a ha => hfr a (List.mem_cons_of_mem _ ha), r1, r3, ?_, Nat.le_refl _, by rw [Nat.zero_add]; exact hFin⟩, fun m σ H' w0 => ?_⟩
    · have := sum_len r2
      rw [flat_len, r3.length_eq] at this
      omega
    obtain ⟨f2, as2, rs, t, rfl, s2, hf2, hro2, hfr2, hup, hperm, hl60, hm, ht⟩ := w0
    refine ⟨_, rfl, f2, _, rfl, .inl (SqL.of hf2), _, _, rfl, rfl, _, rfl, ?_⟩
    rw [List.length_map, hro2.len]
    refine iteD (fun e1 => ?_) (fun e1 => ?_)
    · have hn1 : 1 < rs.length := by omega
      obtain ⟨m', rfl⟩ : ∃ m', m = m' + 1 := ⟨m - 1, by omega⟩
      have hless := turn_less hn1 hu1
      have hfl : rs.flatten.length ≤ 60 := by rw [hperm.length_eq]; exact hlen
      have hwl : ∀ wd ∈ rs.flatten, wd.length < 16777216 := fun wd hw => hlong wd (hperm.subset hw)
      refine ⟨fun σ' H2 => ∃ m2, m2 < m' + 1 ∧ ∃ (f : Addr) (as : List Addr) (rs : List (List (List Nat))) (t : Nat) , σ' = [some v, some x, some (.int (u : Nat)), some (.ref f), some (.int (t : Nat)), none] ∧ Same H H2 ∧ H2 f = some (.lst (as.map V.ref)) ∧ Rows H2 as rs ∧ (∀ a ∈ as, H a = none) ∧ (∀ l ∈ rs, Up l) ∧ rs.flatten.Perm ls ∧ rs.length ≤ 60 ∧ rs.length ≤ m2 ∧ t + turnsF u m2 rs.length = Fin, fun σ' H2 h => h, ?_⟩
      refine ⟨_, rfl, f2, _, rfl, .inl (SqL.of hf2), _, rfl, 0, ((as2.map V.ref).length : Nat), (u : Nat), (rs.length + u - 1) / u, rfl, rgc_of (by rw [List.length_map, hro2.len]) (by omega) hu1 hu2, fun D nD => ?_⟩
      refine lc_it walk_rangeC (fun i H6 => ∃ bs : List Addr, Same H' H6 ∧ H6 D = some (.lst (bs.map V.ref)) ∧ Rows H6 bs ((chunks u rs i).map fun c => srt c.flatten) ∧ (∀ b ∈ bs, H' b = none ∧ b ≠ D)) ⟨[], same_new nD, upd_same, trivial, fun b hb => by cases hb⟩ (fun _ _ _ _ => trivial) (fun i z H6 H7 hlt p yy => ?_) (fun H6 p => ?_)
      · obtain ⟨bs, s6, hD, hbs, hbf⟩ := p
        obtain ⟨rfl, rfl⟩ := yy
        have hi := chunk_small (by omega) hlt
        have es : (0 : Int) + (i : Nat) * (u : Nat) = ((i * u : Nat) : Int) := by rw [Int.zero_add]; exact (Int.natCast_mul i u).symm
        refine ⟨rfl, _, rfl, _, rfl, _, rfl, _, rfl, _, rfl, _, _, rfl, rfl, _, rfl, f2, _, rfl, SqL.of (s6 _ _ hf2), fun p np => ?_⟩
        rw [es, cut_refs]
        have sp := same_new (o := .lst (((as2.drop (i * u)).take u).map V.ref)) np
        have hroc : Rows (upd H7 p (.lst (((as2.drop (i * u)).take u).map V.ref))) ((as2.drop (i * u)).take u) ((rs.drop (i * u)).take u) := ((hro2.drop _).take _).same (s6.trans sp)
        have hsub : ∀ l ∈ (rs.drop (i * u)).take u, l ∈ rs := fun l hl => List.mem_of_mem_drop (List.mem_of_mem_take hl)
        have hsubf : ∀ l ∈ (rs.drop (i * u)).take u, l.length ≤ 60 ∧ ∀ wd ∈ l, wd.length < 16777216 := fun l hl => ⟨by
          have := len_sum (hsub l hl)
          rw [flat_len] at this
          omega, fun wd hw => hwl wd (List.mem_flatten.mpr ⟨l, hsub l hl, hw⟩)⟩
        have hcl : ((rs.drop (i * u)).take u).length ≤ 60 := by rw [List.length_take, List.length_drop]; omega
        have hcs : ((rs.drop (i * u)).take u).flatten.length ≤ 60 := by
          have h5 : (rs.flatten).length = ((rs.take (i * u)).flatten ++ (((rs.drop (i * u)).take u).flatten ++ ((rs.drop (i * u)).drop u).flatten)).length := by
            rw [← List.flatten_append, List.take_append_drop, ← List.flatten_append, List.take_append_drop]
          rw [List.length_append, List.length_append] at h5
          omega
        refine ⟨.ref p, some (((rs.drop (i * u)).take u).map fun l => some (l.map some)), rfl, Rws.of (SqL.of upd_same) hroc (by omega) (fun l hl => ⟨by have := (hsubf l hl).1; omega, (hsubf l hl).2⟩), fun rs' ers o ho => ?_, fun no => ?_, fun rows erows hupr => ⟨?_, ?_, fun q H8 g8 => ?_⟩⟩
        · cases ers
          obtain ⟨l, hl, rfl⟩ := List.mem_map.mp ho
          rw [txO_of]
          have := (hsubf l hl).1
          omega
        · rw [goodR_up fun l hl => hup l (hsub l hl)] at no
          cases no
        · have := rows_map_inj (Option.some.inj erows)
          rw [← this]; omega
        · have := rows_map_inj (Option.some.inj erows)
          rw [← this, flat_len]; omega
        · have := rows_map_inj (Option.some.inj erows)
          subst this
          rw [mergeF_srt hupr] at g8
          have qD : q ≠ D := fun e => by
            have h9 := g8.1
            rw [e, sp _ _ hD] at h9
            cases h9
          refine ⟨bs.map V.ref, g8.2.1 _ _ (sp _ _ hD), szl ?_, bs ++ [q], ?_, ?_, ?_, ?_⟩
          · rw [List.length_map, hbs.len, List.length_map]
            show (chunks u rs i).length < 16777216
            unfold chunks
            rw [List.length_map, List.length_range]
            omega
          · intro z o hz
            rw [upd_ne (ne_of_none hz nD)]
            exact g8.2.1 _ _ (sp _ _ (s6 _ _ hz))
          · rw [upd_same, List.map_append]; rfl
          · have ec : (chunks u rs (i + 1)).map (fun c => srt c.flatten) = (chunks u rs i).map (fun c => srt c.flatten) ++ [srt ((rs.drop (i * u)).take u).flatten] := by
              unfold chunks
              rw [List.range_succ, List.map_append, List.map_append]
              rfl
            rw [ec]
            refine Rows.snoc (((hbs.same sp).same g8.2.1).upd fun h => (hbf D h).2 rfl) ?_
            rw [upd_ne qD]; exact g8.2.2
          · intro b hb
            rcases List.mem_append.mp hb with hb | hb
            · exact hbf b hb
            · rw [List.mem_singleton.mp hb]
              exact ⟨s6.free (sp.free g8.1), qD⟩
      obtain ⟨bs, s6, hD, hbs, hbf⟩ := p
      have hcov := chunk_cover (n := rs.length) (w := u) (by omega) (by omega)
      have hflat : (((chunks u rs ((rs.length + u - 1) / u)).map fun c => srt c.flatten).flatten).Perm rs.flatten := by
        have h5 := chunks_flat u (by omega) ((rs.length + u - 1) / u) rs
        rw [List.take_of_length_le hcov] at h5
        rw [← h5]
        have : ∀ cs : List (List (List (List Nat))), ((cs.map fun c => srt c.flatten).flatten).Perm ((cs.map List.flatten).flatten) := by
          intro cs
          induction cs with
          | nil => exact List.Perm.refl _
          | cons c r ih =>
            rw [List.map_cons, List.map_cons, List.flatten_cons, List.flatten_cons]
            exact (srt_perm _).append ih
        exact this _
      have hcl2 : ((chunks u rs ((rs.length + u - 1) / u)).map fun c => srt c.flatten).length = (rs.length + u - 1) / u := by
        unfold chunks
        rw [List.length_map, List.length_map, List.length_range]
      refine ⟨_, rfl, _, _, rfl, rfl, m', Nat.lt_succ_self _, D, bs, _, t + 1, rfl, s2.trans s6, hD, hbs, fun b hb => s2.free (hbf b hb).1, fun l hl => ?_, hflat.trans hperm, by rw [hcl2]; omega, by rw [hcl2]; omega, ?_⟩
      · obtain ⟨c, _, rfl⟩ := List.mem_map.mp hl
        exact srt_up _
      · rw [hcl2, ← ht, show turnsF u (m' + 1) rs.length = 1 + turnsF u m' ((rs.length + u - 1) / u) from if_neg (by omega)]
        omega
    · rw [turns_small u (by omega)] at ht
      subst ht
      refine ⟨_, rfl, sz (by decide), fun p np => ne_rows (bs := []) (ms := []) (SqL.of (same_new np _ _ hf2)) (hro2.same (same_new np)) (SqL.of upd_same) trivial ⟨_, rfl, iteN (fun hne => ?_) (fun he => ?_)⟩⟩
      · have sp := same_new (o := .lst []) np
        match rs, as2, hro2, hne, e1 with
        | [l], [b], hro2, _, _ =>
          refine ⟨_, rfl, f2, _, _, .ref b, rfl, rfl, SqL.of (sp _ _ hf2), (show atI [V.ref b] ((0 : Nat) : Int) = some (.ref b) from atI_nat rfl), _, rfl, sz (show 2 ≤ 16777216 by decide), fun q nq => ?_⟩
          have sq := same_new (o := .tup [.ref b, .int (t : Nat)]) nq
          have el : l = srt ls := srt_of (by
            have h6 := hperm
            rw [List.flatten_cons, List.flatten_nil, List.append_nil] at h6
            exact h6) (hup l List.mem_cons_self)
          refine hfin q b _ ((s2.trans sp).trans sq) ?_ upd_same ((s2.trans sp).free nq) (hfr2 b List.mem_cons_self)
          rw [← el]
          exact sq _ _ (sp _ _ hro2.1)
        | l :: m :: rs, _, _, _, e1 => exact absurd (by show (1 : Int) < ((rs.length + 1 + 1 : Nat) : Int); omega) e1
        | [l], [], hro2, _, _ => exact hro2.elim
        | [l], _ :: _ :: _, hro2, _, _ => exact hro2.2.elim
        | [], _, _, hne, _ => exact absurd rfl hne
      · subst he
        have sp := same_new (o := .lst []) np
        refine ⟨sz (by decide), fun b nb => ⟨_, rfl, sz (show 2 ≤ 16777216 by decide), fun q nq => ?_⟩⟩
        have sb := same_new (o := .lst []) nb
        have sq := same_new (o := .tup [.ref b, .int (t : Nat)]) nq
        have el : ls = [] := hperm.symm.eq_nil
        refine hfin q b _ (((s2.trans sp).trans sb).trans sq) ?_ upd_same (((s2.trans sp).trans sb).free nq) ((s2.trans sp).free nb)
        rw [el, ← srt_of (List.Perm.refl ([] : List (List Nat))) List.Pairwise.nil]
        exact sq _ _ upd_same
end
end R
set_option maxRecDepth 100000
set_option maxHeartbeats 8000000
set_option pp.maxSteps 1500
set_option pp.deepTerms false
namespace R
open PySem PySem.Spec PyProof.Rows L2 RZ
open PySem.W (Datum)
def told : V := .str (S [116, 111, 108, 100])
def word (j : Nat) : V := .str (S (W14.getD j []))
/-- what is refused, and how -/
def Bad20 (K : PySem.W.Frag) (H : Hp) : Nat → V → V → V → Nat → Prop
  | 0, a, b, _, j => ∃ r n, Recs K H a r ∧ Pl K H b n ∧ ((okTx r = false ∧ j = 8) ∨ (okTx r = true ∧ isWhole b 1 50 = false ∧ j = 0))
  | 1, a, _, _, j => ∃ r, Rws K H a r ∧ (∀ rs, r = some rs → ∀ o ∈ rs, (txO o).length < 64) ∧ goodR r = false ∧ j = 8
  | 2, a, b, _, j => ∃ n1 n2, Pl K H a n1 ∧ Pl K H b n2 ∧ ((isWhole a 0 100000 = false ∧ j = 0) ∨ (isWhole a 0 100000 = true ∧ isWhole b 2 50 = false ∧ j = 0))
  | 3, a, b, c, j => ∃ r n1 n2, Recs K H a r ∧ Pl K H b n1 ∧ Pl K H c n2 ∧ (∀ ls : List (List Nat), r = some (ls.map some) → ls.length ≤ 60 ∧ ∀ l ∈ ls, l.length < 16777216) ∧
      ((okTx r = false ∧ j = 8) ∨ (okTx r = true ∧ isWhole b 1 50 = false ∧ j = 0) ∨ (okTx r = true ∧ isWhole b 1 50 = true ∧ isWhole c 2 50 = false ∧ j = 0))
  | _, _, _, _, _ => False
def Good20 (K : PySem.W.Frag) (H : Hp) : Nat → V → V → V → Prop
  | 1, a, _, _ => ∃ rows : List (List (List Nat)), Rws K H a (some (rows.map fun l => some (l.map some))) ∧ (∀ l ∈ rows, Up l) ∧ rows.length ≤ 60 ∧ rows.flatten.length ≤ 60
  | 3, a, b, c => ∃ (ls : List (List Nat)) (k u : Nat), Recs K H a (some (ls.map some)) ∧ b = .int k ∧ c = .int u ∧ 1 ≤ k ∧ k ≤ 50 ∧ 2 ≤ u ∧ u ≤ 50 ∧ ls.length ≤ 60 ∧ ∀ l ∈ ls, l.length < 16777216
  | _, _, _, _ => False
theorem whole_nat {lo hi : Int} {k : Nat} (h1 : lo ≤ k) (h2 : (k : Int) ≤ hi) : isWhole (.int (k : Nat)) lo hi = true := by
  show (decide (lo ≤ (k : Nat)) && decide (((k : Nat) : Int) ≤ hi)) = true
  rw [decide_eq_true h1, decide_eq_true h2]; rfl
theorem ls_inj {a b : List (List Nat)} (h : (some (a.map some) : Option (List (Option (List Nat)))) = some (b.map some)) : a = b := by
  have := congrArg txO h
  rw [txO_of, txO_of] at this
  exact this
section
variable {P : Program} {w : World} {K : PySem.W.Frag} {mg : Str → Option Value} {base : Heap}
def sp__law_does (T : Txt K mg) : Sp := fun vs H Q E => ∃ (kd : Nat) (a b c : V), vs = [.int kd, a, b, c] ∧ ((∃ j, Bad20 K H kd a b c j ∧ ∀ D, IsKind T D j → ∀ H', Same H H' → E (.ref D) none H') ∨ (Good20 K H kd a b c ∧ ∀ v H', Same H H' → Q v H'))
theorem ok__law_does (T : Txt K mg) : FnOk P w K mg base (L2.CX P w) 5 T._law_does.a T._law_does.d ["_law_kind", "_law_one", "_law_two", "_law_three"] (sp__law_does T) := by
  refine T._law_does.F.okX sc__law_does (fun vs H Q E h => ?_) (fun cdv A outer s0 H vs Q E hr h => ?_)
  · obtain ⟨kd, a, b, c, rfl, _⟩ := h
    rfl
  · obtain ⟨kd, a, b, c, rfl, k⟩ := h
    refine ⟨_, (pss_cons (ps_if (pt_cmpR op_eq (pv 0) pe_int (nomark _))
      (pss_one (ps_ret (pe_callN (ok_runs_of T) (hr.mono (by decide)) (by rfl) T.runs_of.g T.runs_of.F.kp T.kb_runs_of_room (passes_call (takes_of rfl rfl rfl rfl) (fun _ _ _ _ h => h)) (pa_cons (pv 1) pa_nil) (pk_cons (pv 2) pk_nil))))
      pss_nil)
    (pss_cons (ps_if (pt_cmpR op_eq (pv 0) pe_int (nomark _))
      (pss_one (ps_ret (pe_call (ok_merged T) (hr.mono (by decide)) (by rfl) T.merged.g T.merged.F.kp T.merged.b .nil (passes_call (takes_of rfl rfl rfl rfl) (fun _ _ _ _ h => h)) (pa_cons (pv 1) pa_nil))))
      pss_nil)
    (pss_cons (ps_if (pt_cmpR op_eq (pv 0) pe_int (nomark _))
      (pss_one (ps_ret (pe_callN (ok_passes T) (hr.mono (by decide)) (by rfl) T.passes.g T.passes.F.kp T.kb_passes_ways (passes_call (takes_of rfl rfl rfl rfl) (fun _ _ _ _ h => h)) (pa_cons (pv 1) pa_nil) (pk_cons (pv 2) pk_nil))))
      pss_nil)
    (pss_one (ps_ret (pe_callN (ok_sorted_by T) (hr.mono (by decide)) (by rfl) T.sorted_by.g T.sorted_by.F.kp T.kb_sorted_by_room_ways (passes_call (takes_of rfl rfl rfl rfl) (fun _ _ _ _ h => h)) (pa_cons (pv 1) pa_nil) (pk_cons (pv 2) (pk_cons (pv 3) pk_nil)))))))), ?_⟩
    have hn := kind_BadNumber T
    have hrr := kind_BadRecord T
    match kd, k with
    | 0, .inl ⟨j, ⟨r, n, hR, hp, hc⟩, kE⟩ =>
      refine ⟨_, rfl, rfl, _, rfl, iteT ⟨_, rfl, _, rfl, rfl, rfl, a, b, r, n, rfl, hR, hp, fun no H' s => ?_, fun yes no H' s => ?_, fun ls k er ex hk1 hk2 => ?_⟩⟩
      · rcases hc with ⟨_, rfl⟩ | ⟨y, _⟩
        · exact kE _ hrr _ s
        · rw [y] at no; cases no
      · rcases hc with ⟨y, _⟩ | ⟨_, _, rfl⟩
        · rw [y] at yes; cases yes
        · exact kE _ hn _ s
      · exfalso
        subst er ex
        rcases hc with ⟨y, _⟩ | ⟨_, y, _⟩
        · rw [okTx_of] at y; cases y
        · rw [whole_nat (by omega) (by omega)] at y; cases y
    | 0, .inr ⟨hg, _⟩ => exact hg.elim
    | 1, .inl ⟨j, ⟨r, hR, h64, hb, ej⟩, kE⟩ =>
      subst ej
      refine ⟨_, rfl, rfl, _, rfl, iteF ⟨_, rfl, rfl, _, rfl, iteT ⟨_, rfl, a, r, rfl, hR, h64, fun _ H' s => kE _ hrr _ s, fun rows er hu => ?_⟩⟩⟩
      subst er
      rw [goodR_up hu] at hb
      cases hb
    | 1, .inr ⟨⟨rows, hR, hu, h1, h2⟩, kQ⟩ =>
      refine ⟨_, rfl, rfl, _, rfl, iteF ⟨_, rfl, rfl, _, rfl, iteT ⟨_, rfl, a, _, rfl, hR, fun rs ers o ho => ?_, fun no => ?_, fun rows' er hu' => ⟨?_, ?_, fun q H' g => kQ _ _ g.2.1⟩⟩⟩⟩
      · cases ers
        obtain ⟨l, hl, rfl⟩ := List.mem_map.mp ho
        rw [txO_of]
        have := len_sum hl
        rw [flat_len] at this
        omega
      · rw [goodR_up hu] at no; cases no
      · have := rows_map_inj (Option.some.inj er)
        rw [← this]; omega
      · have := rows_map_inj (Option.some.inj er)
        rw [← this, flat_len]; omega
    | 2, .inl ⟨j, ⟨n1, n2, h1, h2, hc⟩, kE⟩ =>
      refine ⟨_, rfl, rfl, _, rfl, iteF ⟨_, rfl, rfl, _, rfl, iteF ⟨_, rfl, rfl, _, rfl, iteT ⟨_, rfl, _, rfl, rfl, rfl, a, b, n1, n2, rfl, h1, h2, fun no => ?_, fun yes no => ?_, fun n k ea eb hn1 hk1 hk2 => ?_⟩⟩⟩⟩
      · rcases hc with ⟨_, rfl⟩ | ⟨_, _, rfl⟩
        · exact kE _ hn _ (Same.refl _)
        · exact kE _ hn _ (Same.refl _)
      · rcases hc with ⟨_, rfl⟩ | ⟨_, _, rfl⟩
        · exact kE _ hn _ (Same.refl _)
        · exact kE _ hn _ (Same.refl _)
      · exfalso
        subst ea eb
        rcases hc with ⟨y, _⟩ | ⟨_, y, _⟩
        · rw [whole_nat (by omega) (by omega)] at y; cases y
        · rw [whole_nat (by omega) (by omega)] at y; cases y
    | 2, .inr ⟨hg, _⟩ => exact hg.elim
    | 3, .inl ⟨j, ⟨r, n1, n2, hR, h1, h2, hb, hc⟩, kE⟩ =>
      refine ⟨_, rfl, rfl, _, rfl, iteF ⟨_, rfl, rfl, _, rfl, iteF ⟨_, rfl, rfl, _, rfl, iteF ⟨_, rfl, _, rfl, _, rfl, rfl, rfl, a, b, c, r, n1, n2, rfl, hR, h1, h2, fun no H' s => ?_, fun yes no H' s => ?_, fun yes yes2 no H' s => ?_, hb, fun ls k u er eb ec hk1 hk2 hu1 hu2 => ?_⟩⟩⟩⟩
      · rcases hc with ⟨_, rfl⟩ | ⟨y, _⟩ | ⟨y, _⟩
        · exact kE _ hrr _ s
        · rw [y] at no; cases no
        · rw [y] at no; cases no
      · rcases hc with ⟨y, _⟩ | ⟨_, _, rfl⟩ | ⟨_, _, _, rfl⟩
        · rw [y] at yes; cases yes
        · exact kE _ hn _ s
        · exact kE _ hn _ s
      · rcases hc with ⟨y, _⟩ | ⟨_, _, rfl⟩ | ⟨_, _, _, rfl⟩
        · rw [y] at yes; cases yes
        · exact kE _ hn _ s
        · exact kE _ hn _ s
      · exfalso
        subst er eb ec
        rcases hc with ⟨y, _⟩ | ⟨_, y, _⟩ | ⟨_, _, y, _⟩
        · rw [okTx_of] at y; cases y
        · rw [whole_nat (by omega) (by omega)] at y; cases y
        · rw [whole_nat (by omega) (by omega)] at y; cases y
    | 3, .inr ⟨⟨ls, k, u, hR, eb, ec, hk1, hk2, hu1, hu2, hl, hw⟩, kQ⟩ =>
      subst eb ec
      refine ⟨_, rfl, rfl, _, rfl, iteF ⟨_, rfl, rfl, _, rfl, iteF ⟨_, rfl, rfl, _, rfl, iteF ⟨_, rfl, _, rfl, _, rfl, rfl, rfl, a, _, _, _, "int", "int", rfl, hR, .int _, .int _, fun no => ?_, fun _ no => ?_, fun _ _ no => ?_, fun ls' er => ?_, fun ls' k' u' _ _ _ _ _ _ _ p q H' s _ _ _ _ => kQ _ _ s⟩⟩⟩⟩
      · rw [okTx_of] at no; cases no
      · rw [whole_nat (by omega) (by omega)] at no; cases no
      · rw [whole_nat (by omega) (by omega)] at no; cases no
      · have := ls_inj er
        subst this
        exact ⟨hl, hw⟩
    | n + 4, .inl ⟨j, hb, _⟩ => exact hb.elim
    | n + 4, .inr ⟨hg, _⟩ => exact hg.elim
def sp__law_asked (K : PySem.W.Frag) : Sp := fun vs H Q _ => ∃ (kd : Nat) (a b c : V), vs = [.int kd, a, b, c] ∧ ((∃ j, Bad20 K H kd a b c j ∧ ∀ H', Same H H' → Q (word j) H') ∨ (Good20 K H kd a b c ∧ ∀ H', Same H H' → Q told H'))
theorem ok__law_asked (T : Txt K mg) : FnOk P w K mg base (L2.CX P w) 6 T._law_asked.a T._law_asked.d ["_law_kind", "_law_one", "_law_two", "_law_three"] (sp__law_asked K) := by
  refine T._law_asked.F.okX sc__law_asked (fun vs H Q E h => ?_) (fun cdv A outer s0 H vs Q E hr h => ?_)
  · obtain ⟨kd, a, b, c, rfl, _⟩ := h
    rfl
  · obtain ⟨kd, a, b, c, rfl, k⟩ := h
    refine ⟨_, (pss_cons (ps_set (i := 4) sc__law_asked.nd rfl (.inl rfl) pe_non)
    (pss_cons (ps_try_keep (i := 5) rfl rfl sc__law_asked.nd rfl rfl ⟨rfl, by decide, .inl T.ReelError.g⟩ rfl (fun W pn xe tk _ => (pss_one (ps_expr (pe_callS (ok__law_does T) (hr.mono (by decide)) (by rfl) T._law_does.g T._law_does.F.kp T._law_does.b (fun σ => passAt tk σ) (pa_cons (pv 0) (pa_cons (pv 1) (pa_cons (pv 2) (pa_cons (pv 3) pa_nil)))))))) (fun a pn => (pss_one (ps_set (i := 4) sc__law_asked.nd rfl (.inl rfl) (pv 5)))))
    (pss_one (ps_ret (pe_ifExp (pt_cmpR op_isN (pv 4) pe_non (nomark _)) (pe_strS (l := [116, 111, 108, 100]) (by decide +kernel)) (pe_call (ok__law_refusal T) (hr.mono (by decide)) (by rfl) T._law_refusal.g T._law_refusal.F.kp T._law_refusal.b .nil passL (pa_cons (pv 4) pa_nil))))))), ?_⟩
    refine ⟨_, rfl, _, rfl, _, rfl, _, rfl, kd, a, b, c, rfl, ?_⟩
    rcases k with ⟨j, hb, kE⟩ | ⟨hg, kQ⟩
    · exact .inl ⟨j, hb, fun D hD H1 s1 => ⟨_, rfl, rfl, hD.e, fun e ne => ⟨_, rfl, fun _ => ⟨_, rfl, rfl, _, rfl, iteF ⟨_, rfl, e, _, j, rfl, upd_same, hD, fun H9 s9 => kE _ ((s1.trans (same_new ne)).trans s9)⟩⟩⟩⟩⟩
    · exact .inr ⟨hg, fun v H1 s1 => ⟨_, rfl, rfl, _, rfl, iteT (kQ _ s1)⟩⟩
end
end R
set_option maxRecDepth 100000
set_option maxHeartbeats 16000000
set_option pp.maxSteps 1500
set_option pp.deepTerms false
namespace R
open PySem PySem.Spec PyProof.Rows L2 RZ
open PySem.W (Datum)
theorem pl_but2 {K : PySem.W.Frag} {H H' : Hp} {t r : Addr} {v : V} {n : String} (h : Pl K H v n) (hv : ∀ a, v = .ref a → a ≠ t ∧ a ≠ r) (k : But2 t r H H') : Pl K H' v n := by
  cases h with
  | non => exact .non
  | bl b => exact .bl b
  | int i => exact .int i
  | str z => exact .str z
  | lst h => exact .lst (sql_but2 h (hv _ rfl).1 (hv _ rfl).2 k)
  | @tup a xs h =>
    refine .tup (xs := xs) ?_
    rcases h with (h | ⟨o, h⟩) | h
    · exact .inl (.inl (k _ _ h (hv _ rfl).1 (hv _ rfl).2))
    · exact .inl (.inr ⟨o, k _ _ h (hv _ rfl).1 (hv _ rfl).2⟩)
    · exact .inr h
  | dct h => exact .dct (k _ _ h (hv _ rfl).1 (hv _ rfl).2)
/-- a value of no address: its kind in every heap -/
def Free (K : PySem.W.Frag) (v : V) : Prop := ∃ n, ∀ H, Pl K H v n
theorem Free.int {K : PySem.W.Frag} (i : Int) : Free K (.int i) := ⟨_, fun _ => .int i⟩
theorem Free.str {K : PySem.W.Frag} (i : Str) : Free K (.str i) := ⟨_, fun _ => .str i⟩
theorem Free.bl {K : PySem.W.Frag} (i : Bool) : Free K (.bl i) := ⟨_, fun _ => .bl i⟩
theorem Free.non {K : PySem.W.Frag} : Free K .non := ⟨_, fun _ => .non⟩
theorem tgt {H H' : Hp} (_ : Same H H') : ∃ G, G = H' := ⟨_, rfl⟩
theorem rec_but {K : PySem.W.Frag} {H H' : Hp} {t r : Addr} {v : V} (h : ∃ q, Recs K H v q ∧ okTx q = false) (hv : ∀ a, v = .ref a → a ≠ t ∧ a ≠ r) (hx : ∀ a xs, v = .ref a → SqL K H a xs → ∀ b, V.ref b ∈ xs → b ≠ t ∧ b ≠ r) (k : But2 t r H H') : ∃ q, Recs K H' v q ∧ okTx q = false := by
  obtain ⟨q, hq, hf⟩ := h
  cases hq with
  | no h hn => exact ⟨none, .no (pl_but2 h hv k) hn, rfl⟩
  | lst h hi hz =>
    refine ⟨_, .lst (sql_but2 h (hv _ rfl).1 (hv _ rfl).2 k) ?_ hz, hf⟩
    rename_i a xs rs
    have hm := hx a xs rfl h
    clear h hz hf hx
    induction hi with
    | nil => exact .nil
    | cons h1 t1 ih =>
      refine .cons ?_ (ih fun b hb => hm b (List.mem_cons_of_mem _ hb))
      cases h1 with
      | str l h => exact .str l h
      | no h hn => exact .no (pl_but2 h (fun b e => hm b (by rw [e]; exact List.mem_cons_self)) k) hn
section
variable {P : Program} {w : World} {K : PySem.W.Frag} {mg : Str → Option Value} {base : Heap}
def spLaw (K : PySem.W.Frag) : Sp := fun vs H Q _ => ∃ (a : Addr) (ns : List Int), vs = [.ref a] ∧ SqL K H a (ns.map V.int) ∧ ns.length ≤ 63 ∧ ∀ H', Q (.bl true) H'
theorem ok_law (T : Txt K mg) : FnOk P w K mg base (L2.CX P w) 7 T.law.a T.law.d ["_law_script"] (spLaw K) := by
  refine T.law.F.okX sc_law (fun vs H Q E h => ?_) (fun cdv A outer s0 H0 vs Q E hr h => ?_)
  · obtain ⟨a, ns, rfl, _⟩ := h
    rfl
  · obtain ⟨a, ns0, rfl, hS, hlen, kk⟩ := h
    refine ⟨_, (pss_cons (ps_set (i := 1) sc_law.nd rfl (.inl rfl) (pe_call (ok__law_town T) (hr.mono (by decide)) (by rfl) T._law_town.g T._law_town.F.kp T._law_town.b .nil passL (pa_cons (pv 0) pa_nil)))
    (pss_cons (ps_for (passes_of rfl) rfl
      (pi_range1 (by rfl) T.z_range (pa_cons pe_int pa_nil)) (pg_name (i := 2) sc_law.nd rfl (.inl rfl))
      (pss_cons (ps_set (i := 3) sc_law.nd rfl (.inr rfl) (pe_call (ok__law_pick T) (hr.mono (by decide)) (by rfl) T._law_pick.g T._law_pick.F.kp T._law_pick.b .nil passL (pa_cons (pv 1) (pa_cons (pe_lst (pa_cons pe_non (pa_cons pe_int (pa_cons (pe_tup (pa_cons (pe_strS (l := [97]) (by decide +kernel)) pa_nil)) (pa_cons (pe_strS (l := [97, 98]) (by decide +kernel)) (pa_cons (pe_lst (pa_cons pe_int pa_nil)) (pa_cons (pe_lst (pa_cons pe_non pa_nil)) (pa_cons (pe_lst (pa_cons (pe_lst (pa_cons (pe_strS (l := [97]) (by decide +kernel)) pa_nil)) pa_nil)) (pa_cons pe_dnewK pa_nil))))))))) pa_nil))))
      (pss_cons (ps_set (i := 4) sc_law.nd rfl (.inr rfl) (pe_call (ok__law_pick T) (hr.mono (by decide)) (by rfl) T._law_pick.g T._law_pick.F.kp T._law_pick.b .nil passL (pa_cons (pv 1) (pa_cons (pe_lst (pa_cons pe_int (pa_cons pe_int (pa_cons pe_bl (pa_cons pe_non (pa_cons (pe_strS (l := [53]) (by decide +kernel)) (pa_cons (pe_op op_sub pe_int pe_int) pa_nil))))))) pa_nil))))
      (pss_cons (ps_set (i := 5) sc_law.nd rfl (.inr rfl) (pe_call (ok__law_pick T) (hr.mono (by decide)) (by rfl) T._law_pick.g T._law_pick.F.kp T._law_pick.b .nil passL (pa_cons (pv 1) (pa_cons (pe_lst (pa_cons pe_int (pa_cons pe_int (pa_cons pe_bl (pa_cons pe_non (pa_cons (pe_strS (l := [50]) (by decide +kernel)) pa_nil)))))) pa_nil))))
      (pss_cons (ps_if (pt_cmpR (op_neP hr.units) (pe_lc (own := [("_law_kind", 8)]) (g := gName 8) rfl sc_law.nd (pi_listC (K := K) rfl (pe_lst (pa_cons pe_int (pa_cons pe_int pa_nil)))) (blkOk_by (N := N_law) (sc := defScope s_law) (by decide +kernel)) (fun _ _ _ _ _ => (pg_name (i := 8) sc_law.nd rfl (.inl rfl))) (fun _ _ _ _ _ => pts_nil) (fun _ _ _ _ _ => (pe_call (ok__law_asked T) (hr.mono (by decide)) (by rfl) T._law_asked.g T._law_asked.F.kp T._law_asked.b .nil passL (pa_cons (pv 8) (pa_cons (pv 3) (pa_cons (pv 4) (pa_cons (pv 5) pa_nil))))))) (pe_op op_rep (pe_lst (pa_cons (pe_strS (l := [114, 101, 99, 111, 114, 100]) (by decide +kernel)) pa_nil)) pe_int) (nomark _))
        (pss_one (ps_ret pe_bl))
        pss_nil)
      (pss_cons (ps_set (i := 6) sc_law.nd rfl (.inl rfl) (pe_lst (pa_cons (pe_call (ok__law_asked T) (hr.mono (by decide)) (by rfl) T._law_asked.g T._law_asked.F.kp T._law_asked.b .nil passL (pa_cons pe_int (pa_cons (pe_lst (pa_cons (pe_strS (l := [97]) (by decide +kernel)) pa_nil)) (pa_cons (pv 4) (pa_cons pe_int pa_nil))))) (pa_cons (pe_call (ok__law_asked T) (hr.mono (by decide)) (by rfl) T._law_asked.g T._law_asked.F.kp T._law_asked.b .nil passL (pa_cons pe_int (pa_cons (pe_lst (pa_cons (pe_strS (l := [97]) (by decide +kernel)) pa_nil)) (pa_cons (pv 4) (pa_cons (pv 5) pa_nil))))) (pa_cons (pe_call (ok__law_asked T) (hr.mono (by decide)) (by rfl) T._law_asked.g T._law_asked.F.kp T._law_asked.b .nil passL (pa_cons pe_int (pa_cons (pe_lst (pa_cons (pe_strS (l := [97]) (by decide +kernel)) pa_nil)) (pa_cons pe_int (pa_cons (pv 5) pa_nil))))) pa_nil)))))
      (pss_cons (ps_if (pt_cmpR (op_neP hr.units) (pe_op op_cat (pv 6) (pe_lst (pa_cons (pe_call (ok__law_asked T) (hr.mono (by decide)) (by rfl) T._law_asked.g T._law_asked.F.kp T._law_asked.b .nil passL (pa_cons pe_int (pa_cons pe_int (pa_cons (pv 5) (pa_cons pe_int pa_nil))))) (pa_cons (pe_call (ok__law_asked T) (hr.mono (by decide)) (by rfl) T._law_asked.g T._law_asked.F.kp T._law_asked.b .nil passL (pa_cons pe_int (pa_cons (pe_call (ok__law_pick T) (hr.mono (by decide)) (by rfl) T._law_pick.g T._law_pick.F.kp T._law_pick.b .nil passL (pa_cons (pv 1) (pa_cons (pe_lst (pa_cons (pe_op op_sub pe_int pe_int) (pa_cons pe_int (pa_cons pe_bl (pa_cons pe_non pa_nil))))) pa_nil))) (pa_cons pe_int (pa_cons pe_int pa_nil))))) pa_nil)))) (pe_op op_rep (pe_lst (pa_cons (pe_strS (l := [110, 117, 109, 98, 101, 114]) (by decide +kernel)) pa_nil)) pe_int) (nomark _))
        (pss_one (ps_ret pe_bl))
        pss_nil)
      (pss_cons (ps_set (i := 7) sc_law.nd rfl (.inl rfl) (pe_call (ok__law_pick T) (hr.mono (by decide)) (by rfl) T._law_pick.g T._law_pick.F.kp T._law_pick.b .nil passL (pa_cons (pv 1) (pa_cons (pe_lst (pa_cons pe_non (pa_cons pe_int (pa_cons (pe_tup (pa_cons (pe_lst (pa_cons (pe_strS (l := [97]) (by decide +kernel)) pa_nil)) pa_nil)) (pa_cons (pe_lst (pa_cons (pe_lst (pa_cons (pe_strS (l := [98]) (by decide +kernel)) (pa_cons (pe_strS (l := [97]) (by decide +kernel)) pa_nil))) pa_nil)) (pa_cons (pe_lst (pa_cons (pe_lst (pa_cons (pe_strS (l := [97]) (by decide +kernel)) pa_nil)) (pa_cons (pe_tup (pa_cons (pe_strS (l := [98]) (by decide +kernel)) pa_nil)) pa_nil))) (pa_cons (pe_lst (pa_cons (pe_lst (pa_cons (pe_strS (l := [97]) (by decide +kernel)) (pa_cons pe_int pa_nil))) pa_nil)) (pa_cons (pe_lst (pa_cons (pe_strS (l := [97, 98]) (by decide +kernel)) pa_nil)) (pa_cons (pe_lst (pa_cons pe_non pa_nil)) pa_nil))))))))) pa_nil))))
      (pss_one (ps_if (pt_cmpR op_neS (pe_call (ok__law_asked T) (hr.mono (by decide)) (by rfl) T._law_asked.g T._law_asked.F.kp T._law_asked.b .nil passL (pa_cons pe_int (pa_cons (pv 7) (pa_cons pe_int (pa_cons pe_int pa_nil))))) (pe_strS (l := [114, 101, 99, 111, 114, 100]) (by decide +kernel)) (nomark _))
        (pss_one (ps_ret pe_bl))
        pss_nil))))))))))
    (pss_cons (ps_if (PW.pt (pw_or (pt_cmpR op_ne (pe_callN (ok_passes T) (hr.mono (by decide)) (by rfl) T.passes.g T.passes.F.kp T.kb_passes_ways passL (pa_cons pe_int pa_nil) (pk_cons pe_int pk_nil)) pe_int (nomark _)) (pw_or (pt_cmpR op_ne (pe_callN (ok_passes T) (hr.mono (by decide)) (by rfl) T.passes.g T.passes.F.kp T.kb_passes_ways passL (pa_cons pe_int pa_nil) (pk_cons pe_int pk_nil)) pe_int (nomark _)) (pw_or1 (pt_cmpR op_ne (pe_callN (ok_passes T) (hr.mono (by decide)) (by rfl) T.passes.g T.passes.F.kp T.kb_passes_ways passL (pa_cons pe_int pa_nil) (pk_cons pe_int pk_nil)) pe_int (nomark _))))))
      (pss_one (ps_ret pe_bl))
      pss_nil)
    (pss_one (ps_ret (pe_and (pe_cmpR op_eqS (pe_call (ok__law_asked T) (hr.mono (by decide)) (by rfl) T._law_asked.g T._law_asked.F.kp T._law_asked.b .nil passL (pa_cons pe_int (pa_cons (pe_lst pa_nil) (pa_cons pe_int (pa_cons pe_int pa_nil))))) (pe_strS (l := [116, 111, 108, 100]) (by decide +kernel)) (nomark _)) (pe_one (pe_cmpR op_eqS (pe_call (ok__law_asked T) (hr.mono (by decide)) (by rfl) T._law_asked.g T._law_asked.F.kp T._law_asked.b .nil passL (pa_cons pe_int (pa_cons (pe_lst (pa_cons (pe_lst (pa_cons (pe_strS (l := [97]) (by decide +kernel)) (pa_cons (pe_strS (l := [97]) (by decide +kernel)) pa_nil))) (pa_cons (pe_lst pa_nil) pa_nil))) (pa_cons pe_int (pa_cons pe_int pa_nil))))) (pe_strS (l := [116, 111, 108, 100]) (by decide +kernel)) (nomark _))))))))), ?_⟩
    refine ⟨_, rfl, a, ns0, rfl, hS, hlen, fun t r H1 s1 nt nr T1 => ?_⟩
    have z1 : sizeLine ≥ 1 := sz (show 1 ≤ 16777216 by decide)
    refine ⟨_, rfl, by decide, by decide, for_it walk_range (fun i σ H => ∃ o2 o3 o4 o5 o6 o7 : Option V, σ = [some (.ref a), some (.ref t), o2, o3, o4, o5, o6, o7, none] ∧ Town H t r) ⟨none, none, none, none, none, none, rfl, T1⟩ (fun _ _ _ _ _ => trivial) ?_ ?_⟩
    · rintro i x σ H Hn hi ⟨o2, o3, o4, o5, o6, o7, rfl, hT⟩ ⟨rfl, rfl⟩
      -- records that are none
      refine ⟨_, rfl, z1, fun a1 na1 => ⟨z1, fun a2 na2 => ⟨z1, fun a3 na3 => ⟨z1, fun a4 na4 => ⟨z1, fun a5 na5 => fun a6 na6 => ⟨sz (show 8 ≤ 16777216 by decide), fun a7 na7 => ?_⟩⟩⟩⟩⟩⟩
      have u1 := same_new (o := .tup [.str (S [97])]) na1
      have u2 := same_new (o := .lst [.int 5]) na2
      have u3 := same_new (o := .lst [.non]) na3
      have u4 := same_new (o := .lst [.str (S [97])]) na4
      have u5 := same_new (o := .lst [.ref a4]) na5
      have u6 := same_new (o := .dK []) na6
      have u7 := same_new (o := .lst [.non, .int 5, .ref a1, .str (S [97, 98]), .ref a2, .ref a3, .ref a5, .ref a6]) na7
      have v6 := u6.trans u7
      have v5 := u5.trans v6
      have v4 := u4.trans v5
      have v3 := u3.trans v4
      have v2 := u2.trans v3
      have v1 := u1.trans v2
      have N1 := hT.ne na1
      have N2 := (hT.same u1).ne na2
      have N3 := ((hT.same u1).same u2).ne na3
      have N4 := (((hT.same u1).same u2).same u3).ne na4
      have N5 := ((((hT.same u1).same u2).same u3).same u4).ne na5
      have N6 := (((((hT.same u1).same u2).same u3).same u4).same u5).ne na6
      have N7 := ((((((hT.same u1).same u2).same u3).same u4).same u5).same u6).ne na7
      refine ⟨t, r, a7, _, rfl, hT.same v1, SqL.of upd_same, N7.1, N7.2, (show 0 < 8 by decide), (show 8 < 1000 by decide), fun j2 v H7 hj2 b7 T7 => ?_⟩
      have hlist : ∀ {c : Addr} {xs ys : List V}, H7 c = some (.lst xs) → SqL K H7 c ys → ys = xs → True := fun _ _ _ => trivial
      obtain ⟨hrec, hv, hx⟩ : (∃ r0, Recs K H7 v r0 ∧ okTx r0 = false) ∧ (∀ a, v = .ref a → a ≠ t ∧ a ≠ r) ∧ ∃ w : List Addr, ∀ H' : Hp, (∀ c o, c ∈ w → H7 c = some o → H' c = some o) → (∀ c ∈ w, c ≠ t ∧ c ≠ r) ∧ ∃ r0, Recs K H' v r0 ∧ okTx r0 = false := by
        have := List.mem_of_getElem? hj2
        simp only [List.mem_cons, List.not_mem_nil, or_false] at this
        rcases this with rfl | rfl | rfl | rfl | rfl | rfl | rfl | rfl
        · exact ⟨⟨none, .no .non rfl, rfl⟩, fun a h => (nomatch h), [], fun H' _ => ⟨fun c h => (by cases h), none, .no .non rfl, rfl⟩⟩
        · exact ⟨⟨none, .no (.int 5) rfl, rfl⟩, fun a h => (nomatch h), [], fun H' _ => ⟨fun c h => (by cases h), none, .no (.int 5) rfl, rfl⟩⟩
        · have h := b7 _ _ (v2 _ _ upd_same) N1.1 N1.2
          exact ⟨⟨none, .no (.tup (SqT.of h)) rfl, rfl⟩, fun a e => (V.ref.inj e) ▸ N1, [a1], fun H' k => ⟨fun c h => (List.mem_singleton.mp h) ▸ N1, none, .no (.tup (SqT.of (k _ _ List.mem_cons_self h))) rfl, rfl⟩⟩
        · exact ⟨⟨none, .no (.str _) rfl, rfl⟩, fun a h => (nomatch h), [], fun H' _ => ⟨fun c h => (by cases h), none, .no (.str _) rfl, rfl⟩⟩
        · have h := b7 _ _ (v3 _ _ upd_same) N2.1 N2.2
          exact ⟨⟨some [none], .lst (SqL.of h) (.cons (.no (.int 5) rfl) .nil) (show 1 < 16777216 by decide), rfl⟩, fun a e => (V.ref.inj e) ▸ N2, [a2], fun H' k => ⟨fun c h => (List.mem_singleton.mp h) ▸ N2, some [none], .lst (SqL.of (k _ _ List.mem_cons_self h)) (.cons (.no (.int 5) rfl) .nil) (show 1 < 16777216 by decide), rfl⟩⟩
        · have h := b7 _ _ (v4 _ _ upd_same) N3.1 N3.2
          exact ⟨⟨some [none], .lst (SqL.of h) (.cons (.no .non rfl) .nil) (show 1 < 16777216 by decide), rfl⟩, fun a e => (V.ref.inj e) ▸ N3, [a3], fun H' k => ⟨fun c h => (List.mem_singleton.mp h) ▸ N3, some [none], .lst (SqL.of (k _ _ List.mem_cons_self h)) (.cons (.no .non rfl) .nil) (show 1 < 16777216 by decide), rfl⟩⟩
        · have h4 := b7 _ _ (v5 _ _ upd_same) N4.1 N4.2
          have h5 := b7 _ _ (v6 _ _ upd_same) N5.1 N5.2
          exact ⟨⟨some [none], .lst (SqL.of h5) (.cons (.no (.lst (SqL.of h4)) rfl) .nil) (show 1 < 16777216 by decide), rfl⟩, fun a e => (V.ref.inj e) ▸ N5, [a4, a5], fun H' k => ⟨fun c h => by
            rcases List.mem_cons.mp h with rfl | h
            · exact N4
            · exact (List.mem_singleton.mp h) ▸ N5, some [none], .lst (SqL.of (k _ _ (List.mem_cons_of_mem _ List.mem_cons_self) h5)) (.cons (.no (.lst (SqL.of (k _ _ List.mem_cons_self h4))) rfl) .nil) (show 1 < 16777216 by decide), rfl⟩⟩
        · have h := b7 _ _ (u7 _ _ upd_same) N6.1 N6.2
          exact ⟨⟨none, .no (.dct h) rfl, rfl⟩, fun a e => (V.ref.inj e) ▸ N6, [a6], fun H' k => ⟨fun c h => (List.mem_singleton.mp h) ▸ N6, none, .no (.dct (k _ _ List.mem_cons_self h)) rfl, rfl⟩⟩
      obtain ⟨cs, hcs⟩ := hx
      have hcn := (hcs H7 fun _ _ _ h => h).1
      -- a room that is none
      refine ⟨_, rfl, _, _, rfl, rfl, sz (show 6 ≤ 16777216 by decide), fun p3 np3 => ?_⟩
      have n3 := T7.ne np3
      refine ⟨t, r, p3, _, rfl, town_new T7 np3, SqL.of upd_same, n3.1, n3.2, (show 0 < 6 by decide), (show 6 < 1000 by decide), fun j3 wd H8 hj3 b8 T8 => ?_⟩
      obtain ⟨hw1, nw, hw2⟩ : isWhole wd 1 50 = false ∧ Free K wd := by
        have := List.mem_of_getElem? hj3
        simp only [List.mem_cons, List.not_mem_nil, or_false] at this
        rcases this with rfl | rfl | rfl | rfl | rfl | rfl
        · exact ⟨rfl, .int _⟩
        · exact ⟨rfl, .int _⟩
        · exact ⟨rfl, .bl _⟩
        · exact ⟨rfl, .non⟩
        · exact ⟨rfl, .str _⟩
        · exact ⟨rfl, .int _⟩
      -- ways that are none
      refine ⟨_, rfl, sz (by decide), fun p4 np4 => ?_⟩
      have n4 := T8.ne np4
      refine ⟨t, r, p4, _, rfl, town_new T8 np4, SqL.of upd_same, n4.1, n4.2, (show 0 < 5 by decide), (show 5 < 1000 by decide), fun j4 wy H9 hj4 b9 T9 => ?_⟩
      obtain ⟨hy1, ny, hy2⟩ : isWhole wy 2 50 = false ∧ Free K wy := by
        have := List.mem_of_getElem? hj4
        simp only [List.mem_cons, List.not_mem_nil, or_false] at this
        rcases this with rfl | rfl | rfl | rfl | rfl
        · exact ⟨rfl, .int _⟩
        · exact ⟨rfl, .int _⟩
        · exact ⟨rfl, .bl _⟩
        · exact ⟨rfl, .non⟩
        · exact ⟨rfl, .str _⟩
      have hrec9 : ∀ H', Same H9 H' → ∃ r0, Recs K H' v r0 ∧ okTx r0 = false := fun H' s => (hcs H' fun c o hc ho => s _ _ (b9 _ _ (same_new np4 _ _ (b8 _ _ (same_new np3 _ _ ho) (hcn c hc).1 (hcn c hc).2)) (hcn c hc).1 (hcn c hc).2)).2
      -- asked with them
      refine ⟨sz (by decide), fun pl npl => ⟨pl, rfl, ⟨_, SqL.of upd_same⟩, fun D nD => lc_map (walk_list (xs := [V.int 0, .int 3])) (List.replicate 2 (word 8)) rfl (by decide) nD yat_same (fun _ s => sql_same (SqL.of upd_same) s) (fun j x H10 H11 y' hj hy' t1 t2 hY Q2 q2 => ⟨rfl, ?_⟩) (fun H10 t1 hD => ?_) gName_mono⟩⟩
      · obtain ⟨rfl, hx⟩ := hY
        have ey : y' = word 8 := List.eq_of_mem_replicate (List.mem_of_getElem? hy')
        subst ey
        obtain ⟨r0, hr0, hf0⟩ := hrec9 H11 ((same_new npl).trans t2)
        have hxx : x = .int ((0 : Nat) : Int) ∨ x = .int ((3 : Nat) : Int) := by
          have := List.mem_of_getElem? hx
          simp only [List.mem_cons, List.not_mem_nil, or_false] at this
          exact this
        rcases hxx with rfl | rfl
        · exact ⟨_, rfl, _, rfl, _, rfl, _, rfl, 0, v, wd, wy, rfl, .inl ⟨8, ⟨r0, nw, hr0, hw2 _, .inl ⟨hf0, rfl⟩⟩, fun H' s' => q2 _ s'⟩⟩
        · exact ⟨_, rfl, _, rfl, _, rfl, _, rfl, 3, v, wd, wy, rfl, .inl ⟨8, ⟨r0, nw, ny, hr0, hw2 _, hy2 _, fun ls e => (by rw [e, okTx_of] at hf0; cases hf0), .inl ⟨hf0, rfl⟩⟩, fun H' s' => q2 _ s'⟩⟩
      have T10 := (town_new (o := .lst [V.int 0, .int 3]) T9 npl).same t1
      refine ⟨sz (by decide), fun p8 np8 => ⟨p8, 2, _, rfl, rfl, upd_same, by decide, by decide, sz (by decide), fun p9 np9 => ?_⟩⟩
      have w1 := same_new (o := .lst [.str (S ([114, 101, 99, 111, 114, 100] : List Nat))]) np8
      have w2 := same_new (o := .lst (List.replicate (2 : Int).toNat [V.str (S ([114, 101, 99, 111, 114, 100] : List Nat))]).flatten) np9
      refine ne_strs (ls := [([114, 101, 99, 111, 114, 100] : List Nat), ([114, 101, 99, 111, 114, 100] : List Nat)]) (ms := [([114, 101, 99, 111, 114, 100] : List Nat), ([114, 101, 99, 111, 114, 100] : List Nat)]) (SqL.of (w2 _ _ (w1 _ _ hD))) (SqL.of upd_same) ⟨_, rfl, iteN (fun h => absurd rfl h) (fun _ => ?_)⟩
      have T11 := (T10.same w1).same w2
      obtain ⟨H11, e11⟩ := tgt w2
      rw [← e11]
      rw [← e11] at T11
      clear w1 w2 np9 e11 hD t1
      have one : ∀ {H' : Hp} {c : Addr}, H' c = some (.lst [.str (S [97])]) → Recs K H' (.ref c) (some ([[97]].map some)) := fun {H' c} h => Recs.ofs (ls := [[97]]) (SqL.of h) (by decide) (by decide)
      have onb : ∀ ls : List (List Nat), (some ([[97]].map some) : Option (List (Option (List Nat)))) = some (ls.map some) → ls.length ≤ 60 ∧ ∀ l ∈ ls, l.length < 16777216 := fun ls e => by
        have := ls_inj e
        subst this
        exact ⟨by decide, by decide⟩
      -- numbers that are none
      refine ⟨z1, fun c1 nc1 => ?_⟩
      refine ⟨_, rfl, 0, .ref c1, wd, .int 0, rfl, .inl ⟨0, ⟨_, nw, one upd_same, hw2 _, .inr ⟨okTx_of [[97]], hw1, rfl⟩⟩, fun H12 s12 => ?_⟩⟩
      refine ⟨z1, fun c2 nc2 => ?_⟩
      refine ⟨_, rfl, _, rfl, 3, .ref c2, wd, wy, rfl, .inl ⟨0, ⟨_, nw, ny, one upd_same, hw2 _, hy2 _, onb, .inr (.inl ⟨okTx_of [[97]], hw1, rfl⟩)⟩, fun H13 s13 => ?_⟩⟩
      refine ⟨z1, fun c3 nc3 => ?_⟩
      refine ⟨_, rfl, 3, .ref c3, .int 5, wy, rfl, .inl ⟨0, ⟨_, _, ny, one upd_same, .int 5, hy2 _, onb, .inr (.inr ⟨okTx_of [[97]], rfl, hy1, rfl⟩)⟩, fun H14 s14 => ?_⟩⟩
      refine ⟨sz (show 3 ≤ 16777216 by decide), fun pf npf => ?_⟩
      have T14 := ((((((T11.same (same_new (o := .lst [.str (S [97])]) nc1)).same s12).same (same_new (o := .lst [.str (S [97])]) nc2)).same s13).same (same_new (o := .lst [.str (S [97])]) nc3)).same s14).same (same_new (o := .lst [word 0, word 0, word 0]) npf)
      have hpf : ∀ (H' : Hp), H' = upd H14 pf (.lst [word 0, word 0, word 0]) → H' pf = some (.lst [word 0, word 0, word 0]) := fun H' e => by rw [e]; exact upd_same
      obtain ⟨H15, e15⟩ : ∃ G, G = upd H14 pf (.lst [word 0, word 0, word 0]) := ⟨_, rfl⟩
      have hpf15 := hpf H15 e15
      rw [← e15] at T14 ⊢
      have npft := (T14.ne (p := pf)) 
      refine ⟨_, rfl, _, rfl, 2, .int 5, wy, .int 0, rfl, .inl ⟨0, ⟨_, ny, .int 5, hy2 _, .inr ⟨rfl, hy1, rfl⟩⟩, fun H16 s16 => ?_⟩⟩
      have T16 := T14.same s16
      have hpf16 := s16 _ _ hpf15
      refine ⟨_, rfl, _, _, rfl, rfl, sz (show 4 ≤ 16777216 by decide), fun p5 np5 => ?_⟩
      have n5 := T16.ne np5
      refine ⟨t, r, p5, _, rfl, town_new T16 np5, SqL.of upd_same, n5.1, n5.2, (show 0 < 4 by decide), (show 4 < 1000 by decide), fun j5 wz H17 hj5 b17 T17 => ?_⟩
      obtain ⟨hz1, nz, hz2⟩ : isWhole wz 0 100000 = false ∧ Free K wz := by
        have := List.mem_of_getElem? hj5
        simp only [List.mem_cons, List.not_mem_nil, or_false] at this
        rcases this with rfl | rfl | rfl | rfl
        · exact ⟨rfl, .int _⟩
        · exact ⟨rfl, .int _⟩
        · exact ⟨rfl, .bl _⟩
        · exact ⟨rfl, .non⟩
      refine ⟨2, wz, .int 2, .int 0, rfl, .inl ⟨0, ⟨nz, _, hz2 _, .int 2, .inl ⟨hz1, rfl⟩⟩, fun H18 s18 => ?_⟩⟩
      have pft : pf ≠ t ∧ pf ≠ r := by
        have T0 := ((((((T11.same (same_new (o := .lst [.str (S [97])]) nc1)).same s12).same (same_new (o := .lst [.str (S [97])]) nc2)).same s13).same (same_new (o := .lst [.str (S [97])]) nc3)).same s14)
        exact T0.ne npf
      have hpf18 := s18 _ _ (b17 _ _ (same_new np5 _ _ hpf16) pft.1 pft.2)
      refine ⟨sz (show 2 ≤ 16777216 by decide), fun p6 np6 => ⟨pf, p6, _, _, rfl, rfl, same_new np6 _ _ hpf18, upd_same, sz (show 5 ≤ 16777216 by decide), fun p7 np7 => ?_⟩⟩
      refine ⟨sz (by decide), fun p8 np8 => ⟨p8, 5, _, rfl, rfl, upd_same, by decide, by decide, sz (by decide), fun p9 np9 => ?_⟩⟩
      have y1 := same_new (o := .lst [word 0, word 0]) np6
      have y2 := same_new (o := .lst ([word 0, word 0, word 0] ++ [word 0, word 0])) np7
      have y3 := same_new (o := .lst [.str (S ([110, 117, 109, 98, 101, 114] : List Nat))]) np8
      have y4 := same_new (o := .lst (List.replicate (5 : Int).toNat [V.str (S ([110, 117, 109, 98, 101, 114] : List Nat))]).flatten) np9
      refine ne_strs (ls := [([110, 117, 109, 98, 101, 114] : List Nat), ([110, 117, 109, 98, 101, 114] : List Nat), ([110, 117, 109, 98, 101, 114] : List Nat), ([110, 117, 109, 98, 101, 114] : List Nat), ([110, 117, 109, 98, 101, 114] : List Nat)]) (ms := [([110, 117, 109, 98, 101, 114] : List Nat), ([110, 117, 109, 98, 101, 114] : List Nat), ([110, 117, 109, 98, 101, 114] : List Nat), ([110, 117, 109, 98, 101, 114] : List Nat), ([110, 117, 109, 98, 101, 114] : List Nat)]) (SqL.of (y4 _ _ (y3 _ _ upd_same))) (SqL.of upd_same) ⟨_, rfl, iteN (fun h => absurd rfl h) (fun _ => ?_)⟩
      have T19 := ((((T17.same s18).same y1).same y2).same y3).same y4
      obtain ⟨H19, e19⟩ := tgt y4
      rw [← e19]
      rw [← e19] at T19
      clear y1 y2 y3 y4 np9 e19
      -- rows that are none
      refine ⟨_, rfl, z1, fun b1 m1 => ⟨z1, fun b2 m2 => ⟨sz (show 2 ≤ 16777216 by decide), fun b3 m3 => ⟨z1, fun b4 m4 => ⟨z1, fun b5 m5 => ⟨z1, fun b6 m6 => ⟨sz (show 2 ≤ 16777216 by decide), fun b7 m7 => ⟨sz (show 2 ≤ 16777216 by decide), fun b8 m8 => ⟨z1, fun b9 m9 => ⟨z1, fun b10 m10 => ⟨z1, fun b11 m11 => ⟨sz (show 8 ≤ 16777216 by decide), fun b12 m12 => ?_⟩⟩⟩⟩⟩⟩⟩⟩⟩⟩⟩⟩
      have x1 := same_new (o := .lst [.str (S [97])]) m1
      have x2 := same_new (o := .tup [.ref b1]) m2
      have x3 := same_new (o := .lst [.str (S [98]), .str (S [97])]) m3
      have x4 := same_new (o := .lst [.ref b3]) m4
      have x5 := same_new (o := .lst [.str (S [97])]) m5
      have x6 := same_new (o := .tup [.str (S [98])]) m6
      have x7 := same_new (o := .lst [.ref b5, .ref b6]) m7
      have x8 := same_new (o := .lst [.str (S [97]), .int 5]) m8
      have x9 := same_new (o := .lst [.ref b8]) m9
      have x10 := same_new (o := .lst [.str (S [97, 98])]) m10
      have x11 := same_new (o := .lst [.non]) m11
      have x12 := same_new (o := .lst [.non, .int 5, .ref b2, .ref b4, .ref b7, .ref b9, .ref b10, .ref b11]) m12
      have q11 := x11.trans x12
      have q10 := x10.trans q11
      have q9 := x9.trans q10
      have q8 := x8.trans q9
      have q7 := x7.trans q8
      have q6 := x6.trans q7
      have q5 := x5.trans q6
      have q4 := x4.trans q5
      have q3 := x3.trans q4
      have q2 := x2.trans q3
      have q1 := x1.trans q2
      have M2 := (T19.same x1).ne m2
      have T2' := (T19.same x1).same x2
      have M3 := T2'.ne m3
      have M4 := (T2'.same x3).ne m4
      have T4' := (T2'.same x3).same x4
      have M5 := T4'.ne m5
      have M6 := (T4'.same x5).ne m6
      have T6' := (T4'.same x5).same x6
      have M7 := T6'.ne m7
      have M8 := (T6'.same x7).ne m8
      have T8' := (T6'.same x7).same x8
      have M9 := T8'.ne m9
      have M10 := (T8'.same x9).ne m10
      have T10' := (T8'.same x9).same x10
      have M11 := T10'.ne m11
      have M12 := (T10'.same x11).ne m12
      refine ⟨t, r, b12, _, rfl, T19.same q1, SqL.of upd_same, M12.1, M12.2, (show 0 < 8 by decide), (show 8 < 1000 by decide), fun j6 rv H20 hj6 b20 T20 => ?_⟩
      obtain ⟨r1, hR1, h641, hg1⟩ : ∃ r1, Rws K H20 rv r1 ∧ (∀ rs, r1 = some rs → ∀ o ∈ rs, (txO o).length < 64) ∧ goodR r1 = false := by
        have := List.mem_of_getElem? hj6
        simp only [List.mem_cons, List.not_mem_nil, or_false] at this
        rcases this with rfl | rfl | rfl | rfl | rfl | rfl | rfl | rfl
        · exact ⟨none, .no .non rfl, fun rs e => (nomatch e), rfl⟩
        · exact ⟨none, .no (.int 5) rfl, fun rs e => (nomatch e), rfl⟩
        · exact ⟨none, .no (.tup (SqT.of (b20 _ _ (q3 _ _ upd_same) M2.1 M2.2))) rfl, fun rs e => (nomatch e), rfl⟩
        · have h3 := b20 _ _ (q4 _ _ upd_same) M3.1 M3.2
          have h4 := b20 _ _ (q5 _ _ upd_same) M4.1 M4.2
          refine ⟨some [some ([[98], [97]].map some)], .lst (SqL.of h4) (fun i x hx => ?_) rfl (show 1 < 16777216 by decide), fun rs e o ho => ?_, ?_⟩
          · match i, hx with
            | 0, hx => cases hx; exact ⟨_, rfl, Recs.ofs (ls := [[98], [97]]) (SqL.of h3) (by decide) (by decide)⟩
            | i + 1, hx => simp at hx
          · cases e
            rw [List.mem_singleton.mp ho]
            decide
          · have e : rowOk (some ([[98], [97]].map some)) = false := by
              unfold rowOk
              rw [txO_of, okTx_of, decide_eq_false (fun h => by
                have hu := up_srt.mp h
                exact absurd ((List.pairwise_cons.mp hu).1 [97] List.mem_cons_self) (by decide))]
              rfl
            show (rowOk _ && true) = false
            rw [e]
            rfl
        · have h5 := b20 _ _ (q6 _ _ upd_same) M5.1 M5.2
          have h6 := b20 _ _ (q7 _ _ upd_same) M6.1 M6.2
          have h7 := b20 _ _ (q8 _ _ upd_same) M7.1 M7.2
          refine ⟨some [some ([[97]].map some), none], .lst (SqL.of h7) (fun i x hx => ?_) rfl (show 2 < 16777216 by decide), fun rs e o ho => ?_, ?_⟩
          · match i, hx with
            | 0, hx => cases hx; exact ⟨_, rfl, Recs.ofs (ls := [[97]]) (SqL.of h5) (by decide) (by decide)⟩
            | 1, hx => cases hx; exact ⟨_, rfl, .no (.tup (SqT.of h6)) rfl⟩
            | i + 2, hx => simp at hx
          · cases e
            simp only [List.mem_cons, List.not_mem_nil, or_false] at ho
            rcases ho with rfl | rfl <;> decide
          · show (rowOk _ && (rowOk none && true)) = false
            rw [show rowOk none = false from rfl, Bool.false_and, Bool.and_false]
        · have h8 := b20 _ _ (q9 _ _ upd_same) M8.1 M8.2
          have h9 := b20 _ _ (q10 _ _ upd_same) M9.1 M9.2
          refine ⟨some [some [some [97], none]], .lst (SqL.of h9) (fun i x hx => ?_) rfl (show 1 < 16777216 by decide), fun rs e o ho => ?_, rfl⟩
          · match i, hx with
            | 0, hx => cases hx; exact ⟨_, rfl, .lst (SqL.of h8) (.cons (.str [97] (by decide)) (.cons (.no (.int 5) rfl) .nil)) (show 2 < 16777216 by decide)⟩
            | i + 1, hx => simp at hx
          · cases e
            rw [List.mem_singleton.mp ho]
            decide
        · have h10 := b20 _ _ (q11 _ _ upd_same) M10.1 M10.2
          refine ⟨some [none], .lst (SqL.of h10) (fun i x hx => ?_) rfl (show 1 < 16777216 by decide), fun rs e o ho => ?_, rfl⟩
          · match i, hx with
            | 0, hx => cases hx; exact ⟨_, rfl, .no (.str _) rfl⟩
            | i + 1, hx => simp at hx
          · cases e
            rw [List.mem_singleton.mp ho]
            decide
        · have h11 := b20 _ _ (x12 _ _ upd_same) M11.1 M11.2
          refine ⟨some [none], .lst (SqL.of h11) (fun i x hx => ?_) rfl (show 1 < 16777216 by decide), fun rs e o ho => ?_, rfl⟩
          · match i, hx with
            | 0, hx => cases hx; exact ⟨_, rfl, .no .non rfl⟩
            | i + 1, hx => simp at hx
          · cases e
            rw [List.mem_singleton.mp ho]
            decide
      refine ⟨_, rfl, 1, rv, .int 0, .int 0, rfl, .inl ⟨8, ⟨r1, hR1, h641, hg1, rfl⟩, fun H21 s21 => ?_⟩⟩
      refine ⟨_, _, rfl, rfl, _, rfl, iteN (c := ([114, 101, 99, 111, 114, 100] : List Nat) = ([114, 101, 99, 111, 114, 100] : List Nat)) (fun h => absurd rfl h) (fun _ => ?_)⟩
      exact ⟨_, _, _, _, _, _, rfl, T20.same s21⟩
    · rintro σ H ⟨o2, o3, o4, o5, o6, o7, rfl, hT⟩
      refine ⟨rfl, rfl, .int 100000, .int 50, "int", "int", rfl, .int _, .int _, fun no => absurd no (by decide), fun _ no => absurd no (by decide), fun n k en ek _ _ _ => ?_⟩
      obtain rfl : n = 100000 := by have := V.int.inj en; omega
      obtain rfl : k = 50 := by have := V.int.inj ek; omega
      rw [show turnsF 50 100000 100000 = 3 by decide +kernel]
      refine ⟨rfl, _, rfl, iteF ?_⟩
      refine ⟨rfl, rfl, .int 0, .int 2, "int", "int", rfl, .int _, .int _, fun no => absurd no (by decide), fun _ no => absurd no (by decide), fun n k en ek _ _ _ => ?_⟩
      obtain rfl : n = 0 := by have := V.int.inj en; omega
      obtain rfl : k = 2 := by have := V.int.inj ek; omega
      refine ⟨rfl, _, rfl, iteF ?_⟩
      refine ⟨rfl, rfl, .int 1, .int 2, "int", "int", rfl, .int _, .int _, fun no => absurd no (by decide), fun _ no => absurd no (by decide), fun n k en ek _ _ _ => ?_⟩
      obtain rfl : n = 1 := by have := V.int.inj en; omega
      obtain rfl : k = 2 := by have := V.int.inj ek; omega
      refine ⟨rfl, _, rfl, iteF ?_⟩
      refine ⟨sz (by decide), fun p np => ?_⟩
      refine ⟨3, .ref p, .int 50, .int 50, rfl, .inr ⟨⟨[], 50, 50, Recs.ofs (ls := []) (SqL.of upd_same) (by decide) (fun l h => by cases h), rfl, rfl, by decide, by decide, by decide, by decide, by decide, fun l h => by cases h⟩, fun H1 s1 => ?_⟩⟩
      refine ⟨_, _, rfl, rfl, _, rfl, iteT ?_⟩
      refine ⟨sz (show 2 ≤ 16777216 by decide), fun c1 n1 => ⟨sz (show 0 ≤ 16777216 by decide), fun c2 n2 => ⟨sz (show 2 ≤ 16777216 by decide), fun c3 n3 => ?_⟩⟩⟩
      have y1 := same_new (o := .lst [.str (S [97]), .str (S [97])]) n1
      have y2 := same_new (o := .lst []) n2
      have y3 := same_new (o := .lst [.ref c1, .ref c2]) n3
      have ro : Rows (upd (upd (upd H1 c1 (.lst [.str (S [97]), .str (S [97])])) c2 (.lst [])) c3 (.lst [.ref c1, .ref c2])) [c1, c2] [[[97], [97]], []] := ⟨y3 _ _ (y2 _ _ upd_same), y3 _ _ upd_same, trivial⟩
      have hup : ∀ l ∈ ([[[97], [97]], []] : List (List (List Nat))), Up l := fun l hl => by
        rcases List.mem_cons.mp hl with rfl | hl
        · exact List.pairwise_cons.mpr ⟨fun z hz => by rw [List.mem_singleton.mp hz]; exact List.le_refl _, List.pairwise_singleton _ _⟩
        · rw [List.mem_singleton.mp hl]; exact List.Pairwise.nil
      refine ⟨1, .ref c3, .int 0, .int 0, rfl, .inr ⟨⟨[[[97], [97]], []], Rws.of (as := [c1, c2]) (SqL.of upd_same) ro (by decide) (by decide), hup, by decide, by decide⟩, fun H2 s2 => ?_⟩⟩
      exact ⟨_, _, rfl, rfl, kk _⟩
end
end R
set_option maxRecDepth 100000
set_option maxHeartbeats 8000000
namespace R
open PySem PySem.Spec PyProof.Rows L2 RZ
theorem txt_mk {K : PySem.W.Frag} {h : Heap} {mg : Str → Option Value} (X : K.In h) (G : h.Ns mainGlobals mg) {C_BadName C_NoRing C_TooLong C_BadRecord C_NoFile C_NoReel C_BadBlock C_AtEnd C_BadLabel C_BadReel C_BadNumber C_AtStart C_ReelError C_Kept C_BadForm f_is_whole f_look_number f_look_texts f_runs_of f_merged f_passes f_sorted_by f__law_town f__law_draw f__law_pick f__law_refusal f__law_does f__law_asked f_law : Addr} {od_is_whole an_is_whole od_look_number an_look_number od_look_texts an_look_texts od_runs_of an_runs_of od_merged an_merged od_passes an_passes od_sorted_by an_sorted_by od__law_town an__law_town od__law_draw an__law_draw od__law_pick an__law_pick od__law_refusal an__law_refusal od__law_does an__law_does od__law_asked an__law_asked od_law an_law : Option Addr} {oc_is_whole kV_is_whole dc_is_whole pm_is_whole cd_is_whole ct_is_whole oc_look_number kV_look_number dc_look_number pm_look_number cd_look_number ct_look_number oc_look_texts kV_look_texts dc_look_texts pm_look_texts cd_look_texts ct_look_texts oc_runs_of kV_runs_of dc_runs_of pm_runs_of cd_runs_of ct_runs_of oc_merged kV_merged dc_merged pm_merged cd_merged ct_merged oc_passes kV_passes dc_passes pm_passes cd_passes ct_passes oc_sorted_by kV_sorted_by dc_sorted_by pm_sorted_by cd_sorted_by ct_sorted_by oc__law_town kV__law_town dc__law_town pm__law_town cd__law_town ct__law_town oc__law_draw kV__law_draw dc__law_draw pm__law_draw cd__law_draw ct__law_draw oc__law_pick kV__law_pick dc__law_pick pm__law_pick cd__law_pick ct__law_pick oc__law_refusal kV__law_refusal dc__law_refusal pm__law_refusal cd__law_refusal ct__law_refusal oc__law_does kV__law_does dc__law_does pm__law_does cd__law_does ct__law_does oc__law_asked kV__law_asked dc__law_asked pm__law_asked cd__law_asked ct__law_asked oc_law kV_law dc_law pm_law cd_law ct_law : Value} {sl_is_whole sl_look_number sl_look_texts sl_runs_of sl_merged sl_passes sl_sorted_by sl__law_town sl__law_draw sl__law_pick sl__law_refusal sl__law_does sl__law_asked sl_law : Array (Option Value)}
    (g_BadName : PySem.W.nsIn K mainGlobals "BadName" = some (some (.ref C_BadName)))
    (x_BadName : PySem.W.excIn K C_BadName [.type "ValueError", .type "Exception", .type "BaseException", .type "object"] "ValueError.__new__" = true)
    (k_BadName : PySem.W.keepIn K (.ref C_BadName) = true)
    (b_BadName : PySem.W.subIn K (.ref C_BadName) (.type "BaseException") = some true)
    (t_BadName : PySem.W.typeIn K (.ref C_BadName) = some (.type "type"))
    (g_NoRing : PySem.W.nsIn K mainGlobals "NoRing" = some (some (.ref C_NoRing)))
    (x_NoRing : PySem.W.excIn K C_NoRing [.type "ValueError", .type "Exception", .type "BaseException", .type "object"] "ValueError.__new__" = true)
    (k_NoRing : PySem.W.keepIn K (.ref C_NoRing) = true)
    (b_NoRing : PySem.W.subIn K (.ref C_NoRing) (.type "BaseException") = some true)
    (t_NoRing : PySem.W.typeIn K (.ref C_NoRing) = some (.type "type"))
    (g_TooLong : PySem.W.nsIn K mainGlobals "TooLong" = some (some (.ref C_TooLong)))
    (x_TooLong : PySem.W.excIn K C_TooLong [.type "ValueError", .type "Exception", .type "BaseException", .type "object"] "ValueError.__new__" = true)
    (k_TooLong : PySem.W.keepIn K (.ref C_TooLong) = true)
    (b_TooLong : PySem.W.subIn K (.ref C_TooLong) (.type "BaseException") = some true)
    (t_TooLong : PySem.W.typeIn K (.ref C_TooLong) = some (.type "type"))
    (g_BadRecord : PySem.W.nsIn K mainGlobals "BadRecord" = some (some (.ref C_BadRecord)))
    (x_BadRecord : PySem.W.excIn K C_BadRecord [.type "ValueError", .type "Exception", .type "BaseException", .type "object"] "ValueError.__new__" = true)
    (k_BadRecord : PySem.W.keepIn K (.ref C_BadRecord) = true)
    (b_BadRecord : PySem.W.subIn K (.ref C_BadRecord) (.type "BaseException") = some true)
    (t_BadRecord : PySem.W.typeIn K (.ref C_BadRecord) = some (.type "type"))
    (g_NoFile : PySem.W.nsIn K mainGlobals "NoFile" = some (some (.ref C_NoFile)))
    (g_NoReel : PySem.W.nsIn K mainGlobals "NoReel" = some (some (.ref C_NoReel)))
    (x_NoReel : PySem.W.excIn K C_NoReel [.type "ValueError", .type "Exception", .type "BaseException", .type "object"] "ValueError.__new__" = true)
    (k_NoReel : PySem.W.keepIn K (.ref C_NoReel) = true)
    (b_NoReel : PySem.W.subIn K (.ref C_NoReel) (.type "BaseException") = some true)
    (t_NoReel : PySem.W.typeIn K (.ref C_NoReel) = some (.type "type"))
    (g_BadBlock : PySem.W.nsIn K mainGlobals "BadBlock" = some (some (.ref C_BadBlock)))
    (x_BadBlock : PySem.W.excIn K C_BadBlock [.type "ValueError", .type "Exception", .type "BaseException", .type "object"] "ValueError.__new__" = true)
    (k_BadBlock : PySem.W.keepIn K (.ref C_BadBlock) = true)
    (b_BadBlock : PySem.W.subIn K (.ref C_BadBlock) (.type "BaseException") = some true)
    (t_BadBlock : PySem.W.typeIn K (.ref C_BadBlock) = some (.type "type"))
    (g_AtEnd : PySem.W.nsIn K mainGlobals "AtEnd" = some (some (.ref C_AtEnd)))
    (x_AtEnd : PySem.W.excIn K C_AtEnd [.type "ValueError", .type "Exception", .type "BaseException", .type "object"] "ValueError.__new__" = true)
    (k_AtEnd : PySem.W.keepIn K (.ref C_AtEnd) = true)
    (b_AtEnd : PySem.W.subIn K (.ref C_AtEnd) (.type "BaseException") = some true)
    (t_AtEnd : PySem.W.typeIn K (.ref C_AtEnd) = some (.type "type"))
    (g_BadLabel : PySem.W.nsIn K mainGlobals "BadLabel" = some (some (.ref C_BadLabel)))
    (x_BadLabel : PySem.W.excIn K C_BadLabel [.type "ValueError", .type "Exception", .type "BaseException", .type "object"] "ValueError.__new__" = true)
    (k_BadLabel : PySem.W.keepIn K (.ref C_BadLabel) = true)
    (b_BadLabel : PySem.W.subIn K (.ref C_BadLabel) (.type "BaseException") = some true)
    (t_BadLabel : PySem.W.typeIn K (.ref C_BadLabel) = some (.type "type"))
    (g_BadReel : PySem.W.nsIn K mainGlobals "BadReel" = some (some (.ref C_BadReel)))
    (x_BadReel : PySem.W.excIn K C_BadReel [.type "ValueError", .type "Exception", .type "BaseException", .type "object"] "ValueError.__new__" = true)
    (k_BadReel : PySem.W.keepIn K (.ref C_BadReel) = true)
    (b_BadReel : PySem.W.subIn K (.ref C_BadReel) (.type "BaseException") = some true)
    (t_BadReel : PySem.W.typeIn K (.ref C_BadReel) = some (.type "type"))
    (g_BadNumber : PySem.W.nsIn K mainGlobals "BadNumber" = some (some (.ref C_BadNumber)))
    (x_BadNumber : PySem.W.excIn K C_BadNumber [.type "ValueError", .type "Exception", .type "BaseException", .type "object"] "ValueError.__new__" = true)
    (k_BadNumber : PySem.W.keepIn K (.ref C_BadNumber) = true)
    (b_BadNumber : PySem.W.subIn K (.ref C_BadNumber) (.type "BaseException") = some true)
    (t_BadNumber : PySem.W.typeIn K (.ref C_BadNumber) = some (.type "type"))
    (g_AtStart : PySem.W.nsIn K mainGlobals "AtStart" = some (some (.ref C_AtStart)))
    (x_AtStart : PySem.W.excIn K C_AtStart [.type "ValueError", .type "Exception", .type "BaseException", .type "object"] "ValueError.__new__" = true)
    (k_AtStart : PySem.W.keepIn K (.ref C_AtStart) = true)
    (b_AtStart : PySem.W.subIn K (.ref C_AtStart) (.type "BaseException") = some true)
    (t_AtStart : PySem.W.typeIn K (.ref C_AtStart) = some (.type "type"))
    (g_ReelError : PySem.W.nsIn K mainGlobals "ReelError" = some (some (.ref C_ReelError)))
    (x_ReelError : PySem.W.excIn K C_ReelError [.type "ValueError", .type "Exception", .type "BaseException", .type "object"] "ValueError.__new__" = true)
    (k_ReelError : PySem.W.keepIn K (.ref C_ReelError) = true)
    (b_ReelError : PySem.W.subIn K (.ref C_ReelError) (.type "BaseException") = some true)
    (t_ReelError : PySem.W.typeIn K (.ref C_ReelError) = some (.type "type"))
    (g_Kept : PySem.W.nsIn K mainGlobals "Kept" = some (some (.ref C_Kept)))
    (g_BadForm : PySem.W.nsIn K mainGlobals "BadForm" = some (some (.ref C_BadForm)))
    (x_BadForm : PySem.W.excIn K C_BadForm [.type "ValueError", .type "Exception", .type "BaseException", .type "object"] "ValueError.__new__" = true)
    (k_BadForm : PySem.W.keepIn K (.ref C_BadForm) = true)
    (b_BadForm : PySem.W.subIn K (.ref C_BadForm) (.type "BaseException") = some true)
    (t_BadForm : PySem.W.typeIn K (.ref C_BadForm) = some (.type "type"))
    (a_is_whole : PySem.W.nsIn K mainGlobals "is_whole" = some (some (.ref f_is_whole)))
    (l_is_whole : K.lookup f_is_whole = some ⟨oc_is_whole, od_is_whole, .func (PySem.W.fnOf "is_whole" "is_whole" (defArgs s_is_whole) (defBody s_is_whole) (defScope s_is_whole) .none kV_is_whole dc_is_whole pm_is_whole an_is_whole cd_is_whole ct_is_whole), sl_is_whole⟩)
    (c_is_whole : PySem.W.codeIn K cd_is_whole "is_whole" = true)
    (k_is_whole : PySem.W.keepIn K (.ref f_is_whole) = true)
    (a_look_number : PySem.W.nsIn K mainGlobals "look_number" = some (some (.ref f_look_number)))
    (l_look_number : K.lookup f_look_number = some ⟨oc_look_number, od_look_number, .func (PySem.W.fnOf "look_number" "look_number" (defArgs s_look_number) (defBody s_look_number) (defScope s_look_number) .none kV_look_number dc_look_number pm_look_number an_look_number cd_look_number ct_look_number), sl_look_number⟩)
    (c_look_number : PySem.W.codeIn K cd_look_number "look_number" = true)
    (k_look_number : PySem.W.keepIn K (.ref f_look_number) = true)
    (a_look_texts : PySem.W.nsIn K mainGlobals "look_texts" = some (some (.ref f_look_texts)))
    (l_look_texts : K.lookup f_look_texts = some ⟨oc_look_texts, od_look_texts, .func (PySem.W.fnOf "look_texts" "look_texts" (defArgs s_look_texts) (defBody s_look_texts) (defScope s_look_texts) .none kV_look_texts dc_look_texts pm_look_texts an_look_texts cd_look_texts ct_look_texts), sl_look_texts⟩)
    (c_look_texts : PySem.W.codeIn K cd_look_texts "look_texts" = true)
    (k_look_texts : PySem.W.keepIn K (.ref f_look_texts) = true)
    (a_runs_of : PySem.W.nsIn K mainGlobals "runs_of" = some (some (.ref f_runs_of)))
    (l_runs_of : K.lookup f_runs_of = some ⟨oc_runs_of, od_runs_of, .func (PySem.W.fnOf "runs_of" "runs_of" (defArgs s_runs_of) (defBody s_runs_of) (defScope s_runs_of) .none kV_runs_of dc_runs_of pm_runs_of an_runs_of cd_runs_of ct_runs_of), sl_runs_of⟩)
    (c_runs_of : PySem.W.codeIn K cd_runs_of "runs_of" = true)
    (k_runs_of : PySem.W.keepIn K (.ref f_runs_of) = true)
    (a_merged : PySem.W.nsIn K mainGlobals "merged" = some (some (.ref f_merged)))
    (l_merged : K.lookup f_merged = some ⟨oc_merged, od_merged, .func (PySem.W.fnOf "merged" "merged" (defArgs s_merged) (defBody s_merged) (defScope s_merged) .none kV_merged dc_merged pm_merged an_merged cd_merged ct_merged), sl_merged⟩)
    (c_merged : PySem.W.codeIn K cd_merged "merged" = true)
    (k_merged : PySem.W.keepIn K (.ref f_merged) = true)
    (a_passes : PySem.W.nsIn K mainGlobals "passes" = some (some (.ref f_passes)))
    (l_passes : K.lookup f_passes = some ⟨oc_passes, od_passes, .func (PySem.W.fnOf "passes" "passes" (defArgs s_passes) (defBody s_passes) (defScope s_passes) .none kV_passes dc_passes pm_passes an_passes cd_passes ct_passes), sl_passes⟩)
    (c_passes : PySem.W.codeIn K cd_passes "passes" = true)
    (k_passes : PySem.W.keepIn K (.ref f_passes) = true)
    (a_sorted_by : PySem.W.nsIn K mainGlobals "sorted_by" = some (some (.ref f_sorted_by)))
    (l_sorted_by : K.lookup f_sorted_by = some ⟨oc_sorted_by, od_sorted_by, .func (PySem.W.fnOf "sorted_by" "sorted_by" (defArgs s_sorted_by) (defBody s_sorted_by) (defScope s_sorted_by) .none kV_sorted_by dc_sorted_by pm_sorted_by an_sorted_by cd_sorted_by ct_sorted_by), sl_sorted_by⟩)
    (c_sorted_by : PySem.W.codeIn K cd_sorted_by "sorted_by" = true)
    (k_sorted_by : PySem.W.keepIn K (.ref f_sorted_by) = true)
    (a__law_town : PySem.W.nsIn K mainGlobals "_law_town" = some (some (.ref f__law_town)))
    (l__law_town : K.lookup f__law_town = some ⟨oc__law_town, od__law_town, .func (PySem.W.fnOf "_law_town" "_law_town" (defArgs s__law_town) (defBody s__law_town) (defScope s__law_town) .none kV__law_town dc__law_town pm__law_town an__law_town cd__law_town ct__law_town), sl__law_town⟩)
    (c__law_town : PySem.W.codeIn K cd__law_town "_law_town" = true)
    (k__law_town : PySem.W.keepIn K (.ref f__law_town) = true)
    (a__law_draw : PySem.W.nsIn K mainGlobals "_law_draw" = some (some (.ref f__law_draw)))
    (l__law_draw : K.lookup f__law_draw = some ⟨oc__law_draw, od__law_draw, .func (PySem.W.fnOf "_law_draw" "_law_draw" (defArgs s__law_draw) (defBody s__law_draw) (defScope s__law_draw) .none kV__law_draw dc__law_draw pm__law_draw an__law_draw cd__law_draw ct__law_draw), sl__law_draw⟩)
    (c__law_draw : PySem.W.codeIn K cd__law_draw "_law_draw" = true)
    (k__law_draw : PySem.W.keepIn K (.ref f__law_draw) = true)
    (a__law_pick : PySem.W.nsIn K mainGlobals "_law_pick" = some (some (.ref f__law_pick)))
    (l__law_pick : K.lookup f__law_pick = some ⟨oc__law_pick, od__law_pick, .func (PySem.W.fnOf "_law_pick" "_law_pick" (defArgs s__law_pick) (defBody s__law_pick) (defScope s__law_pick) .none kV__law_pick dc__law_pick pm__law_pick an__law_pick cd__law_pick ct__law_pick), sl__law_pick⟩)
    (c__law_pick : PySem.W.codeIn K cd__law_pick "_law_pick" = true)
    (k__law_pick : PySem.W.keepIn K (.ref f__law_pick) = true)
    (a__law_refusal : PySem.W.nsIn K mainGlobals "_law_refusal" = some (some (.ref f__law_refusal)))
    (l__law_refusal : K.lookup f__law_refusal = some ⟨oc__law_refusal, od__law_refusal, .func (PySem.W.fnOf "_law_refusal" "_law_refusal" (defArgs s__law_refusal) (defBody s__law_refusal) (defScope s__law_refusal) .none kV__law_refusal dc__law_refusal pm__law_refusal an__law_refusal cd__law_refusal ct__law_refusal), sl__law_refusal⟩)
    (c__law_refusal : PySem.W.codeIn K cd__law_refusal "_law_refusal" = true)
    (k__law_refusal : PySem.W.keepIn K (.ref f__law_refusal) = true)
    (a__law_does : PySem.W.nsIn K mainGlobals "_law_does" = some (some (.ref f__law_does)))
    (l__law_does : K.lookup f__law_does = some ⟨oc__law_does, od__law_does, .func (PySem.W.fnOf "_law_does" "_law_does" (defArgs s__law_does) (defBody s__law_does) (defScope s__law_does) .none kV__law_does dc__law_does pm__law_does an__law_does cd__law_does ct__law_does), sl__law_does⟩)
    (c__law_does : PySem.W.codeIn K cd__law_does "_law_does" = true)
    (k__law_does : PySem.W.keepIn K (.ref f__law_does) = true)
    (a__law_asked : PySem.W.nsIn K mainGlobals "_law_asked" = some (some (.ref f__law_asked)))
    (l__law_asked : K.lookup f__law_asked = some ⟨oc__law_asked, od__law_asked, .func (PySem.W.fnOf "_law_asked" "_law_asked" (defArgs s__law_asked) (defBody s__law_asked) (defScope s__law_asked) .none kV__law_asked dc__law_asked pm__law_asked an__law_asked cd__law_asked ct__law_asked), sl__law_asked⟩)
    (c__law_asked : PySem.W.codeIn K cd__law_asked "_law_asked" = true)
    (k__law_asked : PySem.W.keepIn K (.ref f__law_asked) = true)
    (a_law : PySem.W.nsIn K mainGlobals "law" = some (some (.ref f_law)))
    (l_law : K.lookup f_law = some ⟨oc_law, od_law, .func (PySem.W.fnOf "law" "law" (defArgs s_law) (defBody s_law) (defScope s_law) .none kV_law dc_law pm_law an_law cd_law ct_law), sl_law⟩)
    (c_law : PySem.W.codeIn K cd_law "law" = true)
    (k_law : PySem.W.keepIn K (.ref f_law) = true)
    (z_isinstance : PySem.W.nsIn K mainGlobals "isinstance" = some none)
    (z_int : PySem.W.nsIn K mainGlobals "int" = some none)
    (z_bool : PySem.W.nsIn K mainGlobals "bool" = some none)
    (z_list : PySem.W.nsIn K mainGlobals "list" = some none)
    (z_all : PySem.W.nsIn K mainGlobals "all" = some none)
    (z_str : PySem.W.nsIn K mainGlobals "str" = some none)
    (z_min : PySem.W.nsIn K mainGlobals "min" = some none)
    (z_sorted : PySem.W.nsIn K mainGlobals "sorted" = some none)
    (z_any : PySem.W.nsIn K mainGlobals "any" = some none)
    (z_enumerate : PySem.W.nsIn K mainGlobals "enumerate" = some none)
    (z_len : PySem.W.nsIn K mainGlobals "len" = some none)
    (z_range : PySem.W.nsIn K mainGlobals "range" = some none)
    (z_ValueError : PySem.W.nsIn K mainGlobals "ValueError" = some none)
    (hg_BadNumber : PySem.W.findIn K (.ref C_BadNumber) "__getattribute__" = some (some (.builtin "BaseException.__getattribute__")))
    (hk_BadNumber : PySem.W.findIn K (.ref C_BadNumber) "__getattr__" = some none)
    (hd_BadNumber : PySem.W.hasDictIn K C_BadNumber = true)
    (ha_BadNumber : PySem.W.findIn K (.ref C_BadNumber) "__class__" = some (some (.builtin "object.__class__")))
    (hm_BadNumber : PySem.W.mroIn K C_BadNumber (.type "object") = some true)
    (hn_X : PySem.W.specialIn K (.builtin "object.__class__") "__get__" = some (some (.builtin "getset_descriptor.__get__")))
    (ht_X : PySem.W.takesIn K (.builtin "object.__class__") = some true)
    (rd_X : PySem.W.hasDictIn K C_ReelError = true)
    (ic_ReelError : PySem.W.isClsIn K C_ReelError = true)
    (ic_BadNumber : PySem.W.isClsIn K C_BadNumber = true)
    (ic_BadName : PySem.W.isClsIn K C_BadName = true)
    (ic_BadReel : PySem.W.isClsIn K C_BadReel = true)
    (ic_NoRing : PySem.W.isClsIn K C_NoRing = true)
    (ic_AtEnd : PySem.W.isClsIn K C_AtEnd = true)
    (ic_AtStart : PySem.W.isClsIn K C_AtStart = true)
    (ic_TooLong : PySem.W.isClsIn K C_TooLong = true)
    (ic_BadForm : PySem.W.isClsIn K C_BadForm = true)
    (ic_BadRecord : PySem.W.isClsIn K C_BadRecord = true)
    (ic_BadBlock : PySem.W.isClsIn K C_BadBlock = true)
    (ic_BadLabel : PySem.W.isClsIn K C_BadLabel = true)
    (ic_NoReel : PySem.W.isClsIn K C_NoReel = true)
    (ic_NoFile : PySem.W.isClsIn K C_NoFile = true)
    (t_NoFile : PySem.W.typeIn K (.ref C_NoFile) = some (.type "type"))
    (ic_Kept : PySem.W.isClsIn K C_Kept = true)
    (t_Kept : PySem.W.typeIn K (.ref C_Kept) = some (.type "type"))
    (sv_BadNumber : PySem.W.subIn K (.ref C_BadNumber) (.type "ValueError") = some true)
    (sb_BadNumber_ReelError : PySem.W.subIn K (.ref C_BadNumber) (.ref C_ReelError) = some true)
    (sb_BadNumber_BadNumber : PySem.W.subIn K (.ref C_BadNumber) (.ref C_BadNumber) = some true)
    (sb_BadNumber_BadName : PySem.W.subIn K (.ref C_BadNumber) (.ref C_BadName) = some false)
    (sb_BadNumber_BadReel : PySem.W.subIn K (.ref C_BadNumber) (.ref C_BadReel) = some false)
    (sb_BadNumber_NoRing : PySem.W.subIn K (.ref C_BadNumber) (.ref C_NoRing) = some false)
    (sb_BadNumber_AtEnd : PySem.W.subIn K (.ref C_BadNumber) (.ref C_AtEnd) = some false)
    (sb_BadNumber_AtStart : PySem.W.subIn K (.ref C_BadNumber) (.ref C_AtStart) = some false)
    (sb_BadNumber_TooLong : PySem.W.subIn K (.ref C_BadNumber) (.ref C_TooLong) = some false)
    (sb_BadNumber_BadForm : PySem.W.subIn K (.ref C_BadNumber) (.ref C_BadForm) = some false)
    (sb_BadNumber_BadRecord : PySem.W.subIn K (.ref C_BadNumber) (.ref C_BadRecord) = some false)
    (sb_BadNumber_BadBlock : PySem.W.subIn K (.ref C_BadNumber) (.ref C_BadBlock) = some false)
    (sb_BadNumber_BadLabel : PySem.W.subIn K (.ref C_BadNumber) (.ref C_BadLabel) = some false)
    (sb_BadNumber_NoReel : PySem.W.subIn K (.ref C_BadNumber) (.ref C_NoReel) = some false)
    (sb_BadNumber_NoFile : PySem.W.subIn K (.ref C_BadNumber) (.ref C_NoFile) = some false)
    (sb_BadNumber_Kept : PySem.W.subIn K (.ref C_BadNumber) (.ref C_Kept) = some false)
    (hg_BadRecord : PySem.W.findIn K (.ref C_BadRecord) "__getattribute__" = some (some (.builtin "BaseException.__getattribute__")))
    (hk_BadRecord : PySem.W.findIn K (.ref C_BadRecord) "__getattr__" = some none)
    (hd_BadRecord : PySem.W.hasDictIn K C_BadRecord = true)
    (ha_BadRecord : PySem.W.findIn K (.ref C_BadRecord) "__class__" = some (some (.builtin "object.__class__")))
    (hm_BadRecord : PySem.W.mroIn K C_BadRecord (.type "object") = some true)
    (sv_BadRecord : PySem.W.subIn K (.ref C_BadRecord) (.type "ValueError") = some true)
    (sb_BadRecord_ReelError : PySem.W.subIn K (.ref C_BadRecord) (.ref C_ReelError) = some true)
    (sb_BadRecord_BadNumber : PySem.W.subIn K (.ref C_BadRecord) (.ref C_BadNumber) = some false)
    (sb_BadRecord_BadName : PySem.W.subIn K (.ref C_BadRecord) (.ref C_BadName) = some false)
    (sb_BadRecord_BadReel : PySem.W.subIn K (.ref C_BadRecord) (.ref C_BadReel) = some false)
    (sb_BadRecord_NoRing : PySem.W.subIn K (.ref C_BadRecord) (.ref C_NoRing) = some false)
    (sb_BadRecord_AtEnd : PySem.W.subIn K (.ref C_BadRecord) (.ref C_AtEnd) = some false)
    (sb_BadRecord_AtStart : PySem.W.subIn K (.ref C_BadRecord) (.ref C_AtStart) = some false)
    (sb_BadRecord_TooLong : PySem.W.subIn K (.ref C_BadRecord) (.ref C_TooLong) = some false)
    (sb_BadRecord_BadForm : PySem.W.subIn K (.ref C_BadRecord) (.ref C_BadForm) = some false)
    (sb_BadRecord_BadRecord : PySem.W.subIn K (.ref C_BadRecord) (.ref C_BadRecord) = some true)
    (sb_BadRecord_BadBlock : PySem.W.subIn K (.ref C_BadRecord) (.ref C_BadBlock) = some false)
    (sb_BadRecord_BadLabel : PySem.W.subIn K (.ref C_BadRecord) (.ref C_BadLabel) = some false)
    (sb_BadRecord_NoReel : PySem.W.subIn K (.ref C_BadRecord) (.ref C_NoReel) = some false)
    (sb_BadRecord_NoFile : PySem.W.subIn K (.ref C_BadRecord) (.ref C_NoFile) = some false)
    (sb_BadRecord_Kept : PySem.W.subIn K (.ref C_BadRecord) (.ref C_Kept) = some false)
    : ∃ T : Txt K mg, T.law.a = f_law ∧ T.law.d = PySem.W.fnOf "law" "law" (defArgs s_law) (defBody s_law) (defScope s_law) .none kV_law dc_law pm_law an_law cd_law ct_law := by
  have F_is_whole := fun_mk (st := s_is_whole) l_is_whole c_is_whole k_is_whole
  have F_look_number := fun_mk (st := s_look_number) l_look_number c_look_number k_look_number
  have F_look_texts := fun_mk (st := s_look_texts) l_look_texts c_look_texts k_look_texts
  have F_runs_of := fun_mk (st := s_runs_of) l_runs_of c_runs_of k_runs_of
  have F_merged := fun_mk (st := s_merged) l_merged c_merged k_merged
  have F_passes := fun_mk (st := s_passes) l_passes c_passes k_passes
  have F_sorted_by := fun_mk (st := s_sorted_by) l_sorted_by c_sorted_by k_sorted_by
  have F__law_town := fun_mk (st := s__law_town) l__law_town c__law_town k__law_town
  have F__law_draw := fun_mk (st := s__law_draw) l__law_draw c__law_draw k__law_draw
  have F__law_pick := fun_mk (st := s__law_pick) l__law_pick c__law_pick k__law_pick
  have F__law_refusal := fun_mk (st := s__law_refusal) l__law_refusal c__law_refusal k__law_refusal
  have F__law_does := fun_mk (st := s__law_does) l__law_does c__law_does k__law_does
  have F__law_asked := fun_mk (st := s__law_asked) l__law_asked c__law_asked k__law_asked
  have F_law := fun_mk (st := s_law) l_law c_law k_law
  exact ⟨{ BadName := ⟨C_BadName, PySem.W.mg_of X G g_BadName, x_BadName, k_BadName, b_BadName, t_BadName⟩, NoRing := ⟨C_NoRing, PySem.W.mg_of X G g_NoRing, x_NoRing, k_NoRing, b_NoRing, t_NoRing⟩, TooLong := ⟨C_TooLong, PySem.W.mg_of X G g_TooLong, x_TooLong, k_TooLong, b_TooLong, t_TooLong⟩, BadRecord := ⟨C_BadRecord, PySem.W.mg_of X G g_BadRecord, x_BadRecord, k_BadRecord, b_BadRecord, t_BadRecord⟩, NoFile := ⟨C_NoFile, PySem.W.mg_of X G g_NoFile⟩, NoReel := ⟨C_NoReel, PySem.W.mg_of X G g_NoReel, x_NoReel, k_NoReel, b_NoReel, t_NoReel⟩, BadBlock := ⟨C_BadBlock, PySem.W.mg_of X G g_BadBlock, x_BadBlock, k_BadBlock, b_BadBlock, t_BadBlock⟩, AtEnd := ⟨C_AtEnd, PySem.W.mg_of X G g_AtEnd, x_AtEnd, k_AtEnd, b_AtEnd, t_AtEnd⟩, BadLabel := ⟨C_BadLabel, PySem.W.mg_of X G g_BadLabel, x_BadLabel, k_BadLabel, b_BadLabel, t_BadLabel⟩, BadReel := ⟨C_BadReel, PySem.W.mg_of X G g_BadReel, x_BadReel, k_BadReel, b_BadReel, t_BadReel⟩, BadNumber := ⟨C_BadNumber, PySem.W.mg_of X G g_BadNumber, x_BadNumber, k_BadNumber, b_BadNumber, t_BadNumber⟩, AtStart := ⟨C_AtStart, PySem.W.mg_of X G g_AtStart, x_AtStart, k_AtStart, b_AtStart, t_AtStart⟩, ReelError := ⟨C_ReelError, PySem.W.mg_of X G g_ReelError, x_ReelError, k_ReelError, b_ReelError, t_ReelError⟩, Kept := ⟨C_Kept, PySem.W.mg_of X G g_Kept⟩, BadForm := ⟨C_BadForm, PySem.W.mg_of X G g_BadForm, x_BadForm, k_BadForm, b_BadForm, t_BadForm⟩, is_whole := ⟨f_is_whole, _, F_is_whole, PySem.W.mg_of X G a_is_whole, F_is_whole.binds (ps := ["thing", "low", "high"]) fun _ _ _ _ _ _ us hl => match us, hl with | [_, _, _], _ => rfl⟩, look_number := ⟨f_look_number, _, F_look_number, PySem.W.mg_of X G a_look_number, F_look_number.binds (ps := ["thing", "low", "high"]) fun _ _ _ _ _ _ us hl => match us, hl with | [_, _, _], _ => rfl⟩, look_texts := ⟨f_look_texts, _, F_look_texts, PySem.W.mg_of X G a_look_texts, F_look_texts.binds (ps := ["records"]) fun _ _ _ _ _ _ us hl => match us, hl with | [_], _ => rfl⟩, runs_of := ⟨f_runs_of, _, F_runs_of, PySem.W.mg_of X G a_runs_of⟩, merged := ⟨f_merged, _, F_merged, PySem.W.mg_of X G a_merged, F_merged.binds (ps := ["rows"]) fun _ _ _ _ _ _ us hl => match us, hl with | [_], _ => rfl⟩, passes := ⟨f_passes, _, F_passes, PySem.W.mg_of X G a_passes⟩, sorted_by := ⟨f_sorted_by, _, F_sorted_by, PySem.W.mg_of X G a_sorted_by⟩, _law_town := ⟨f__law_town, _, F__law_town, PySem.W.mg_of X G a__law_town, F__law_town.binds (ps := ["_law_script"]) fun _ _ _ _ _ _ us hl => match us, hl with | [_], _ => rfl⟩, _law_draw := ⟨f__law_draw, _, F__law_draw, PySem.W.mg_of X G a__law_draw, F__law_draw.binds (ps := ["_law_town_here", "_law_many"]) fun _ _ _ _ _ _ us hl => match us, hl with | [_, _], _ => rfl⟩, _law_pick := ⟨f__law_pick, _, F__law_pick, PySem.W.mg_of X G a__law_pick, F__law_pick.binds (ps := ["_law_town_here", "_law_some"]) fun _ _ _ _ _ _ us hl => match us, hl with | [_, _], _ => rfl⟩, _law_refusal := ⟨f__law_refusal, _, F__law_refusal, PySem.W.mg_of X G a__law_refusal, F__law_refusal.binds (ps := ["_law_caught"]) fun _ _ _ _ _ _ us hl => match us, hl with | [_], _ => rfl⟩, _law_does := ⟨f__law_does, _, F__law_does, PySem.W.mg_of X G a__law_does, F__law_does.binds (ps := ["_law_kind", "_law_one", "_law_two", "_law_three"]) fun _ _ _ _ _ _ us hl => match us, hl with | [_, _, _, _], _ => rfl⟩, _law_asked := ⟨f__law_asked, _, F__law_asked, PySem.W.mg_of X G a__law_asked, F__law_asked.binds (ps := ["_law_kind", "_law_one", "_law_two", "_law_three"]) fun _ _ _ _ _ _ us hl => match us, hl with | [_, _, _, _], _ => rfl⟩, law := ⟨f_law, _, F_law, PySem.W.mg_of X G a_law, F_law.binds (ps := ["_law_script"]) fun _ _ _ _ _ _ us hl => match us, hl with | [_], _ => rfl⟩, z_isinstance := PySem.W.mg_none_of X G z_isinstance, z_int := PySem.W.mg_none_of X G z_int, z_bool := PySem.W.mg_none_of X G z_bool, z_list := PySem.W.mg_none_of X G z_list, z_all := PySem.W.mg_none_of X G z_all, z_str := PySem.W.mg_none_of X G z_str, z_min := PySem.W.mg_none_of X G z_min, z_sorted := PySem.W.mg_none_of X G z_sorted, z_any := PySem.W.mg_none_of X G z_any, z_enumerate := PySem.W.mg_none_of X G z_enumerate, z_len := PySem.W.mg_none_of X G z_len, z_range := PySem.W.mg_none_of X G z_range, z_ValueError := PySem.W.mg_none_of X G z_ValueError, kb_runs_of_room := ⟨fun s us ws _ h1 h2 => match us, ws, h1, h2 with | [_], [_], _, _ => .of_eq rfl, fun r1 r2 => r1.append r2⟩, kb_sorted_by_room_ways := ⟨fun s us ws _ h1 h2 => match us, ws, h1, h2 with | [_], [_, _], _, _ => .of_eq rfl, fun r1 r2 => r1.append r2⟩, kb_passes_ways := ⟨fun s us ws _ h1 h2 => match us, ws, h1, h2 with | [_], [_], _, _ => .of_eq rfl, fun r1 r2 => r1.append r2⟩, xc_BadNumber := ⟨hg_BadNumber, hk_BadNumber, b_BadNumber, hd_BadNumber, ha_BadNumber, hn_X, ht_X, hm_BadNumber⟩, em_BadNumber := PySem.W.exm_ref b_ReelError rd_X t_ReelError sb_BadNumber_ReelError, iv_BadNumber := kit_val sv_BadNumber, is_BadNumber_ReelError := kit_ref sb_BadNumber_BadNumber sb_BadNumber_ReelError ic_ReelError t_ReelError, is_BadNumber_BadNumber := kit_ref sb_BadNumber_BadNumber sb_BadNumber_BadNumber ic_BadNumber t_BadNumber, is_BadNumber_BadName := kit_ref sb_BadNumber_BadNumber sb_BadNumber_BadName ic_BadName t_BadName, is_BadNumber_BadReel := kit_ref sb_BadNumber_BadNumber sb_BadNumber_BadReel ic_BadReel t_BadReel, is_BadNumber_NoRing := kit_ref sb_BadNumber_BadNumber sb_BadNumber_NoRing ic_NoRing t_NoRing, is_BadNumber_AtEnd := kit_ref sb_BadNumber_BadNumber sb_BadNumber_AtEnd ic_AtEnd t_AtEnd, is_BadNumber_AtStart := kit_ref sb_BadNumber_BadNumber sb_BadNumber_AtStart ic_AtStart t_AtStart, is_BadNumber_TooLong := kit_ref sb_BadNumber_BadNumber sb_BadNumber_TooLong ic_TooLong t_TooLong, is_BadNumber_BadForm := kit_ref sb_BadNumber_BadNumber sb_BadNumber_BadForm ic_BadForm t_BadForm, is_BadNumber_BadRecord := kit_ref sb_BadNumber_BadNumber sb_BadNumber_BadRecord ic_BadRecord t_BadRecord, is_BadNumber_BadBlock := kit_ref sb_BadNumber_BadNumber sb_BadNumber_BadBlock ic_BadBlock t_BadBlock, is_BadNumber_BadLabel := kit_ref sb_BadNumber_BadNumber sb_BadNumber_BadLabel ic_BadLabel t_BadLabel, is_BadNumber_NoReel := kit_ref sb_BadNumber_BadNumber sb_BadNumber_NoReel ic_NoReel t_NoReel, is_BadNumber_NoFile := kit_ref sb_BadNumber_BadNumber sb_BadNumber_NoFile ic_NoFile t_NoFile, is_BadNumber_Kept := kit_ref sb_BadNumber_BadNumber sb_BadNumber_Kept ic_Kept t_Kept, xc_BadRecord := ⟨hg_BadRecord, hk_BadRecord, b_BadRecord, hd_BadRecord, ha_BadRecord, hn_X, ht_X, hm_BadRecord⟩, em_BadRecord := PySem.W.exm_ref b_ReelError rd_X t_ReelError sb_BadRecord_ReelError, iv_BadRecord := kit_val sv_BadRecord, is_BadRecord_ReelError := kit_ref sb_BadRecord_BadRecord sb_BadRecord_ReelError ic_ReelError t_ReelError, is_BadRecord_BadNumber := kit_ref sb_BadRecord_BadRecord sb_BadRecord_BadNumber ic_BadNumber t_BadNumber, is_BadRecord_BadName := kit_ref sb_BadRecord_BadRecord sb_BadRecord_BadName ic_BadName t_BadName, is_BadRecord_BadReel := kit_ref sb_BadRecord_BadRecord sb_BadRecord_BadReel ic_BadReel t_BadReel, is_BadRecord_NoRing := kit_ref sb_BadRecord_BadRecord sb_BadRecord_NoRing ic_NoRing t_NoRing, is_BadRecord_AtEnd := kit_ref sb_BadRecord_BadRecord sb_BadRecord_AtEnd ic_AtEnd t_AtEnd, is_BadRecord_AtStart := kit_ref sb_BadRecord_BadRecord sb_BadRecord_AtStart ic_AtStart t_AtStart, is_BadRecord_TooLong := kit_ref sb_BadRecord_BadRecord sb_BadRecord_TooLong ic_TooLong t_TooLong, is_BadRecord_BadForm := kit_ref sb_BadRecord_BadRecord sb_BadRecord_BadForm ic_BadForm t_BadForm, is_BadRecord_BadRecord := kit_ref sb_BadRecord_BadRecord sb_BadRecord_BadRecord ic_BadRecord t_BadRecord, is_BadRecord_BadBlock := kit_ref sb_BadRecord_BadRecord sb_BadRecord_BadBlock ic_BadBlock t_BadBlock, is_BadRecord_BadLabel := kit_ref sb_BadRecord_BadRecord sb_BadRecord_BadLabel ic_BadLabel t_BadLabel, is_BadRecord_NoReel := kit_ref sb_BadRecord_BadRecord sb_BadRecord_NoReel ic_NoReel t_NoReel, is_BadRecord_NoFile := kit_ref sb_BadRecord_BadRecord sb_BadRecord_NoFile ic_NoFile t_NoFile, is_BadRecord_Kept := kit_ref sb_BadRecord_BadRecord sb_BadRecord_Kept ic_Kept t_Kept }, rfl, rfl⟩
theorem all_mk {l : PySem.W.OpenLaw} {w : World} {K : PySem.W.Frag} {h : Heap} {mg : Str → Option Value} {fa : Addr} (X : K.In h) (G : h.Ns mainGlobals mg) (hfa : mg "law" = some (.ref fa)) {C_BadName C_NoRing C_TooLong C_BadRecord C_NoFile C_NoReel C_BadBlock C_AtEnd C_BadLabel C_BadReel C_BadNumber C_AtStart C_ReelError C_Kept C_BadForm f_is_whole f_look_number f_look_texts f_runs_of f_merged f_passes f_sorted_by f__law_town f__law_draw f__law_pick f__law_refusal f__law_does f__law_asked f_law : Addr} {od_is_whole an_is_whole od_look_number an_look_number od_look_texts an_look_texts od_runs_of an_runs_of od_merged an_merged od_passes an_passes od_sorted_by an_sorted_by od__law_town an__law_town od__law_draw an__law_draw od__law_pick an__law_pick od__law_refusal an__law_refusal od__law_does an__law_does od__law_asked an__law_asked od_law an_law : Option Addr} {oc_is_whole kV_is_whole dc_is_whole pm_is_whole cd_is_whole ct_is_whole oc_look_number kV_look_number dc_look_number pm_look_number cd_look_number ct_look_number oc_look_texts kV_look_texts dc_look_texts pm_look_texts cd_look_texts ct_look_texts oc_runs_of kV_runs_of dc_runs_of pm_runs_of cd_runs_of ct_runs_of oc_merged kV_merged dc_merged pm_merged cd_merged ct_merged oc_passes kV_passes dc_passes pm_passes cd_passes ct_passes oc_sorted_by kV_sorted_by dc_sorted_by pm_sorted_by cd_sorted_by ct_sorted_by oc__law_town kV__law_town dc__law_town pm__law_town cd__law_town ct__law_town oc__law_draw kV__law_draw dc__law_draw pm__law_draw cd__law_draw ct__law_draw oc__law_pick kV__law_pick dc__law_pick pm__law_pick cd__law_pick ct__law_pick oc__law_refusal kV__law_refusal dc__law_refusal pm__law_refusal cd__law_refusal ct__law_refusal oc__law_does kV__law_does dc__law_does pm__law_does cd__law_does ct__law_does oc__law_asked kV__law_asked dc__law_asked pm__law_asked cd__law_asked ct__law_asked oc_law kV_law dc_law pm_law cd_law ct_law : Value} {sl_is_whole sl_look_number sl_look_texts sl_runs_of sl_merged sl_passes sl_sorted_by sl__law_town sl__law_draw sl__law_pick sl__law_refusal sl__law_does sl__law_asked sl_law : Array (Option Value)}
    (g_BadName : PySem.W.nsIn K mainGlobals "BadName" = some (some (.ref C_BadName)))
    (x_BadName : PySem.W.excIn K C_BadName [.type "ValueError", .type "Exception", .type "BaseException", .type "object"] "ValueError.__new__" = true)
    (k_BadName : PySem.W.keepIn K (.ref C_BadName) = true)
    (b_BadName : PySem.W.subIn K (.ref C_BadName) (.type "BaseException") = some true)
    (t_BadName : PySem.W.typeIn K (.ref C_BadName) = some (.type "type"))
    (g_NoRing : PySem.W.nsIn K mainGlobals "NoRing" = some (some (.ref C_NoRing)))
    (x_NoRing : PySem.W.excIn K C_NoRing [.type "ValueError", .type "Exception", .type "BaseException", .type "object"] "ValueError.__new__" = true)
    (k_NoRing : PySem.W.keepIn K (.ref C_NoRing) = true)
    (b_NoRing : PySem.W.subIn K (.ref C_NoRing) (.type "BaseException") = some true)
    (t_NoRing : PySem.W.typeIn K (.ref C_NoRing) = some (.type "type"))
    (g_TooLong : PySem.W.nsIn K mainGlobals "TooLong" = some (some (.ref C_TooLong)))
    (x_TooLong : PySem.W.excIn K C_TooLong [.type "ValueError", .type "Exception", .type "BaseException", .type "object"] "ValueError.__new__" = true)
    (k_TooLong : PySem.W.keepIn K (.ref C_TooLong) = true)
    (b_TooLong : PySem.W.subIn K (.ref C_TooLong) (.type "BaseException") = some true)
    (t_TooLong : PySem.W.typeIn K (.ref C_TooLong) = some (.type "type"))
    (g_BadRecord : PySem.W.nsIn K mainGlobals "BadRecord" = some (some (.ref C_BadRecord)))
    (x_BadRecord : PySem.W.excIn K C_BadRecord [.type "ValueError", .type "Exception", .type "BaseException", .type "object"] "ValueError.__new__" = true)
    (k_BadRecord : PySem.W.keepIn K (.ref C_BadRecord) = true)
    (b_BadRecord : PySem.W.subIn K (.ref C_BadRecord) (.type "BaseException") = some true)
    (t_BadRecord : PySem.W.typeIn K (.ref C_BadRecord) = some (.type "type"))
    (g_NoFile : PySem.W.nsIn K mainGlobals "NoFile" = some (some (.ref C_NoFile)))
    (g_NoReel : PySem.W.nsIn K mainGlobals "NoReel" = some (some (.ref C_NoReel)))
    (x_NoReel : PySem.W.excIn K C_NoReel [.type "ValueError", .type "Exception", .type "BaseException", .type "object"] "ValueError.__new__" = true)
    (k_NoReel : PySem.W.keepIn K (.ref C_NoReel) = true)
    (b_NoReel : PySem.W.subIn K (.ref C_NoReel) (.type "BaseException") = some true)
    (t_NoReel : PySem.W.typeIn K (.ref C_NoReel) = some (.type "type"))
    (g_BadBlock : PySem.W.nsIn K mainGlobals "BadBlock" = some (some (.ref C_BadBlock)))
    (x_BadBlock : PySem.W.excIn K C_BadBlock [.type "ValueError", .type "Exception", .type "BaseException", .type "object"] "ValueError.__new__" = true)
    (k_BadBlock : PySem.W.keepIn K (.ref C_BadBlock) = true)
    (b_BadBlock : PySem.W.subIn K (.ref C_BadBlock) (.type "BaseException") = some true)
    (t_BadBlock : PySem.W.typeIn K (.ref C_BadBlock) = some (.type "type"))
    (g_AtEnd : PySem.W.nsIn K mainGlobals "AtEnd" = some (some (.ref C_AtEnd)))
    (x_AtEnd : PySem.W.excIn K C_AtEnd [.type "ValueError", .type "Exception", .type "BaseException", .type "object"] "ValueError.__new__" = true)
    (k_AtEnd : PySem.W.keepIn K (.ref C_AtEnd) = true)
    (b_AtEnd : PySem.W.subIn K (.ref C_AtEnd) (.type "BaseException") = some true)
    (t_AtEnd : PySem.W.typeIn K (.ref C_AtEnd) = some (.type "type"))
    (g_BadLabel : PySem.W.nsIn K mainGlobals "BadLabel" = some (some (.ref C_BadLabel)))
    (x_BadLabel : PySem.W.excIn K C_BadLabel [.type "ValueError", .type "Exception", .type "BaseException", .type "object"] "ValueError.__new__" = true)
    (k_BadLabel : PySem.W.keepIn K (.ref C_BadLabel) = true)
    (b_BadLabel : PySem.W.subIn K (.ref C_BadLabel) (.type "BaseException") = some true)
    (t_BadLabel : PySem.W.typeIn K (.ref C_BadLabel) = some (.type "type"))
    (g_BadReel : PySem.W.nsIn K mainGlobals "BadReel" = some (some (.ref C_BadReel)))
    (x_BadReel : PySem.W.excIn K C_BadReel [.type "ValueError", .type "Exception", .type "BaseException", .type "object"] "ValueError.__new__" = true)
    (k_BadReel : PySem.W.keepIn K (.ref C_BadReel) = true)
    (b_BadReel : PySem.W.subIn K (.ref C_BadReel) (.type "BaseException") = some true)
    (t_BadReel : PySem.W.typeIn K (.ref C_BadReel) = some (.type "type"))
    (g_BadNumber : PySem.W.nsIn K mainGlobals "BadNumber" = some (some (.ref C_BadNumber)))
    (x_BadNumber : PySem.W.excIn K C_BadNumber [.type "ValueError", .type "Exception", .type "BaseException", .type "object"] "ValueError.__new__" = true)
    (k_BadNumber : PySem.W.keepIn K (.ref C_BadNumber) = true)
    (b_BadNumber : PySem.W.subIn K (.ref C_BadNumber) (.type "BaseException") = some true)
    (t_BadNumber : PySem.W.typeIn K (.ref C_BadNumber) = some (.type "type"))
    (g_AtStart : PySem.W.nsIn K mainGlobals "AtStart" = some (some (.ref C_AtStart)))
    (x_AtStart : PySem.W.excIn K C_AtStart [.type "ValueError", .type "Exception", .type "BaseException", .type "object"] "ValueError.__new__" = true)
    (k_AtStart : PySem.W.keepIn K (.ref C_AtStart) = true)
    (b_AtStart : PySem.W.subIn K (.ref C_AtStart) (.type "BaseException") = some true)
    (t_AtStart : PySem.W.typeIn K (.ref C_AtStart) = some (.type "type"))
    (g_ReelError : PySem.W.nsIn K mainGlobals "ReelError" = some (some (.ref C_ReelError)))
    (x_ReelError : PySem.W.excIn K C_ReelError [.type "ValueError", .type "Exception", .type "BaseException", .type "object"] "ValueError.__new__" = true)
    (k_ReelError : PySem.W.keepIn K (.ref C_ReelError) = true)
    (b_ReelError : PySem.W.subIn K (.ref C_ReelError) (.type "BaseException") = some true)
    (t_ReelError : PySem.W.typeIn K (.ref C_ReelError) = some (.type "type"))
    (g_Kept : PySem.W.nsIn K mainGlobals "Kept" = some (some (.ref C_Kept)))
    (g_BadForm : PySem.W.nsIn K mainGlobals "BadForm" = some (some (.ref C_BadForm)))
    (x_BadForm : PySem.W.excIn K C_BadForm [.type "ValueError", .type "Exception", .type "BaseException", .type "object"] "ValueError.__new__" = true)
    (k_BadForm : PySem.W.keepIn K (.ref C_BadForm) = true)
    (b_BadForm : PySem.W.subIn K (.ref C_BadForm) (.type "BaseException") = some true)
    (t_BadForm : PySem.W.typeIn K (.ref C_BadForm) = some (.type "type"))
    (a_is_whole : PySem.W.nsIn K mainGlobals "is_whole" = some (some (.ref f_is_whole)))
    (l_is_whole : K.lookup f_is_whole = some ⟨oc_is_whole, od_is_whole, .func (PySem.W.fnOf "is_whole" "is_whole" (defArgs s_is_whole) (defBody s_is_whole) (defScope s_is_whole) .none kV_is_whole dc_is_whole pm_is_whole an_is_whole cd_is_whole ct_is_whole), sl_is_whole⟩)
    (c_is_whole : PySem.W.codeIn K cd_is_whole "is_whole" = true)
    (k_is_whole : PySem.W.keepIn K (.ref f_is_whole) = true)
    (a_look_number : PySem.W.nsIn K mainGlobals "look_number" = some (some (.ref f_look_number)))
    (l_look_number : K.lookup f_look_number = some ⟨oc_look_number, od_look_number, .func (PySem.W.fnOf "look_number" "look_number" (defArgs s_look_number) (defBody s_look_number) (defScope s_look_number) .none kV_look_number dc_look_number pm_look_number an_look_number cd_look_number ct_look_number), sl_look_number⟩)
    (c_look_number : PySem.W.codeIn K cd_look_number "look_number" = true)
    (k_look_number : PySem.W.keepIn K (.ref f_look_number) = true)
    (a_look_texts : PySem.W.nsIn K mainGlobals "look_texts" = some (some (.ref f_look_texts)))
    (l_look_texts : K.lookup f_look_texts = some ⟨oc_look_texts, od_look_texts, .func (PySem.W.fnOf "look_texts" "look_texts" (defArgs s_look_texts) (defBody s_look_texts) (defScope s_look_texts) .none kV_look_texts dc_look_texts pm_look_texts an_look_texts cd_look_texts ct_look_texts), sl_look_texts⟩)
    (c_look_texts : PySem.W.codeIn K cd_look_texts "look_texts" = true)
    (k_look_texts : PySem.W.keepIn K (.ref f_look_texts) = true)
    (a_runs_of : PySem.W.nsIn K mainGlobals "runs_of" = some (some (.ref f_runs_of)))
    (l_runs_of : K.lookup f_runs_of = some ⟨oc_runs_of, od_runs_of, .func (PySem.W.fnOf "runs_of" "runs_of" (defArgs s_runs_of) (defBody s_runs_of) (defScope s_runs_of) .none kV_runs_of dc_runs_of pm_runs_of an_runs_of cd_runs_of ct_runs_of), sl_runs_of⟩)
    (c_runs_of : PySem.W.codeIn K cd_runs_of "runs_of" = true)
    (k_runs_of : PySem.W.keepIn K (.ref f_runs_of) = true)
    (a_merged : PySem.W.nsIn K mainGlobals "merged" = some (some (.ref f_merged)))
    (l_merged : K.lookup f_merged = some ⟨oc_merged, od_merged, .func (PySem.W.fnOf "merged" "merged" (defArgs s_merged) (defBody s_merged) (defScope s_merged) .none kV_merged dc_merged pm_merged an_merged cd_merged ct_merged), sl_merged⟩)
    (c_merged : PySem.W.codeIn K cd_merged "merged" = true)
    (k_merged : PySem.W.keepIn K (.ref f_merged) = true)
    (a_passes : PySem.W.nsIn K mainGlobals "passes" = some (some (.ref f_passes)))
    (l_passes : K.lookup f_passes = some ⟨oc_passes, od_passes, .func (PySem.W.fnOf "passes" "passes" (defArgs s_passes) (defBody s_passes) (defScope s_passes) .none kV_passes dc_passes pm_passes an_passes cd_passes ct_passes), sl_passes⟩)
    (c_passes : PySem.W.codeIn K cd_passes "passes" = true)
    (k_passes : PySem.W.keepIn K (.ref f_passes) = true)
    (a_sorted_by : PySem.W.nsIn K mainGlobals "sorted_by" = some (some (.ref f_sorted_by)))
    (l_sorted_by : K.lookup f_sorted_by = some ⟨oc_sorted_by, od_sorted_by, .func (PySem.W.fnOf "sorted_by" "sorted_by" (defArgs s_sorted_by) (defBody s_sorted_by) (defScope s_sorted_by) .none kV_sorted_by dc_sorted_by pm_sorted_by an_sorted_by cd_sorted_by ct_sorted_by), sl_sorted_by⟩)
    (c_sorted_by : PySem.W.codeIn K cd_sorted_by "sorted_by" = true)
    (k_sorted_by : PySem.W.keepIn K (.ref f_sorted_by) = true)
    (a__law_town : PySem.W.nsIn K mainGlobals "_law_town" = some (some (.ref f__law_town)))
    (l__law_town : K.lookup f__law_town = some ⟨oc__law_town, od__law_town, .func (PySem.W.fnOf "_law_town" "_law_town" (defArgs s__law_town) (defBody s__law_town) (defScope s__law_town) .none kV__law_town dc__law_town pm__law_town an__law_town cd__law_town ct__law_town), sl__law_town⟩)
    (c__law_town : PySem.W.codeIn K cd__law_town "_law_town" = true)
    (k__law_town : PySem.W.keepIn K (.ref f__law_town) = true)
    (a__law_draw : PySem.W.nsIn K mainGlobals "_law_draw" = some (some (.ref f__law_draw)))
    (l__law_draw : K.lookup f__law_draw = some ⟨oc__law_draw, od__law_draw, .func (PySem.W.fnOf "_law_draw" "_law_draw" (defArgs s__law_draw) (defBody s__law_draw) (defScope s__law_draw) .none kV__law_draw dc__law_draw pm__law_draw an__law_draw cd__law_draw ct__law_draw), sl__law_draw⟩)
    (c__law_draw : PySem.W.codeIn K cd__law_draw "_law_draw" = true)
    (k__law_draw : PySem.W.keepIn K (.ref f__law_draw) = true)
    (a__law_pick : PySem.W.nsIn K mainGlobals "_law_pick" = some (some (.ref f__law_pick)))
    (l__law_pick : K.lookup f__law_pick = some ⟨oc__law_pick, od__law_pick, .func (PySem.W.fnOf "_law_pick" "_law_pick" (defArgs s__law_pick) (defBody s__law_pick) (defScope s__law_pick) .none kV__law_pick dc__law_pick pm__law_pick an__law_pick cd__law_pick ct__law_pick), sl__law_pick⟩)
    (c__law_pick : PySem.W.codeIn K cd__law_pick "_law_pick" = true)
    (k__law_pick : PySem.W.keepIn K (.ref f__law_pick) = true)
    (a__law_refusal : PySem.W.nsIn K mainGlobals "_law_refusal" = some (some (.ref f__law_refusal)))
    (l__law_refusal : K.lookup f__law_refusal = some ⟨oc__law_refusal, od__law_refusal, .func (PySem.W.fnOf "_law_refusal" "_law_refusal" (defArgs s__law_refusal) (defBody s__law_refusal) (defScope s__law_refusal) .none kV__law_refusal dc__law_refusal pm__law_refusal an__law_refusal cd__law_refusal ct__law_refusal), sl__law_refusal⟩)
    (c__law_refusal : PySem.W.codeIn K cd__law_refusal "_law_refusal" = true)
    (k__law_refusal : PySem.W.keepIn K (.ref f__law_refusal) = true)
    (a__law_does : PySem.W.nsIn K mainGlobals "_law_does" = some (some (.ref f__law_does)))
    (l__law_does : K.lookup f__law_does = some ⟨oc__law_does, od__law_does, .func (PySem.W.fnOf "_law_does" "_law_does" (defArgs s__law_does) (defBody s__law_does) (defScope s__law_does) .none kV__law_does dc__law_does pm__law_does an__law_does cd__law_does ct__law_does), sl__law_does⟩)
    (c__law_does : PySem.W.codeIn K cd__law_does "_law_does" = true)
    (k__law_does : PySem.W.keepIn K (.ref f__law_does) = true)
    (a__law_asked : PySem.W.nsIn K mainGlobals "_law_asked" = some (some (.ref f__law_asked)))
    (l__law_asked : K.lookup f__law_asked = some ⟨oc__law_asked, od__law_asked, .func (PySem.W.fnOf "_law_asked" "_law_asked" (defArgs s__law_asked) (defBody s__law_asked) (defScope s__law_asked) .none kV__law_asked dc__law_asked pm__law_asked an__law_asked cd__law_asked ct__law_asked), sl__law_asked⟩)
    (c__law_asked : PySem.W.codeIn K cd__law_asked "_law_asked" = true)
    (k__law_asked : PySem.W.keepIn K (.ref f__law_asked) = true)
    (a_law : PySem.W.nsIn K mainGlobals "law" = some (some (.ref f_law)))
    (l_law : K.lookup f_law = some ⟨oc_law, od_law, .func (PySem.W.fnOf "law" "law" (defArgs s_law) (defBody s_law) (defScope s_law) .none kV_law dc_law pm_law an_law cd_law ct_law), sl_law⟩)
    (c_law : PySem.W.codeIn K cd_law "law" = true)
    (k_law : PySem.W.keepIn K (.ref f_law) = true)
    (z_isinstance : PySem.W.nsIn K mainGlobals "isinstance" = some none)
    (z_int : PySem.W.nsIn K mainGlobals "int" = some none)
    (z_bool : PySem.W.nsIn K mainGlobals "bool" = some none)
    (z_list : PySem.W.nsIn K mainGlobals "list" = some none)
    (z_all : PySem.W.nsIn K mainGlobals "all" = some none)
    (z_str : PySem.W.nsIn K mainGlobals "str" = some none)
    (z_min : PySem.W.nsIn K mainGlobals "min" = some none)
    (z_sorted : PySem.W.nsIn K mainGlobals "sorted" = some none)
    (z_any : PySem.W.nsIn K mainGlobals "any" = some none)
    (z_enumerate : PySem.W.nsIn K mainGlobals "enumerate" = some none)
    (z_len : PySem.W.nsIn K mainGlobals "len" = some none)
    (z_range : PySem.W.nsIn K mainGlobals "range" = some none)
    (z_ValueError : PySem.W.nsIn K mainGlobals "ValueError" = some none)
    (hg_BadNumber : PySem.W.findIn K (.ref C_BadNumber) "__getattribute__" = some (some (.builtin "BaseException.__getattribute__")))
    (hk_BadNumber : PySem.W.findIn K (.ref C_BadNumber) "__getattr__" = some none)
    (hd_BadNumber : PySem.W.hasDictIn K C_BadNumber = true)
    (ha_BadNumber : PySem.W.findIn K (.ref C_BadNumber) "__class__" = some (some (.builtin "object.__class__")))
    (hm_BadNumber : PySem.W.mroIn K C_BadNumber (.type "object") = some true)
    (hn_X : PySem.W.specialIn K (.builtin "object.__class__") "__get__" = some (some (.builtin "getset_descriptor.__get__")))
    (ht_X : PySem.W.takesIn K (.builtin "object.__class__") = some true)
    (rd_X : PySem.W.hasDictIn K C_ReelError = true)
    (ic_ReelError : PySem.W.isClsIn K C_ReelError = true)
    (ic_BadNumber : PySem.W.isClsIn K C_BadNumber = true)
    (ic_BadName : PySem.W.isClsIn K C_BadName = true)
    (ic_BadReel : PySem.W.isClsIn K C_BadReel = true)
    (ic_NoRing : PySem.W.isClsIn K C_NoRing = true)
    (ic_AtEnd : PySem.W.isClsIn K C_AtEnd = true)
    (ic_AtStart : PySem.W.isClsIn K C_AtStart = true)
    (ic_TooLong : PySem.W.isClsIn K C_TooLong = true)
    (ic_BadForm : PySem.W.isClsIn K C_BadForm = true)
    (ic_BadRecord : PySem.W.isClsIn K C_BadRecord = true)
    (ic_BadBlock : PySem.W.isClsIn K C_BadBlock = true)
    (ic_BadLabel : PySem.W.isClsIn K C_BadLabel = true)
    (ic_NoReel : PySem.W.isClsIn K C_NoReel = true)
    (ic_NoFile : PySem.W.isClsIn K C_NoFile = true)
    (t_NoFile : PySem.W.typeIn K (.ref C_NoFile) = some (.type "type"))
    (ic_Kept : PySem.W.isClsIn K C_Kept = true)
    (t_Kept : PySem.W.typeIn K (.ref C_Kept) = some (.type "type"))
    (sv_BadNumber : PySem.W.subIn K (.ref C_BadNumber) (.type "ValueError") = some true)
    (sb_BadNumber_ReelError : PySem.W.subIn K (.ref C_BadNumber) (.ref C_ReelError) = some true)
    (sb_BadNumber_BadNumber : PySem.W.subIn K (.ref C_BadNumber) (.ref C_BadNumber) = some true)
    (sb_BadNumber_BadName : PySem.W.subIn K (.ref C_BadNumber) (.ref C_BadName) = some false)
    (sb_BadNumber_BadReel : PySem.W.subIn K (.ref C_BadNumber) (.ref C_BadReel) = some false)
    (sb_BadNumber_NoRing : PySem.W.subIn K (.ref C_BadNumber) (.ref C_NoRing) = some false)
    (sb_BadNumber_AtEnd : PySem.W.subIn K (.ref C_BadNumber) (.ref C_AtEnd) = some false)
    (sb_BadNumber_AtStart : PySem.W.subIn K (.ref C_BadNumber) (.ref C_AtStart) = some false)
    (sb_BadNumber_TooLong : PySem.W.subIn K (.ref C_BadNumber) (.ref C_TooLong) = some false)
    (sb_BadNumber_BadForm : PySem.W.subIn K (.ref C_BadNumber) (.ref C_BadForm) = some false)
    (sb_BadNumber_BadRecord : PySem.W.subIn K (.ref C_BadNumber) (.ref C_BadRecord) = some false)
    (sb_BadNumber_BadBlock : PySem.W.subIn K (.ref C_BadNumber) (.ref C_BadBlock) = some false)
    (sb_BadNumber_BadLabel : PySem.W.subIn K (.ref C_BadNumber) (.ref C_BadLabel) = some false)
    (sb_BadNumber_NoReel : PySem.W.subIn K (.ref C_BadNumber) (.ref C_NoReel) = some false)
    (sb_BadNumber_NoFile : PySem.W.subIn K (.ref C_BadNumber) (.ref C_NoFile) = some false)
    (sb_BadNumber_Kept : PySem.W.subIn K (.ref C_BadNumber) (.ref C_Kept) = some false)
    (hg_BadRecord : PySem.W.findIn K (.ref C_BadRecord) "__getattribute__" = some (some (.builtin "BaseException.__getattribute__")))
    (hk_BadRecord : PySem.W.findIn K (.ref C_BadRecord) "__getattr__" = some none)
    (hd_BadRecord : PySem.W.hasDictIn K C_BadRecord = true)
    (ha_BadRecord : PySem.W.findIn K (.ref C_BadRecord) "__class__" = some (some (.builtin "object.__class__")))
    (hm_BadRecord : PySem.W.mroIn K C_BadRecord (.type "object") = some true)
    (sv_BadRecord : PySem.W.subIn K (.ref C_BadRecord) (.type "ValueError") = some true)
    (sb_BadRecord_ReelError : PySem.W.subIn K (.ref C_BadRecord) (.ref C_ReelError) = some true)
    (sb_BadRecord_BadNumber : PySem.W.subIn K (.ref C_BadRecord) (.ref C_BadNumber) = some false)
    (sb_BadRecord_BadName : PySem.W.subIn K (.ref C_BadRecord) (.ref C_BadName) = some false)
    (sb_BadRecord_BadReel : PySem.W.subIn K (.ref C_BadRecord) (.ref C_BadReel) = some false)
    (sb_BadRecord_NoRing : PySem.W.subIn K (.ref C_BadRecord) (.ref C_NoRing) = some false)
    (sb_BadRecord_AtEnd : PySem.W.subIn K (.ref C_BadRecord) (.ref C_AtEnd) = some false)
    (sb_BadRecord_AtStart : PySem.W.subIn K (.ref C_BadRecord) (.ref C_AtStart) = some false)
    (sb_BadRecord_TooLong : PySem.W.subIn K (.ref C_BadRecord) (.ref C_TooLong) = some false)
    (sb_BadRecord_BadForm : PySem.W.subIn K (.ref C_BadRecord) (.ref C_BadForm) = some false)
    (sb_BadRecord_BadRecord : PySem.W.subIn K (.ref C_BadRecord) (.ref C_BadRecord) = some true)
    (sb_BadRecord_BadBlock : PySem.W.subIn K (.ref C_BadRecord) (.ref C_BadBlock) = some false)
    (sb_BadRecord_BadLabel : PySem.W.subIn K (.ref C_BadRecord) (.ref C_BadLabel) = some false)
    (sb_BadRecord_NoReel : PySem.W.subIn K (.ref C_BadRecord) (.ref C_NoReel) = some false)
    (sb_BadRecord_NoFile : PySem.W.subIn K (.ref C_BadRecord) (.ref C_NoFile) = some false)
    (sb_BadRecord_Kept : PySem.W.subIn K (.ref C_BadRecord) (.ref C_Kept) = some false)
    : ∃ fd : FuncData, (∀ (s : Shared) (v : Value), BindsTo s fd ⟨[v], []⟩ [("_law_script", v)]) ∧ ∀ base : Heap, K.In base → base.Ns mainGlobals mg → FnOk l.prog w K mg base (L2.CX l.prog w) 7 fa fd ["_law_script"] (spLaw K) := by
  have e := hfa.symm.trans (PySem.W.mg_of X G a_law)
  cases e
  obtain ⟨T, ea, ed⟩ := txt_mk X G g_BadName x_BadName k_BadName b_BadName t_BadName g_NoRing x_NoRing k_NoRing b_NoRing t_NoRing g_TooLong x_TooLong k_TooLong b_TooLong t_TooLong g_BadRecord x_BadRecord k_BadRecord b_BadRecord t_BadRecord g_NoFile g_NoReel x_NoReel k_NoReel b_NoReel t_NoReel g_BadBlock x_BadBlock k_BadBlock b_BadBlock t_BadBlock g_AtEnd x_AtEnd k_AtEnd b_AtEnd t_AtEnd g_BadLabel x_BadLabel k_BadLabel b_BadLabel t_BadLabel g_BadReel x_BadReel k_BadReel b_BadReel t_BadReel g_BadNumber x_BadNumber k_BadNumber b_BadNumber t_BadNumber g_AtStart x_AtStart k_AtStart b_AtStart t_AtStart g_ReelError x_ReelError k_ReelError b_ReelError t_ReelError g_Kept g_BadForm x_BadForm k_BadForm b_BadForm t_BadForm a_is_whole l_is_whole c_is_whole k_is_whole a_look_number l_look_number c_look_number k_look_number a_look_texts l_look_texts c_look_texts k_look_texts a_runs_of l_runs_of c_runs_of k_runs_of a_merged l_merged c_merged k_merged a_passes l_passes c_passes k_passes a_sorted_by l_sorted_by c_sorted_by k_sorted_by a__law_town l__law_town c__law_town k__law_town a__law_draw l__law_draw c__law_draw k__law_draw a__law_pick l__law_pick c__law_pick k__law_pick a__law_refusal l__law_refusal c__law_refusal k__law_refusal a__law_does l__law_does c__law_does k__law_does a__law_asked l__law_asked c__law_asked k__law_asked a_law l_law c_law k_law z_isinstance z_int z_bool z_list z_all z_str z_min z_sorted z_any z_enumerate z_len z_range z_ValueError hg_BadNumber hk_BadNumber hd_BadNumber ha_BadNumber hm_BadNumber hn_X ht_X rd_X ic_ReelError ic_BadNumber ic_BadName ic_BadReel ic_NoRing ic_AtEnd ic_AtStart ic_TooLong ic_BadForm ic_BadRecord ic_BadBlock ic_BadLabel ic_NoReel ic_NoFile t_NoFile ic_Kept t_Kept sv_BadNumber sb_BadNumber_ReelError sb_BadNumber_BadNumber sb_BadNumber_BadName sb_BadNumber_BadReel sb_BadNumber_NoRing sb_BadNumber_AtEnd sb_BadNumber_AtStart sb_BadNumber_TooLong sb_BadNumber_BadForm sb_BadNumber_BadRecord sb_BadNumber_BadBlock sb_BadNumber_BadLabel sb_BadNumber_NoReel sb_BadNumber_NoFile sb_BadNumber_Kept hg_BadRecord hk_BadRecord hd_BadRecord ha_BadRecord hm_BadRecord sv_BadRecord sb_BadRecord_ReelError sb_BadRecord_BadNumber sb_BadRecord_BadName sb_BadRecord_BadReel sb_BadRecord_NoRing sb_BadRecord_AtEnd sb_BadRecord_AtStart sb_BadRecord_TooLong sb_BadRecord_BadForm sb_BadRecord_BadRecord sb_BadRecord_BadBlock sb_BadRecord_BadLabel sb_BadRecord_NoReel sb_BadRecord_NoFile sb_BadRecord_Kept
  refine ⟨T.law.d, fun s v => ?_, fun base _ _ => ?_⟩
  · rw [ed]; exact .of_eq rfl
  · rw [← ea]; exact ok_law T
end R
set_option maxRecDepth 100000
open PySem PySem.W PyProof.Rows
set_option maxRecDepth 100000 in
set_option maxHeartbeats 0 in
theorem PySem.Challenge.cw_reelrows_k20_merges_refused_holds : PySem.Challenge.rw_reelrows_k20_merges_refused.Holds := by
  w_on; o_law; k_head; (case hw => w_witness2)
  k_fill
  refine L2.walk_of (l := PySem.Challenge.rw_reelrows_k20_merges_refused) (n := 63) (k := 7) (x := "_law_script") (CX := fun w => L2.CX PySem.Challenge.rw_reelrows_k20_merges_refused.prog w) (sp := fun w => R.spLaw _) rfl (by decide) rfl ⟨rfl, by decide, by decide⟩ (fun w h Y => PySem.W.kIn_of Y) ?F (fun _ _ a ns hl _ hS => ⟨a, ns, rfl, hS, hl, fun _ => rfl⟩) (fun w H s e s' h => by obtain ⟨_, _, _, _, _, _, _, _, _, _, _, _, z⟩ := h; exact z)
  case F =>
    intro w mg fa h KX G hmg
    refine' R.all_mk KX G hmg ?g_BadName ?x_BadName ?k_BadName ?b_BadName ?t_BadName ?g_NoRing ?x_NoRing ?k_NoRing ?b_NoRing ?t_NoRing ?g_TooLong ?x_TooLong ?k_TooLong ?b_TooLong ?t_TooLong ?g_BadRecord ?x_BadRecord ?k_BadRecord ?b_BadRecord ?t_BadRecord ?g_NoFile ?g_NoReel ?x_NoReel ?k_NoReel ?b_NoReel ?t_NoReel ?g_BadBlock ?x_BadBlock ?k_BadBlock ?b_BadBlock ?t_BadBlock ?g_AtEnd ?x_AtEnd ?k_AtEnd ?b_AtEnd ?t_AtEnd ?g_BadLabel ?x_BadLabel ?k_BadLabel ?b_BadLabel ?t_BadLabel ?g_BadReel ?x_BadReel ?k_BadReel ?b_BadReel ?t_BadReel ?g_BadNumber ?x_BadNumber ?k_BadNumber ?b_BadNumber ?t_BadNumber ?g_AtStart ?x_AtStart ?k_AtStart ?b_AtStart ?t_AtStart ?g_ReelError ?x_ReelError ?k_ReelError ?b_ReelError ?t_ReelError ?g_Kept ?g_BadForm ?x_BadForm ?k_BadForm ?b_BadForm ?t_BadForm ?a_is_whole ?l_is_whole ?c_is_whole ?k_is_whole ?a_look_number ?l_look_number ?c_look_number ?k_look_number ?a_look_texts ?l_look_texts ?c_look_texts ?k_look_texts ?a_runs_of ?l_runs_of ?c_runs_of ?k_runs_of ?a_merged ?l_merged ?c_merged ?k_merged ?a_passes ?l_passes ?c_passes ?k_passes ?a_sorted_by ?l_sorted_by ?c_sorted_by ?k_sorted_by ?a__law_town ?l__law_town ?c__law_town ?k__law_town ?a__law_draw ?l__law_draw ?c__law_draw ?k__law_draw ?a__law_pick ?l__law_pick ?c__law_pick ?k__law_pick ?a__law_refusal ?l__law_refusal ?c__law_refusal ?k__law_refusal ?a__law_does ?l__law_does ?c__law_does ?k__law_does ?a__law_asked ?l__law_asked ?c__law_asked ?k__law_asked ?a_law ?l_law ?c_law ?k_law ?z_isinstance ?z_int ?z_bool ?z_list ?z_all ?z_str ?z_min ?z_sorted ?z_any ?z_enumerate ?z_len ?z_range ?z_ValueError ?hg_BadNumber ?hk_BadNumber ?hd_BadNumber ?ha_BadNumber ?hm_BadNumber ?hn_X ?ht_X ?rd_X ?ic_ReelError ?ic_BadNumber ?ic_BadName ?ic_BadReel ?ic_NoRing ?ic_AtEnd ?ic_AtStart ?ic_TooLong ?ic_BadForm ?ic_BadRecord ?ic_BadBlock ?ic_BadLabel ?ic_NoReel ?ic_NoFile ?t_NoFile ?ic_Kept ?t_Kept ?sv_BadNumber ?sb_BadNumber_ReelError ?sb_BadNumber_BadNumber ?sb_BadNumber_BadName ?sb_BadNumber_BadReel ?sb_BadNumber_NoRing ?sb_BadNumber_AtEnd ?sb_BadNumber_AtStart ?sb_BadNumber_TooLong ?sb_BadNumber_BadForm ?sb_BadNumber_BadRecord ?sb_BadNumber_BadBlock ?sb_BadNumber_BadLabel ?sb_BadNumber_NoReel ?sb_BadNumber_NoFile ?sb_BadNumber_Kept ?hg_BadRecord ?hk_BadRecord ?hd_BadRecord ?ha_BadRecord ?hm_BadRecord ?sv_BadRecord ?sb_BadRecord_ReelError ?sb_BadRecord_BadNumber ?sb_BadRecord_BadName ?sb_BadRecord_BadReel ?sb_BadRecord_NoRing ?sb_BadRecord_AtEnd ?sb_BadRecord_AtStart ?sb_BadRecord_TooLong ?sb_BadRecord_BadForm ?sb_BadRecord_BadRecord ?sb_BadRecord_BadBlock ?sb_BadRecord_BadLabel ?sb_BadRecord_NoReel ?sb_BadRecord_NoFile ?sb_BadRecord_Kept
    (case g_BadName => k_is)
    (case x_BadName => k_exc)
    (case k_BadName => k_is)
    (case b_BadName => k_is)
    (case t_BadName => k_is)
    (case g_NoRing => k_is)
    (case x_NoRing => k_exc)
    (case k_NoRing => k_is)
    (case b_NoRing => k_is)
    (case t_NoRing => k_is)
    (case g_TooLong => k_is)
    (case x_TooLong => k_exc)
    (case k_TooLong => k_is)
    (case b_TooLong => k_is)
    (case t_TooLong => k_is)
    (case g_BadRecord => k_is)
    (case x_BadRecord => k_exc)
    (case k_BadRecord => k_is)
    (case b_BadRecord => k_is)
    (case t_BadRecord => k_is)
    (case g_NoFile => k_is)
    (case g_NoReel => k_is)
    (case x_NoReel => k_exc)
    (case k_NoReel => k_is)
    (case b_NoReel => k_is)
    (case t_NoReel => k_is)
    (case g_BadBlock => k_is)
    (case x_BadBlock => k_exc)
    (case k_BadBlock => k_is)
    (case b_BadBlock => k_is)
    (case t_BadBlock => k_is)
    (case g_AtEnd => k_is)
    (case x_AtEnd => k_exc)
    (case k_AtEnd => k_is)
    (case b_AtEnd => k_is)
    (case t_AtEnd => k_is)
    (case g_BadLabel => k_is)
    (case x_BadLabel => k_exc)
    (case k_BadLabel => k_is)
    (case b_BadLabel => k_is)
    (case t_BadLabel => k_is)
    (case g_BadReel => k_is)
    (case x_BadReel => k_exc)
    (case k_BadReel => k_is)
    (case b_BadReel => k_is)
    (case t_BadReel => k_is)
    (case g_BadNumber => k_is)
    (case x_BadNumber => k_exc)
    (case k_BadNumber => k_is)
    (case b_BadNumber => k_is)
    (case t_BadNumber => k_is)
    (case g_AtStart => k_is)
    (case x_AtStart => k_exc)
    (case k_AtStart => k_is)
    (case b_AtStart => k_is)
    (case t_AtStart => k_is)
    (case g_ReelError => k_is)
    (case x_ReelError => k_exc)
    (case k_ReelError => k_is)
    (case b_ReelError => k_is)
    (case t_ReelError => k_is)
    (case g_Kept => k_is)
    (case g_BadForm => k_is)
    (case x_BadForm => k_exc)
    (case k_BadForm => k_is)
    (case b_BadForm => k_is)
    (case t_BadForm => k_is)
    (case a_is_whole => k_is)
    (case l_is_whole => k_is)
    (case c_is_whole => k_is)
    (case k_is_whole => k_is)
    (case a_look_number => k_is)
    (case l_look_number => k_is)
    (case c_look_number => k_is)
    (case k_look_number => k_is)
    (case a_look_texts => k_is)
    (case l_look_texts => k_is)
    (case c_look_texts => k_is)
    (case k_look_texts => k_is)
    (case a_runs_of => k_is)
    (case l_runs_of => k_is)
    (case c_runs_of => k_is)
    (case k_runs_of => k_is)
    (case a_merged => k_is)
    (case l_merged => k_is)
    (case c_merged => k_is)
    (case k_merged => k_is)
    (case a_passes => k_is)
    (case l_passes => k_is)
    (case c_passes => k_is)
    (case k_passes => k_is)
    (case a_sorted_by => k_is)
    (case l_sorted_by => k_is)
    (case c_sorted_by => k_is)
    (case k_sorted_by => k_is)
    (case a__law_town => k_is)
    (case l__law_town => k_is)
    (case c__law_town => k_is)
    (case k__law_town => k_is)
    (case a__law_draw => k_is)
    (case l__law_draw => k_is)
    (case c__law_draw => k_is)
    (case k__law_draw => k_is)
    (case a__law_pick => k_is)
    (case l__law_pick => k_is)
    (case c__law_pick => k_is)
    (case k__law_pick => k_is)
    (case a__law_refusal => k_is)
    (case l__law_refusal => k_is)
    (case c__law_refusal => k_is)
    (case k__law_refusal => k_is)
    (case a__law_does => k_is)
    (case l__law_does => k_is)
    (case c__law_does => k_is)
    (case k__law_does => k_is)
    (case a__law_asked => k_is)
    (case l__law_asked => k_is)
    (case c__law_asked => k_is)
    (case k__law_asked => k_is)
    (case a_law => k_is)
    (case l_law => k_is)
    (case c_law => k_is)
    (case k_law => k_is)
    (case z_isinstance => k_is)
    (case z_int => k_is)
    (case z_bool => k_is)
    (case z_list => k_is)
    (case z_all => k_is)
    (case z_str => k_is)
    (case z_min => k_is)
    (case z_sorted => k_is)
    (case z_any => k_is)
    (case z_enumerate => k_is)
    (case z_len => k_is)
    (case z_range => k_is)
    (case z_ValueError => k_is)
    (case hg_BadNumber => k_is)
    (case hk_BadNumber => k_is)
    (case hd_BadNumber => k_is)
    (case ha_BadNumber => k_is)
    (case hm_BadNumber => k_is)
    (case hn_X => k_is)
    (case ht_X => k_is)
    (case rd_X => k_is)
    (case ic_ReelError => k_is)
    (case ic_BadNumber => k_is)
    (case ic_BadName => k_is)
    (case ic_BadReel => k_is)
    (case ic_NoRing => k_is)
    (case ic_AtEnd => k_is)
    (case ic_AtStart => k_is)
    (case ic_TooLong => k_is)
    (case ic_BadForm => k_is)
    (case ic_BadRecord => k_is)
    (case ic_BadBlock => k_is)
    (case ic_BadLabel => k_is)
    (case ic_NoReel => k_is)
    (case ic_NoFile => k_is)
    (case t_NoFile => k_is)
    (case ic_Kept => k_is)
    (case t_Kept => k_is)
    (case sv_BadNumber => k_is)
    (case sb_BadNumber_ReelError => k_is)
    (case sb_BadNumber_BadNumber => k_is)
    (case sb_BadNumber_BadName => k_is)
    (case sb_BadNumber_BadReel => k_is)
    (case sb_BadNumber_NoRing => k_is)
    (case sb_BadNumber_AtEnd => k_is)
    (case sb_BadNumber_AtStart => k_is)
    (case sb_BadNumber_TooLong => k_is)
    (case sb_BadNumber_BadForm => k_is)
    (case sb_BadNumber_BadRecord => k_is)
    (case sb_BadNumber_BadBlock => k_is)
    (case sb_BadNumber_BadLabel => k_is)
    (case sb_BadNumber_NoReel => k_is)
    (case sb_BadNumber_NoFile => k_is)
    (case sb_BadNumber_Kept => k_is)
    (case hg_BadRecord => k_is)
    (case hk_BadRecord => k_is)
    (case hd_BadRecord => k_is)
    (case ha_BadRecord => k_is)
    (case hm_BadRecord => k_is)
    (case sv_BadRecord => k_is)
    (case sb_BadRecord_ReelError => k_is)
    (case sb_BadRecord_BadNumber => k_is)
    (case sb_BadRecord_BadName => k_is)
    (case sb_BadRecord_BadReel => k_is)
    (case sb_BadRecord_NoRing => k_is)
    (case sb_BadRecord_AtEnd => k_is)
    (case sb_BadRecord_AtStart => k_is)
    (case sb_BadRecord_TooLong => k_is)
    (case sb_BadRecord_BadForm => k_is)
    (case sb_BadRecord_BadRecord => k_is)
    (case sb_BadRecord_BadBlock => k_is)
    (case sb_BadRecord_BadLabel => k_is)
    (case sb_BadRecord_NoReel => k_is)
    (case sb_BadRecord_NoFile => k_is)
    (case sb_BadRecord_Kept => k_is)
