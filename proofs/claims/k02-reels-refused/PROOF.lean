import PyProof.Rows.All
import Wide.All
import OpenK.AllK
import Wide.FinOn
import HandS.ForMost
import HandS.ForExc
import HandS.IsInst
import HandS.Zip
import HandS.Defaults
import HandS.MakeKw
import HandS.MakeKwOnly
import HandS.Style
import HandS.TupAny
import HandS.ExcOwn
import HandS.ExcIs
import HandS.ExcValue
import HandS.TryMany
import KE.IntTextLaws
import KE.KIntText
import KE.Datum
import KE.KTupSum
import HandS.Walk
import KE.DataEq
import PyProof.StrOps2
import PySem.Challenge.RW_reelrows_k02_reels_refused
set_option Elab.async false
set_option linter.all false
set_option maxRecDepth 100000
set_option maxHeartbeats 4000000
namespace R
open PySem PySem.Spec PyProof.Rows L2 RZ
open PySem.W (Datum)
/-! ### what the top has left, def by def -/
structure DefAt (K : PySem.W.Frag) (mg : Str → Option Value) (x : Str) (st : Stmt) (ps : List Str) where
  a : Addr
  d : FuncData
  F : Fun K x x st a d
  g : mg x = some (.ref a)
  b : Binds K d ps []
/-- a def with parameters that are handed in by name alone -/
structure DefKAt (K : PySem.W.Frag) (mg : Str → Option Value) (x : Str) (st : Stmt) where
  a : Addr
  d : FuncData
  F : Fun K x x st a d
  g : mg x = some (.ref a)
/-- an own exception class with __init__ -/
structure ExcNAt (K : PySem.W.Frag) (mg : Str → Option Value) (x : Str) where
  C : Addr
  g : mg x = some (.ref C)
/-- an own class -/
structure ClsAt (K : PySem.W.Frag) (mg : Str → Option Value) (x : Str) where
  C : Addr
  g : mg x = some (.ref C)
  cl : Cls K C
  m1 : PySem.W.makesIn K C = true
  kc : PySem.W.keepIn K (.ref C) = true
theorem ClsAt.mks {K : PySem.W.Frag} {mg : Str → Option Value} {x : Str} (c : ClsAt K mg x) {f : Addr} (m : Meth K c.C "__init__" f) : Mk K c.C f := ⟨c.m1, m.at_, m.fn, c.kc⟩
/-- a method -/
structure MethAt (K : PySem.W.Frag) (C : Addr) (x q : Str) (st : Stmt) (ps : List Str) where
  a : Addr
  d : FuncData
  F : Fun K x q st a d
  m : Meth K C x a
  b : Binds K d ps []
/-- a method with parameters that are handed in by name alone -/
structure MethKAt (K : PySem.W.Frag) (C : Addr) (x q : Str) (st : Stmt) where
  a : Addr
  d : FuncData
  F : Fun K x q st a d
  m : Meth K C x a
/-- a call by keywords where some defaults are left out: their values -/
structure KBnD (K : PySem.W.Frag) (d : FuncData) (ps : List Str) (n : Nat) (ks : List Str) (g : {α : Type} → List α → List α → List α → List α) (dvs : List V) where
  mv : List Value
  h : KBn K d ps n ks (fun us ws => g us mv ws) (fun vs zs => g vs dvs zs)
/-- a def's defaults where some arguments are left out -/
structure DefB (K : PySem.W.Frag) (d : FuncData) (ps : List Str) (dvs : List V) where
  ds : List Value
  v : Vals dvs ds
  b : Binds K d ps ds
structure IntAt (mg : Str → Option Value) (x : Str) (i : Int) where
  t : Tok
  g : mg x = some (.int i t)
structure StrAt (mg : Str → Option Value) (x : Str) (z : Str) where
  t : Tok
  g : mg x = some (.str z t)
structure TupAt (K : PySem.W.Frag) (mg : Str → Option Value) (x : Str) (vs : List V) where
  a : Addr
  g : mg x = some (.ref a)
  t : ∀ H, SqT K H a vs
/-- an own exception class without own __init__ -/
structure ExcAt (K : PySem.W.Frag) (mg : Str → Option Value) (x : Str) where
  C : Addr
  g : mg x = some (.ref C)
  x : PySem.W.excIn K C [.type "ValueError", .type "Exception", .type "BaseException", .type "object"] "ValueError.__new__" = true
  k : PySem.W.keepIn K (.ref C) = true
  b : PySem.W.subIn K (.ref C) (.type "BaseException") = some true
  t : PySem.W.typeIn K (.ref C) = some (.type "type")
/-! ### a step's summary of one's own -/
theorem PSs.mid {X : Cx} {ss : List Stmt} {t t' : TS} (h : PSs X ss t) (k : ∀ D σ H, t' D σ H → t D σ H) : PSs X ss t' := ⟨fun pins s σ H D I q => h.run pins s σ H D I (k D σ H q)⟩
theorem PS.mid {X : Cx} {ss : Stmt} {t t' : TS} (h : PS X ss t) (k : ∀ D σ H, t' D σ H → t D σ H) : PS X ss t' := ⟨fun pins s σ H D I q => h.run pins s σ H D I (k D σ H q)⟩
theorem PE.mid {X : Cx} {e : Expr} {t t' : TE} (h : PE X e t) (k : ∀ σ H Q, t' σ H Q → t σ H Q) : PE X e t' := ⟨fun pins s σ H Q I q => h.run pins s σ H Q I (k σ H Q q)⟩
theorem PT.mid {X : Cx} {e : Expr} {t t' : TT} (h : PT X e t) (k : ∀ σ H Q, t' σ H Q → t σ H Q) : PT X e t' := ⟨fun pins s σ H Q I q => h.run pins s σ H Q I (k σ H Q q)⟩
/-! ### texts: a list of signs -/
def S (l : List Nat) : Str := ⟨l.toArray⟩
theorem S_len (l : List Nat) : (S l).length = l.length := by simp [S, Str.length]
theorem S_cps (l : List Nat) : (S l).cps.toList = l := by simp [S]
theorem S_inj {a b : List Nat} : S a = S b ↔ a = b := by
  constructor
  · intro h
    have := congrArg (fun z => Str.cps z |>.toList) h
    simpa [S] using this
  · intro h; rw [h]
theorem S_app (a b : List Nat) : S a ++ S b = S (a ++ b) := by
  show Str.append (S a) (S b) = S (a ++ b)
  simp [Str.append, S]
theorem S_of (z : Str) : z = S z.cps.toList := by
  cases z; simp [S]
theorem S_sl (l : List Nat) (lo hi : Option Int) : cutS (S l) lo hi = S ((l.drop (HT.sIx l.length 0 lo)).take (HT.sIx l.length l.length hi - HT.sIx l.length 0 lo)) := by
  unfold cutS
  rw [S_len, S_cps]
  all_goals rfl
/-- one text times a number -/
def rMulS : R2 := fun x y H Q => ∃ z i, x = .str z ∧ y = .int i ∧ z.length = 1 ∧ -1000000 < i ∧ i < 1000000 ∧ Q (.str (S (List.replicate i.toNat (z.cps.toList.headD 0)))) H
theorem rep_one (c n : Nat) : (List.replicate n (#[c] : Array Nat)).foldl (· ++ ·) #[] = (List.replicate n c).toArray := by
  have : ∀ (a : Array Nat), (List.replicate n (#[c] : Array Nat)).foldl (· ++ ·) a = a ++ (List.replicate n c).toArray := by
    induction n with
    | zero => intro a; simp
    | succ n ih =>
      intro a
      rw [List.replicate_succ, List.foldl_cons, ih, List.replicate_succ]
      apply Array.ext'
      simp
  rw [this]; simp
theorem op_mul_str {X : Cx} : OpR X (binaryOp .Mult) rMulS := by
  intro pins s σ H x y v u Q I rx ry h
  obtain ⟨z, i, rfl, rfl, h1, lo, hi, q⟩ := h
  obtain ⟨t, rfl⟩ := rx
  obtain ⟨t', rfl⟩ := ry
  obtain ⟨c, hc⟩ : ∃ c, z = S [c] := by
    obtain ⟨⟨l⟩⟩ := z
    match l, h1 with
    | [c], _ => exact ⟨c, rfl⟩
  subst hc
  have e1 : (S [c]).length = 1 := rfl
  have hd : (S [c]).cps.toList.headD 0 = c := rfl
  rw [hd] at q
  refine PySem.P.mul_str ?_ ?_ ?_ ?_
  · rw [decide_eq_false (by omega), decide_eq_false (by omega)]; rfl
  · intro a b
    rw [e1]
    have : (1 : Int) ≤ (2 ^ 63 - 1) / i := by
      apply Int.le_ediv_of_mul_le (by omega)
      omega
    omega
  · intro a b
    rw [e1, Nat.one_mul]
    unfold PySem.Builtin.Str.tooLong
    first
      | (simp only [sizeLine_eq, decide_eq_false_iff_not]; omega)
      | (rw [decide_eq_false]; have := sizeLine_eq; omega)
  · by_cases h0 : i < 1
    · rw [if_pos h0]
      have e : i.toNat = 0 := by omega
      rw [e] at q
      exact ⟨by decide, ⟨.str (S []), H, I.tok _, ⟨_, rfl⟩, q⟩⟩
    · rw [if_neg h0]
      by_cases h2 : i = 1
      · subst h2
        rw [if_pos (by rfl)]
        exact ⟨.str (S [c]), H, I.tok _, ⟨_, rfl⟩, q⟩
      · have e2 : (i == 1 || (S [c]).length == 0) = false := by
          rw [e1]
          simp [h2]
        rw [if_neg (by rw [e2]; decide)]
        have e3 : (⟨(List.replicate i.toNat (S [c]).cps).foldl (· ++ ·) #[]⟩ : Str) = S (List.replicate i.toNat c) := by
          show (⟨(List.replicate i.toNat (#[c] : Array Nat)).foldl (· ++ ·) #[]⟩ : Str) = S (List.replicate i.toNat c)
          rw [rep_one]
          all_goals rfl
        rw [e3]
        refine ⟨?_, ⟨.str (S (List.replicate i.toNat c)), H, I.tok _, ⟨_, rfl⟩, q⟩⟩
        rw [S_len, List.length_replicate, sizeLine_eq]
        omega

/-! ### one step of a reading -/
theorem iteD {c A B : Prop} [Decidable c] (h1 : c → A) (h2 : ¬ c → B) : if decide c = true then A else B := by
  by_cases h : c
  · rw [decide_eq_true h, if_pos rfl]; exact h1 h
  · rw [decide_eq_false h, if_neg Bool.false_ne_true]; exact h2 h
theorem iteN {c A B : Prop} [Decidable c] (h1 : ¬ c → A) (h2 : c → B) : if (!decide c) = true then A else B := by
  by_cases h : c
  · rw [decide_eq_true h]; exact iteF (h2 h)
  · rw [decide_eq_false h]; exact iteT (h1 h)
theorem iteB {c : Bool} {A B : Prop} (h1 : c = true → A) (h2 : c = false → B) : if c = true then A else B := by
  cases c with
  | true => exact iteT (h1 rfl)
  | false => exact iteF (h2 rfl)
theorem iteNB {c : Bool} {A B : Prop} (h1 : c = false → A) (h2 : c = true → B) : if (!c) = true then A else B := by
  cases c with
  | true => exact iteF (h2 rfl)
  | false => exact iteT (h1 rfl)
/-! ### heaps -/
theorem same_new {H : Hp} {p : Addr} {o : HO} (h : H p = none) : Same H (upd H p o) := fun b x e => by
  rw [upd_ne (ne_of_none e h)]; exact e
theorem sql_same {K : PySem.W.Frag} {H H' : Hp} {a : Addr} {xs : List V} (h : SqL K H a xs) (e : Same H H') : SqL K H' a xs := e.seq h
theorem sqt_same {K : PySem.W.Frag} {H H' : Hp} {a : Addr} {xs : List V} (h : SqT K H a xs) (e : Same H H') : SqT K H' a xs := by
  rcases h with (h | ⟨o, h⟩) | h
  · exact .inl (.inl (e _ _ h))
  · exact .inl (.inr ⟨o, e _ _ h⟩)
  · exact .inr h
mutual
theorem dp_same {K : PySem.W.Frag} {H H' : Hp} (e : Same H H') : ∀ {x : V} {d : PyData}, Dp K H x d → Dp K H' x d
  | _, _, .non => .non
  | _, _, .bl b => .bl b
  | _, _, .int i => .int i
  | _, _, .str x => .str x
  | _, _, .lst h k => .lst (sql_same h e) (dpAll_same e k)
  | _, _, .tup h k => .tup (sqt_same h e) (dpAll_same e k)
theorem dpAll_same {K : PySem.W.Frag} {H H' : Hp} (e : Same H H') : ∀ {xs : List V} {ds : List PyData}, DpAll K H xs ds → DpAll K H' xs ds
  | _, _, .nil => .nil
  | _, _, .cons h k => .cons (dp_same e h) (dpAll_same e k)
end
theorem dp_ints {K : PySem.W.Frag} {H : Hp} : ∀ ns : List Int, DpAll K H (ns.map V.int) (ns.map Datum.toD)
  | [] => .nil
  | n :: r => .cons (.int n) (dp_ints r)
theorem dp_strs {K : PySem.W.Frag} {H : Hp} : ∀ ns : List Str, DpAll K H (ns.map V.str) (ns.map Datum.toD)
  | [] => .nil
  | n :: r => .cons (.str n) (dp_strs r)
theorem dp_intsL {K : PySem.W.Frag} {H : Hp} {a : Addr} {ns : List Int} (h : SqL K H a (ns.map V.int)) : Dp K H (.ref a) (Datum.toD ns) := .lst h (dp_ints ns)
theorem dp_strsL {K : PySem.W.Frag} {H : Hp} {a : Addr} {ns : List Str} (h : SqL K H a (ns.map V.str)) : Dp K H (.ref a) (Datum.toD ns) := .lst h (dp_strs ns)
def rEqP (K : PySem.W.Frag) : R2 := fun x y H Q => ∃ d e, Dp K H x d ∧ Dp K H y e ∧ d.plain = true ∧ e.plain = true ∧ d.depth ≤ 60 ∧ Q (.bl (PyData.eqv d e)) H
def rNeP (K : PySem.W.Frag) : R2 := fun x y H Q => ∃ d e, Dp K H x d ∧ Dp K H y e ∧ d.plain = true ∧ e.plain = true ∧ d.depth ≤ 60 ∧ Q (.bl (!PyData.eqv d e)) H
theorem op_eqP {X : Cx} (hu : X.A.units + 64 < cLine) : OpR X (compareOp .Eq) (rEqP X.K) := by
  intro pins s σ H x y v u Q I rx ry h
  obtain ⟨d, e, hd, he, sd, se, hp, q⟩ := h
  obtain ⟨as, r1⟩ := Dp.reads I d x v hd rx
  obtain ⟨bs, r2⟩ := Dp.reads I e y u he ry
  exact SeqAt.eq_plain r1 r2 sd se (by omega) ⟨.bl _, H, I, rfl, q⟩
theorem op_neP {X : Cx} (hu : X.A.units + 64 < cLine) : OpR X (compareOp .NotEq) (rNeP X.K) := by
  intro pins s σ H x y v u Q I rx ry h
  obtain ⟨d, e, hd, he, sd, se, hp, q⟩ := h
  obtain ⟨as, r1⟩ := Dp.reads I d x v hd rx
  obtain ⟨bs, r2⟩ := Dp.reads I e y u he ry
  exact SeqAt.ne_plain r1 r2 sd se (by omega) ⟨.bl _, H, I, rfl, q⟩
theorem rEqP_of {α : Type} [DecidableEq α] [Datum α] {K : PySem.W.Frag} {H : Hp} {x y : V} {a b : α} {Q : VK} (hx : Dp K H x (Datum.toD a)) (hy : Dp K H y (Datum.toD b)) (q : Q (.bl (decide (a = b))) H) (hd : Datum.depth α ≤ 60 := by decide) : rEqP K x y H Q :=
  ⟨_, _, hx, hy, Datum.plain a, Datum.plain b, Nat.le_trans (Datum.depth_le a) hd, by rw [Datum.eqv]; exact q⟩
theorem rNeP_of {α : Type} [DecidableEq α] [Datum α] {K : PySem.W.Frag} {H : Hp} {x y : V} {a b : α} {Q : VK} (hx : Dp K H x (Datum.toD a)) (hy : Dp K H y (Datum.toD b)) (q : Q (.bl (!decide (a = b))) H) (hd : Datum.depth α ≤ 60 := by decide) : rNeP K x y H Q :=
  ⟨_, _, hx, hy, Datum.plain a, Datum.plain b, Nat.le_trans (Datum.depth_le a) hd, by rw [Datum.eqv]; exact q⟩

theorem sz {n : Nat} (h : n ≤ 16777216) : n ≤ sizeLine := by rw [sizeLine_eq]; exact h
theorem szl {n : Nat} (h : n < 16777216) : n < sizeLine := by rw [sizeLine_eq]; exact h
/-! ### what kind a value is -/
inductive Pl (K : PySem.W.Frag) (H : Hp) : V → String → Prop
  | non : Pl K H .non "NoneType"
  | bl (b : Bool) : Pl K H (.bl b) "bool"
  | int (i : Int) : Pl K H (.int i) "int"
  | str (z : Str) : Pl K H (.str z) "str"
  | lst {a : Addr} {xs : List V} (h : SqL K H a xs) : Pl K H (.ref a) "list"
  | tup {a : Addr} {xs : List V} (h : SqT K H a xs) : Pl K H (.ref a) "tuple"
  | dct {a : Addr} {kvs : List (Key × V)} (h : H a = some (.dK kvs)) : Pl K H (.ref a) "dict"
theorem Pl.ty {K : PySem.W.Frag} {H : Hp} {x : V} {n : String} (h : Pl K H x n) : TyX K H x (.type n) := by
  cases h with
  | non => exact .base .non
  | bl b => exact .base (.bl b)
  | int i => exact .base (.int i)
  | str z => exact .base (.str z)
  | lst h =>
    rcases h with (h | ⟨o, h⟩) | ⟨o, its, m, hk, hc, _⟩
    · exact .base (.lst h)
    · exact .base (.frz h)
    · exact .kList hk hc
  | tup h =>
    rcases h with (h | ⟨o, h⟩) | ⟨o, its, m, hk, hc, _⟩
    · exact .base (.tup h)
    · exact .fTuple h
    · exact .kTuple hk hc
  | dct h => exact .base (.dK h)
theorem Pl.same {K : PySem.W.Frag} {H H' : Hp} {x : V} {n : String} (h : Pl K H x n) (e : Same H H') : Pl K H' x n := by
  cases h with
  | non => exact .non
  | bl b => exact .bl b
  | int i => exact .int i
  | str z => exact .str z
  | lst h => exact .lst (sql_same h e)
  | tup h => exact .tup (sqt_same h e)
  | dct h => exact .dct (e _ _ h)
theorem kit_int {K : PySem.W.Frag} {H : Hp} {x : V} {n : String} (h : Pl K H x n) : PySem.W.kitOne K (.type n) (.type "int") = some (n == "int" || n == "bool") := by
  cases h <;> exact kit_ty (by decide +kernel)
theorem kit_bool {K : PySem.W.Frag} {H : Hp} {x : V} {n : String} (h : Pl K H x n) : PySem.W.kitOne K (.type n) (.type "bool") = some (n == "bool") := by
  cases h <;> exact kit_ty (by decide +kernel)
theorem kit_str {K : PySem.W.Frag} {H : Hp} {x : V} {n : String} (h : Pl K H x n) : PySem.W.kitOne K (.type n) (.type "str") = some (n == "str") := by
  cases h <;> exact kit_ty (by decide +kernel)
theorem kit_list {K : PySem.W.Frag} {H : Hp} {x : V} {n : String} (h : Pl K H x n) : PySem.W.kitOne K (.type n) (.type "list") = some (n == "list") := by
  cases h <;> exact kit_ty (by decide +kernel)
theorem kit_tuple {K : PySem.W.Frag} {H : Hp} {x : V} {n : String} (h : Pl K H x n) : PySem.W.kitOne K (.type n) (.type "tuple") = some (n == "tuple") := by
  cases h <;> exact kit_ty (by decide +kernel)
/-! ### comprehensions whose items are told -/
theorem lc_map {J : It} {n : Nat} {G : Hp → Prop} {Y : Nat → Hp → V → Hp → Prop} (w : Walk J n G Y) {g : TG} {te : TE} {vs : List Nat} {σ : L2.St} {H1 : Hp} {D : Addr} {Qd : Hp → Prop} (ys : List V) (len : ys.length = n) (hn : n < 16777216) (nD : H1 D = none)
    (hY : ∀ i H x H', Y i H x H' → Same H H') (hG : ∀ H, Same H1 H → G H)
    (hs : ∀ i x H H' y, i < n → ys[i]? = some y → Same H1 H → Same H1 H' → Y i H x H' → ∀ Q : VK, (∀ H2, Same H' H2 → Q y H2) → g x (wipe σ vs) H' fun σ2 H2 => wipe σ2 vs = wipe σ vs ∧ te σ2 H2 Q)
    (hd : ∀ H, Same H1 H → H D = some (.lst ys) → Qd H)
    (hg : ∀ x σ H (R R' : L2.St → Hp → Prop), (∀ σ2 H2, R σ2 H2 → R' σ2 H2) → g x σ H R → g x σ H R') :
    ∃ W : Nat → Nat → Hp → Prop, (∃ m, W 0 m (upd H1 D (.lst []))) ∧ ∀ i m H, W i m H →
      (J.stop i H ∧ Qd H) ∨ (J.go i H ∧ ∃ Nx : Hp → Prop, (∀ H', Nx H' → ∃ m', m' < m ∧ W (i + 1) m' H') ∧ ∀ x H', J.yld i H x H' → g x (wipe σ vs) H' fun σ2 H2 => wipe σ2 vs = wipe σ vs ∧ tYes σ2 H2 fun b H3 =>
        if b = true then te σ2 H3 fun y H4 => ∃ acc, H4 D = some (.lst acc) ∧ acc.length < sizeLine ∧ Nx (upd H4 D (.lst (acc ++ [y]))) else Nx H3) := by
  refine lc_it w (fun i H => Same H1 H ∧ H D = some (.lst (ys.take i))) ⟨same_new nD, upd_same⟩ (fun i H _ p => hG H p.1) (fun i x H H' hi p y => ?_) (fun H p => hd H p.1 (by rw [← len, List.take_length] at p; exact p.2))
  have hi2 : i < ys.length := by omega
  have sH' := hY _ _ _ _ y
  refine hg _ _ _ _ _ (fun σ2 H2 z => z) (hs i x H H' ys[i] hi (List.getElem?_eq_getElem hi2) p.1 (p.1.trans sH') y _ fun H2 s2 => ?_)
  have hD2 : H2 D = some (.lst (ys.take i)) := s2 _ _ (sH' _ _ p.2)
  refine ⟨ys.take i, hD2, szl (by rw [List.length_take]; omega), ?_, ?_⟩
  · intro b o hb
    rw [upd_ne (ne_of_none hb nD)]
    exact s2 _ _ (sH' _ _ (p.1 _ _ hb))
  · rw [upd_same, List.take_add_one, List.getElem?_eq_getElem hi2]
    all_goals rfl
theorem gName_mono {i : Nat} : ∀ x σ H (R R' : L2.St → Hp → Prop), (∀ σ2 H2, R σ2 H2 → R' σ2 H2) → gName i x σ H R → gName i x σ H R' := fun _ _ _ _ _ h k => h _ _ k
theorem gTup2_mono {K : PySem.W.Frag} {i j : Nat} : ∀ x σ H (R R' : L2.St → Hp → Prop), (∀ σ2 H2, R σ2 H2 → R' σ2 H2) → gTup K 2 (gCons (gName i) (gCons (gName j) gNil)) x σ H R → gTup K 2 (gCons (gName i) (gCons (gName j) gNil)) x σ H R' := by
  intro x σ H R R' h ⟨a, xs, e1, e2, e3, v, r, e4, v2, r2, e5, e6, k⟩
  exact ⟨a, xs, e1, e2, e3, v, r, e4, v2, r2, e5, e6, h _ _ k⟩
theorem yat_same {xs : List V} : ∀ i H x H', YAt xs i H x H' → Same H H' := fun _ _ _ _ h => by rw [h.1]; exact Same.refl _
theorem ystr_same {z : Str} : ∀ (i : Nat) (H : Hp) (v : V) (H' : Hp), (H' = H ∧ ∃ c, z.cps[i]? = some c ∧ v = V.str ⟨#[c]⟩) → Same H H' := fun _ _ _ _ h => by rw [h.1]; exact Same.refl _
theorem yfn_same {f : Nat → V} : ∀ i H x H', YFn f i H x H' → Same H H' := fun _ _ _ _ h => by rw [h.1]; exact Same.refl _
theorem ypair_same {xs ys : Nat → Option V} : ∀ i H x H', YPair xs ys i H x H' → Same H H' := fun i H x H' h => by
  obtain ⟨T, a, b, _, h1, h2, _⟩ := h
  rw [h2]; exact same_new h1
theorem walk_zipT {K : PySem.W.Frag} {a b : Addr} {xs ys : List V} {n : Nat} (hn : n = min xs.length ys.length) : Walk (ItzT K a b) n (fun H => SqT K H a xs ∧ SqT K H b ys) (YPair (fun i => xs[i]?) (fun i => ys[i]?)) := by
  subst hn
  refine ⟨fun i _ hi q => ?_, fun _ q => ⟨xs, ys, q.1, q.2, by omega⟩, fun i H v H' _ q y => ?_⟩
  · have h1 : i < xs.length := by omega
    have h2 : i < ys.length := by omega
    exact ⟨xs, ys, xs[i], ys[i], q.1, q.2, by simp [h1], by simp [h2]⟩
  · obtain ⟨T, x, z, h1, h2, h3, h4, h5⟩ := y
    exact ⟨T, x, z, h1, h2, h3, h4 xs q.1, h5 ys q.2⟩
/-- [test of the sign for sign in a text] -/
theorem lc_signs {z : Str} {te : TE} {vs : List Nat} {σ : L2.St} {H1 : Hp} {D : Addr} {Qd : Hp → Prop} {i : Nat} (f : Nat → Bool) (hz : z.length < 16777216) (nD : H1 D = none)
    (hw : ∀ c, wipe ((wipe σ vs).set i (some (.str (S [c])))) vs = wipe σ vs)
    (hs : ∀ c H, c ∈ z.cps.toList → Same H1 H → ∀ Q : VK, (∀ H2, Same H H2 → Q (.bl (f c)) H2) → te ((wipe σ vs).set i (some (.str (S [c])))) H Q)
    (hd : ∀ H, Same H1 H → H D = some (.lst ((z.cps.toList.map f).map V.bl)) → Qd H) :
    ∃ W : Nat → Nat → Hp → Prop, (∃ m, W 0 m (upd H1 D (.lst []))) ∧ ∀ i' m H, W i' m H →
      ((Its z).stop i' H ∧ Qd H) ∨ ((Its z).go i' H ∧ ∃ Nx : Hp → Prop, (∀ H', Nx H' → ∃ m', m' < m ∧ W (i' + 1) m' H') ∧ ∀ x H', (Its z).yld i' H x H' → (gName i) x (wipe σ vs) H' fun σ2 H2 => wipe σ2 vs = wipe σ vs ∧ tYes σ2 H2 fun b H3 =>
        if b = true then te σ2 H3 fun y H4 => ∃ acc, H4 D = some (.lst acc) ∧ acc.length < sizeLine ∧ Nx (upd H4 D (.lst (acc ++ [y]))) else Nx H3) := by
  refine lc_map walk_str ((z.cps.toList.map f).map V.bl) (by simp) hz nD ystr_same (fun _ _ => trivial) (fun j x H H' y hj hy s1 s1' hY Q q => ?_) hd gName_mono
  obtain ⟨rfl, c, hc, rfl⟩ := hY
  have hc2 : z.cps.toList[j]? = some c := by rw [← hc]; simp
  have ey : y = .bl (f c) := by
    rw [List.getElem?_map, List.getElem?_map, hc2] at hy
    exact (Option.some.inj hy).symm
  subst ey
  exact ⟨hw c, hs c H' (List.mem_of_getElem? hc2) s1' Q q⟩
/-- sum of a tuple of whole numbers -/
def rSumT (K : PySem.W.Frag) : List V → Hp → VK → Prop := fun vs H Q => ∃ (a : Addr) (ns : List Int), vs = [V.ref a] ∧ SqT K H a (ns.map V.int) ∧ Q (.int ns.sum) H
theorem cr_sumT {X : Cx} (hc : X.calm = true) : CallR X (.builtin "sum") (rSumT X.K) := by
  intro pins s σ H vs us Q I r h
  obtain ⟨a, ns, rfl, hs, q⟩ := h
  obtain ⟨its, rv, hl, _⟩ := I.tuple hs
  rw [Vals.ref1 r]
  have hi : IntsAre its ns := rv.ints
  obtain ⟨xs, hx⟩ := hi.allInts.items
  have hn : numsOf its.toArray.toList = ns := by rw [show its.toArray.toList = its from rfl, hi.numsOf]
  rw [hx] at hl hn
  rw [nums_intItems] at hn
  refine PySem.W.ktm_sumG (I.ok.hd hc) hl fun h' tk t' hk => ?_
  rw [preSum_eq, List.take_of_length_le (by simp), hn]
  exact ⟨.int _, H, I.kept hk, ⟨_, rfl⟩, q⟩
end R
set_option maxRecDepth 100000
set_option maxHeartbeats 4000000
namespace R
open PySem PySem.Spec PyProof.Rows L2 RZ
open PySem.W (Datum)
open PySem.NumText
/-! ### numbers in figures -/
def dig (n : Nat) : List Nat := (Nat.toDigits 10 n).map Char.toNat
theorem dig_str (n : Nat) : Str.ofString (toString ((n : Nat) : Int)) = S (dig n) := by
  rw [S_of (Str.ofString _), PySem.W.KIN.signs_num]
  all_goals rfl
theorem dig_lt {n : Nat} (h : n < 10) : dig n = [48 + n] := by
  unfold dig
  rw [Nat.toDigits_of_lt_base h]
  have : ∀ n, n < 10 → (Nat.digitChar n).toNat = 48 + n := by decide
  rw [List.map_cons, this n h, List.map_nil]
theorem dig_step {n : Nat} (h : 10 ≤ n) : dig n = dig (n / 10) ++ [48 + n % 10] := by
  have hm : n % 10 < 10 := Nat.mod_lt n (by decide)
  have t : Nat.toDigits 10 (n / 10) ++ Nat.toDigits 10 (n % 10) = Nat.toDigits 10 (10 * (n / 10) + n % 10) := Nat.toDigits_append_toDigits (by decide) (by omega) hm
  rw [Nat.div_add_mod] at t
  have e := dig_lt hm
  unfold dig at e ⊢
  rw [← t, List.map_append, e]
theorem dig_len : ∀ (k n : Nat), n < 10 ^ (k + 1) → (dig n).length ≤ k + 1
  | 0, n, h => by rw [dig_lt (by simpa using h)]; exact Nat.le_refl _
  | k + 1, n, h => by
    by_cases h10 : n < 10
    · rw [dig_lt h10]; simp
    · rw [dig_step (by omega), List.length_append]
      have : n / 10 < 10 ^ (k + 1) := by
        rw [Nat.pow_succ] at h
        omega
      have := dig_len k (n / 10) this
      simp only [List.length_cons, List.length_nil]
      omega
theorem dig_pos : ∀ n : Nat, 1 ≤ (dig n).length := fun n => by
  by_cases h : n < 10
  · rw [dig_lt h]; exact Nat.le_refl _
  · rw [dig_step (by omega), List.length_append]; simp
theorem dig_all (n : Nat) : ∀ c ∈ dig n, 48 ≤ c ∧ c ≤ 57 := by
  induction n using Nat.strongRecOn with
  | _ n ih =>
    intro c hc
    by_cases h : n < 10
    · rw [dig_lt h, List.mem_singleton] at hc; omega
    · rw [dig_step (by omega), List.mem_append, List.mem_singleton] at hc
      rcases hc with hc | hc
      · exact ih (n / 10) (by omega) c hc
      · omega
theorem dv_snoc (l : List Nat) (c : Nat) : digitsVal (l ++ [c]) = digitsVal l * 10 + (c - 48) := by
  unfold digitsVal
  rw [List.foldl_append]
  all_goals rfl
theorem dig_val (n : Nat) : digitsVal (dig n) = n := PySem.W.KIN.val_back n
theorem dv_zeros : ∀ (k : Nat) (l : List Nat), digitsVal (List.replicate k 48 ++ l) = digitsVal l
  | 0, l => by simp
  | k + 1, l => by
    have := dv_zeros k l
    rw [List.replicate_succ, List.cons_append]
    unfold digitsVal at this ⊢
    rw [List.foldl_cons]
    exact this
/-- a number with so many figures -/
def fig (n m : Nat) : List Nat := List.replicate (m - (dig n).length) 48 ++ dig n
theorem fig_len {n m : Nat} (hm : 1 ≤ m) (h : n < 10 ^ m) : (fig n m).length = m := by
  obtain ⟨k, rfl⟩ : ∃ k, m = k + 1 := ⟨m - 1, by omega⟩
  have := dig_len k n h
  unfold fig
  rw [List.length_append, List.length_replicate]
  omega
theorem fig_all (n m : Nat) : ∀ c ∈ fig n m, 48 ≤ c ∧ c ≤ 57 := by
  intro c hc
  unfold fig at hc
  rw [List.mem_append, List.mem_replicate] at hc
  rcases hc with ⟨_, rfl⟩ | hc
  · decide
  · exact dig_all n c hc
theorem fig_val (n m : Nat) : digitsVal (fig n m) = n := by
  unfold fig
  rw [dv_zeros, dig_val]
theorem int_fig {l : List Nat} (h : ∀ c ∈ l, 48 ≤ c ∧ c ≤ 57) (h0 : l ≠ []) (h2 : l.length ≤ 600) : PySem.intText? (S l) = some ((digitsVal l : Nat) : Int) := by
  have e := @intText_digits (S l) (by rw [S_cps]; exact h) (by rw [S_cps]; exact h0) (by rw [S_len]; omega)
  rw [S_cps] at e
  exact e
/-- a name with blanks behind -/
def pad (l : List Nat) (m : Nat) : List Nat := l ++ List.replicate (m - l.length) 32
theorem pad_len {l : List Nat} {m : Nat} (h : l.length ≤ m) : (pad l m).length = m := by
  unfold pad
  rw [List.length_append, List.length_replicate]
  omega
/-- the blanks behind are taken off -/
def bareL (l : List Nat) : List Nat := (l.reverse.dropWhile (· == 32)).reverse
theorem bare_pad {l : List Nat} (m : Nat) (h : ∀ c ∈ l, c ≠ 32) : bareL (pad l m) = l := by
  unfold bareL pad
  rw [List.reverse_append, List.reverse_replicate]
  have h1 : ∀ (k : Nat) (r : List Nat), (∀ c ∈ r, c ≠ 32) → (List.replicate k 32 ++ r).dropWhile (· == 32) = r := by
    intro k
    induction k with
    | zero =>
      intro r hr
      cases r with
      | nil => rfl
      | cons x q =>
        have : x ≠ 32 := hr x List.mem_cons_self
        rw [List.replicate_zero, List.nil_append, List.dropWhile_cons_of_neg]
        simpa using this
    | succ k ih =>
      intro r hr
      rw [List.replicate_succ, List.cons_append, List.dropWhile_cons_of_pos (by decide)]
      exact ih r hr
  rw [h1 _ _ fun c hc => h c (List.mem_reverse.mp hc), List.reverse_reverse]
theorem bare_step {l : List Nat} (h : l.drop (l.length - 1) = [32]) : bareL l.dropLast = bareL l ∧ l.dropLast.length < l.length := by
  rcases List.eq_nil_or_concat l with rfl | ⟨i, c, rfl⟩
  · simp at h
  · rw [List.concat_eq_append] at h ⊢
    rw [show (i ++ [c]).length - 1 = i.length by simp, List.drop_left] at h
    cases h
    constructor
    · unfold bareL
      rw [List.dropLast_concat, List.reverse_append]
      show _ = (((32 : Nat) :: i.reverse).dropWhile (· == 32)).reverse
      rw [List.dropWhile_cons_of_pos (by decide)]
    · simp
theorem bare_stop {l : List Nat} (h : ¬ l.drop (l.length - 1) = [32]) : bareL l = l := by
  rcases List.eq_nil_or_concat l with rfl | ⟨i, c, rfl⟩
  · rfl
  · rw [List.concat_eq_append] at h ⊢
    rw [show (i ++ [c]).length - 1 = i.length by simp, List.drop_left] at h
    unfold bareL
    rw [List.reverse_append]
    show (((c : Nat) :: i.reverse).dropWhile (· == 32)).reverse = _
    rw [List.dropWhile_cons_of_neg (by simpa using h)]
    simp
theorem bare_len (l : List Nat) : (bareL l).length ≤ l.length := by
  unfold bareL
  rw [List.length_reverse]
  exact Nat.le_trans (List.Sublist.length_le (List.dropWhile_sublist _)) (by simp)
/-! ### labels -/
def longs : List Nat := [4, 4, 4, 2, 5, 5, 6]
def mosts : List Nat := [9999, 9999, 9999, 99, 99999, 99999, 999999]
def volLab (a b : List Nat) : List Nat := [86, 79, 76, 49] ++ pad a 6 ++ pad b 8
def numsLab (ns : List Nat) : List Nat := ((ns.zip longs).map fun p => fig p.1 p.2).flatten
def fileLab (k n f : List Nat) (ns : List Nat) : List Nat := k ++ pad n 8 ++ pad f 6 ++ numsLab ns
def formLab (l : List Nat) (b s : Nat) : List Nat := [72, 68, 82, 50] ++ l ++ fig b 3 ++ fig s 3
end R
set_option maxRecDepth 100000
set_option maxHeartbeats 4000000
namespace R
set_option exponentiation.threshold 2000
open PySem PySem.Spec PyProof.Rows L2 RZ
open PySem.W (Datum)
/-! ### the rules of texts, said of lists of signs -/
/-- a slice of a list of signs -/
def sl {α : Type} (l : List α) (lo hi : Option Int) : List α := (l.drop (HT.sIx l.length 0 lo)).take (HT.sIx l.length l.length hi - HT.sIx l.length 0 lo)
theorem sl_to {α : Type} (l : List α) (k : Nat) : sl l none (some (k : Int)) = l.take k := by
  unfold sl
  rw [HT.sIx_none, HT.sIx_nat, List.drop_zero, Nat.sub_zero]
  by_cases h : k ≤ l.length
  · rw [Nat.min_eq_left h]
  · rw [Nat.min_eq_right (by omega), List.take_length, List.take_of_length_le (by omega)]
theorem sl_from {α : Type} (l : List α) (k : Nat) : sl l (some (k : Int)) none = l.drop k := by
  unfold sl
  rw [HT.sIx_none, HT.sIx_nat]
  by_cases h : k ≤ l.length
  · rw [Nat.min_eq_left h, List.take_of_length_le (by rw [List.length_drop]; exact Nat.le_refl _)]
  · rw [Nat.min_eq_right (by omega), List.drop_length, List.drop_eq_nil_of_le (by omega), List.take_nil]
theorem sl_mid {α : Type} (l : List α) (j k : Nat) : sl l (some (j : Int)) (some (k : Int)) = (l.take k).drop j := by
  unfold sl
  rw [HT.sIx_nat, HT.sIx_nat, List.drop_take]
  by_cases hj : j ≤ l.length
  · rw [Nat.min_eq_left hj]
    by_cases hk : k ≤ l.length
    · rw [Nat.min_eq_left hk]
    · rw [show min k l.length = l.length by omega, List.take_of_length_le (by rw [List.length_drop]; omega), List.take_of_length_le (by rw [List.length_drop]; omega)]
  · rw [show min j l.length = l.length by omega, List.drop_length, List.drop_eq_nil_of_le (by omega), List.take_nil, List.take_nil]
theorem sl_all {α : Type} (l : List α) : sl l none none = l := by
  unfold sl
  rw [HT.sIx_none, HT.sIx_none, List.drop_zero, Nat.sub_zero, List.take_length]
theorem sl_last {α : Type} (l : List α) : sl l (some (-1)) none = l.drop (l.length - 1) := by
  unfold sl
  rw [HT.sIx_none]
  have e : HT.sIx l.length 0 (some (-1)) = l.length - 1 := by
    show (if (-1 : Int) < 0 then ((-1 : Int) + (l.length : Int)).toNat else min (-1 : Int).toNat l.length) = _
    rw [if_pos (by decide)]
    omega
  rw [e, List.take_of_length_le (by rw [List.length_drop]; omega)]
theorem sl_but {α : Type} (l : List α) : sl l none (some (-1)) = l.dropLast := by
  unfold sl
  rw [HT.sIx_none, List.drop_zero, Nat.sub_zero]
  have e : HT.sIx l.length l.length (some (-1)) = l.length - 1 := by
    show (if (-1 : Int) < 0 then ((-1 : Int) + (l.length : Int)).toNat else min (-1 : Int).toNat l.length) = _
    rw [if_pos (by decide)]
    omega
  rw [e, List.dropLast_eq_take]
theorem cutS_S (l : List Nat) (lo hi : Option Int) : cutS (S l) lo hi = S (sl l lo hi) := S_sl l lo hi
theorem sl_le {α : Type} (l : List α) (lo hi : Option Int) : (sl l lo hi).length ≤ l.length := by
  unfold sl
  rw [List.length_take, List.length_drop]
  omega
section
variable {X : Cx}
theorem pe_strS {x : Str} {l : List Nat} {j : Nat} {pos : Pos} (h : x = S l) : PE X (.Constant (.str x) j pos) (tC (.str (S l))) := by
  subst h; exact pe_str
def rAddS2 : R2 := fun x y H Q => ∃ a b : List Nat, x = .str (S a) ∧ y = .str (S b) ∧ a.length + b.length ≤ 16777216 ∧ Q (.str (S (a ++ b))) H
theorem op_addS : OpR X (binaryOp .Add) rAddS2 := fun pins s σ H x y v u Q I rx ry h => by
  obtain ⟨a, b, rfl, rfl, hz, q⟩ := h
  refine op_add_str pins s σ H _ _ v u Q I rx ry ⟨_, _, rfl, rfl, ?_, ?_⟩
  · rw [S_len, S_len]; exact sz hz
  · rw [S_app]; exact q
theorem ip_addS : PIp X .Add rAddS2 := fun pins s σ H x y v u Q I rx ry h => by
  obtain ⟨a, b, rfl, rfl, hz, q⟩ := h
  refine iop_add_str pins s σ H _ _ v u Q I rx ry ⟨_, _, rfl, rfl, ?_, ?_⟩
  · rw [S_len, S_len]; exact sz hz
  · rw [S_app]; exact q
def rMulS2 : R2 := fun x y H Q => ∃ (c : Nat) (i : Int), x = .str (S [c]) ∧ y = .int i ∧ -1000000 < i ∧ i < 1000000 ∧ Q (.str (S (List.replicate i.toNat c))) H
theorem op_mulS : OpR X (binaryOp .Mult) rMulS2 := fun pins s σ H x y v u Q I rx ry h => by
  obtain ⟨c, i, rfl, rfl, lo, hi, q⟩ := h
  exact op_mul_str pins s σ H _ _ v u Q I rx ry ⟨_, _, rfl, rfl, rfl, lo, hi, q⟩
def rLenS2 : List V → Hp → VK → Prop := fun xs H Q => ∃ l : List Nat, xs = [.str (S l)] ∧ l.length ≤ 16777216 ∧ Q (.int (l.length : Nat)) H
theorem call_lenS : CallR X (.builtin "len") rLenS2 := fun pins s σ H xs us Q I r h => by
  obtain ⟨l, rfl, hz, q⟩ := h
  refine call_len_str pins s σ H _ us Q I r ⟨_, rfl, ?_, ?_⟩
  · rw [S_len]; exact sz hz
  · rw [S_len]; exact q
def rStrN : List V → Hp → VK → Prop := fun xs H Q => ∃ n : Nat, xs = [.int (n : Int)] ∧ n < 10 ^ 10 ∧ Q (.str (S (dig n))) H
theorem call_strN : CallR X (.type "str") rStrN := fun pins s σ H xs us Q I r h => by
  obtain ⟨n, rfl, hn, q⟩ := h
  refine call_str_int pins s σ H _ us Q I r ⟨_, rfl, ?_, ?_⟩
  · have e : ((n : Int)).natAbs = n := rfl
    rw [e]
    by_cases h0 : n = 0
    · subst h0; decide
    · rw [Nat.log2_lt h0]
      exact Nat.lt_of_lt_of_le hn (Nat.le_trans (show 10 ^ 10 ≤ 2 ^ 64 by decide) (Nat.pow_le_pow_right (by decide : 0 < 2) (by decide : 64 ≤ 1920)))
  · have := dig_str n
    rw [← this] at q
    exact q
def rIntS : List V → Hp → VK → Prop := fun xs H Q => ∃ l : List Nat, xs = [.str (S l)] ∧ (∀ c ∈ l, 48 ≤ c ∧ c ≤ 57) ∧ l ≠ [] ∧ l.length ≤ 600 ∧ Q (.int (PySem.NumText.digitsVal l : Nat)) H
theorem call_intS : CallR X (.type "int") rIntS := fun pins s σ H xs us Q I r h => by
  obtain ⟨l, rfl, h1, h2, h3, q⟩ := h
  exact call_int_str pins s σ H _ us Q I r ⟨_, _, rfl, int_fig h1 h2 h3, by rw [S_len]; omega, q⟩
def rSlS2 : V → Option Int → Option Int → Hp → VK → Prop := fun x lo hi H Q => ∃ l : List Nat, x = .str (S l) ∧ l.length ≤ 16777216 ∧ Q (.str (S (sl l lo hi))) H
theorem sl_strS : SlR X rSlS2 := fun pins s σ H x v vl vu lo hi q0 Q I rx hs pl pu h => by
  obtain ⟨l, rfl, hz, q⟩ := h
  refine sl_str pins s σ H _ v vl vu lo hi q0 Q I rx hs pl pu ⟨_, rfl, ?_, ?_⟩
  · rw [S_len]; exact sz hz
  · rw [cutS_S]; exact q
def rInS2 (neg : Bool) : R2 := fun x y H Q => ∃ (c : Nat) (l : List Nat), x = .str (S [c]) ∧ y = .str (S l) ∧ Q (.bl (if neg then !decide (c ∈ l) else decide (c ∈ l))) H
theorem op_inS2 : OpR X (compareOp .In) (rInS2 false) := fun pins s σ H x y v u Q I rx ry h => by
  obtain ⟨c, l, rfl, rfl, q⟩ := h
  refine op_in_sign pins s σ H _ _ v u Q I rx ry ⟨c, S l, rfl, rfl, ?_⟩
  rw [S_cps]; exact q
theorem op_notInS2 : OpR X (compareOp .NotIn) (rInS2 true) := fun pins s σ H x y v u Q I rx ry h => by
  obtain ⟨c, l, rfl, rfl, q⟩ := h
  refine op_notIn_sign pins s σ H _ _ v u Q I rx ry ⟨c, S l, rfl, rfl, ?_⟩
  rw [S_cps]; exact q
def rEqS (neg : Bool) : R2 := fun x y H Q => ∃ a b : List Nat, x = .str (S a) ∧ y = .str (S b) ∧ Q (.bl (if neg then !decide (a = b) else decide (a = b))) H
theorem eqS_dec (a b : List Nat) : decide (V.str (S a) = V.str (S b)) = decide (a = b) := decide_eq_decide.mpr ⟨fun e => S_inj.mp (V.str.inj e), fun e => by rw [e]⟩
theorem op_eqS : OpR X (compareOp .Eq) (rEqS false) := fun pins s σ H x y v u Q I rx ry h => by
  obtain ⟨a, b, rfl, rfl, q⟩ := h
  refine op_eq pins s σ H _ _ v u Q I rx ry ⟨rfl, ?_⟩
  rw [eqS_dec]; exact q
theorem op_neS : OpR X (compareOp .NotEq) (rEqS true) := fun pins s σ H x y v u Q I rx ry h => by
  obtain ⟨a, b, rfl, rfl, q⟩ := h
  refine op_ne pins s σ H _ _ v u Q I rx ry ⟨rfl, ?_⟩
  rw [eqS_dec]; exact q
def rIxS2 : R2 := fun x y H Q => ∃ (l : List Nat) (i : Int) (c : Nat), x = .str (S l) ∧ y = .int i ∧ l.length ≤ 16777216 ∧ atI l i = some c ∧ Q (.str (S [c])) H
theorem ix_strS : IxR X rIxS2 := fun value slice pins s σ H x y v u Q I rx ry h hs => by
  obtain ⟨l, i, c, rfl, rfl, hz, he, q⟩ := h
  exact ix_str value slice pins s σ H _ _ v u Q I rx ry ⟨S l, i, c, rfl, rfl, by rw [S_len]; exact sz hz, by rw [S_cps]; exact he, q⟩ hs
def rLeS : R2 := fun x y H Q => ∃ a b : List Nat, x = .str (S a) ∧ y = .str (S b) ∧ Q (.bl (!decide (b < a))) H
theorem op_leS : OpR X (compareOp .LtE) rLeS := fun pins s σ H x y v u Q I rx ry h => by
  obtain ⟨a, b, rfl, rfl, q⟩ := h
  refine op_le_str pins s σ H _ _ v u Q I rx ry ⟨_, _, rfl, rfl, ?_⟩
  rw [S_cps, S_cps]; exact q
theorem op_geS : OpR X (compareOp .GtE) (fun x y H Q => ∃ a b : List Nat, x = .str (S a) ∧ y = .str (S b) ∧ Q (.bl (!decide (a < b))) H) := fun pins s σ H x y v u Q I rx ry h => by
  obtain ⟨a, b, rfl, rfl, q⟩ := h
  refine op_ge_str pins s σ H _ _ v u Q I rx ry ⟨_, _, rfl, rfl, ?_⟩
  rw [S_cps, S_cps]; exact q
end
theorem str_app_cps (a b : Str) : (a ++ b).cps.toList = a.cps.toList ++ b.cps.toList := by
  rw [S_of a, S_of b, S_app, S_cps, S_cps, S_cps]
theorem join_nil : ∀ ls : List (List Nat), Str.join (S []) (ls.map S) = S ls.flatten
  | [] => rfl
  | [l] => by
    show S l = S (l ++ [])
    rw [List.append_nil]
  | l :: m :: r => by
    have ih := join_nil (m :: r)
    show S l ++ S [] ++ Str.join (S []) ((m :: r).map S) = _
    rw [ih, S_app, S_app, List.append_nil]
    all_goals rfl
theorem sum_lens (ls : List (List Nat)) : ((ls.map S).map (·.length)).sum = ls.flatten.length := by
  rw [List.length_flatten, List.map_map]
  rfl
section
variable {X : Cx}
/-- "".join of a list of texts -/
def rJoinS (K : PySem.W.Frag) : V → List V → Hp → VK → Prop := fun x xs H Q => ∃ (p : Addr) (ls : List (List Nat)), x = .str (S []) ∧ xs = [.ref p] ∧ SqL K H p (ls.map fun l => V.str (S l)) ∧ ls.flatten.length ≤ 16777216 ∧ Q (.str (S ls.flatten)) H
theorem mt_joinS : MtR X "str.join" (rJoinS X.K) := fun pins s σ H x xs v us Q I rx rs h => by
  obtain ⟨p, ls, rfl, rfl, hp, hz, q⟩ := h
  refine mt_join pins s σ H _ _ v us Q I rx rs ⟨S [], p, ls.map S, rfl, rfl, .inl ?_, ?_, ?_⟩
  · rw [List.map_map]; exact hp
  · rw [sum_lens, S_len]
    simpa using hz
  · rw [TL.join_eq, join_nil]; exact q
theorem pe_joinS {o e : Expr} {to te : TE} {apos pos : Pos} (ho : PE X o to) (he : PE X e te) (hs : starEach [e] X.env = [(false, eval e X.env)] := by rfl) (hbase : attributeBase o "join" X.env (eval o X.env) = eval o X.env := by rfl) (hline : (apos.endLine == pos.line) = true := by rfl) :
    PE X (.Call (.Attribute o "join" apos) [e] [] pos) (tM1 (rJoinS X.K) to te) :=
  pe_m1 F.slot_str_join F.type_str_join mt_joinS ho he hs hbase hline
end
end R
set_option maxRecDepth 100000
set_option maxHeartbeats 4000000
namespace R
open PySem PySem.Spec PyProof.Rows L2 RZ
open PySem.W (Datum)
/-! ### lists of texts that grow -/
def txs (ls : List (List Nat)) : List V := ls.map fun l => V.str (S l)
theorem strs_len (ls : List (List Nat)) : (txs ls).length = ls.length := List.length_map _
theorem strs_app (ls ms : List (List Nat)) : txs (ls ++ ms) = txs ls ++ txs ms := List.map_append
theorem strs_get {ls : List (List Nat)} {i : Nat} {x : V} (h : (txs ls)[i]? = some x) : ∃ l, ls[i]? = some l ∧ x = .str (S l) := by
  unfold txs at h
  rw [List.getElem?_map] at h
  cases e : ls[i]? with
  | none => rw [e] at h; cases h
  | some l => rw [e] at h; exact ⟨l, rfl, (Option.some.inj h).symm⟩
theorem strs_S (ls : List (List Nat)) : txs ls = (ls.map S).map V.str := by
  unfold txs
  rw [List.map_map]
  all_goals rfl
theorem map_S_inj : ∀ {ls ms : List (List Nat)}, ls.map S = ms.map S → ls = ms
  | [], [], _ => rfl
  | [], _ :: _, h => by cases h
  | _ :: _, [], h => by cases h
  | a :: r, b :: t, h => by
    rw [List.map_cons, List.map_cons, List.cons.injEq] at h
    rw [S_inj.mp h.1, map_S_inj h.2]
theorem dp_strs2 {K : PySem.W.Frag} {H : Hp} {a : Addr} {ls : List (List Nat)} (h : SqL K H a (txs ls)) : Dp K H (.ref a) (Datum.toD (ls.map S)) := dp_strsL (by rw [← strs_S]; exact h)
theorem eq_strs {K : PySem.W.Frag} {H : Hp} {a b : Addr} {ls ms : List (List Nat)} {Q : VK} (h1 : SqL K H a (txs ls)) (h2 : SqL K H b (txs ms)) (q : Q (.bl (decide (ls = ms))) H) : rEqP K (.ref a) (.ref b) H Q := by
  refine rEqP_of (dp_strs2 h1) (dp_strs2 h2) ?_
  rw [show decide (ls.map S = ms.map S) = decide (ls = ms) from decide_eq_decide.mpr ⟨map_S_inj, fun e => by rw [e]⟩]
  exact q
theorem ne_strs {K : PySem.W.Frag} {H : Hp} {a b : Addr} {ls ms : List (List Nat)} {Q : VK} (h1 : SqL K H a (txs ls)) (h2 : SqL K H b (txs ms)) (q : Q (.bl (!decide (ls = ms))) H) : rNeP K (.ref a) (.ref b) H Q := by
  refine rNeP_of (dp_strs2 h1) (dp_strs2 h2) ?_
  rw [show decide (ls.map S = ms.map S) = decide (ls = ms) from decide_eq_decide.mpr ⟨map_S_inj, fun e => by rw [e]⟩]
  exact q
/-- a list that was new at H0 has grown to xs; all older is as it was -/
def Grow (H0 : Hp) (p : Addr) (H : Hp) (xs : List V) : Prop := H0 p = none ∧ Same H0 H ∧ H p = some (.lst xs)
section
variable {H0 H H' : Hp} {p q : Addr} {xs ys : List V} {o : HO}
theorem Grow.start (n : H0 p = none) : Grow H0 p (upd H0 p (.lst xs)) xs := ⟨n, same_new n, upd_same⟩
theorem Grow.set (g : Grow H0 p H xs) : Grow H0 p (upd H p (.lst ys)) ys := ⟨g.1, fun b o e => by rw [upd_ne (ne_of_none e g.1)]; exact g.2.1 b o e, upd_same⟩
theorem Grow.new (g : Grow H0 p H xs) (n : H q = none) : Grow H0 p (upd H q o) xs := ⟨g.1, g.2.1.trans (same_new n), by rw [upd_ne (ne_of_none g.2.2 n)]; exact g.2.2⟩
theorem Grow.same (g : Grow H0 p H xs) (s : Same H H') : Grow H0 p H' xs := ⟨g.1, g.2.1.trans s, s _ _ g.2.2⟩
end
theorem ixN_last {α : Type} (xs : List α) (v : α) : ixN (xs ++ [v]).length (-1) = some xs.length := by
  unfold ixN
  rw [if_neg (by decide), List.length_append, if_pos (by rw [List.length_singleton]; omega), List.length_singleton]
  congr 1
  omega
theorem set_last {α : Type} (xs : List α) (v w : α) : (xs ++ [v]).set xs.length w = xs ++ [w] := by
  rw [List.set_append_right _ _ (Nat.le_refl _), Nat.sub_self]
  rfl
section
variable {X : Cx}
/-- list[i], by values -/
theorem pget_list : PGet X (rIxL X.K) := by
  intro pins s σ H x y v u Q I rx ry h
  obtain ⟨p, xs, i, z, rfl, rfl, hq, he, q⟩ := h
  cases rx
  obtain ⟨t, rfl⟩ := ry
  obtain ⟨its, r, pl, hz⟩ := I.list hq
  obtain ⟨j, h1, h2, h3, h4, h5⟩ := atI_get he
  obtain ⟨w, ew, rw'⟩ := r.get h2
  have hl := r.length
  have hn := line63
  have fin : EP X pins σ Q w s := ⟨z, H, I, rw', q⟩
  by_cases h0 : 0 ≤ i
  · have hj : i.toNat = j := by
      rw [seqIndex_of h0 h5] at h1
      exact Option.some.inj h1
    exact wpAny_getItem_list pl.isList h0 (by omega) (by rw [hj]; simpa using ew) fin
  · have hj : (i + (its.toArray.size : Int)).toNat = j := by
      rw [seqIndex_neg (by omega) h4] at h1
      rw [List.size_toArray, ← hl]
      exact Option.some.inj h1
    exact wpAny_getItem_list_neg pl.isList (by omega) (by rw [List.size_toArray] <;> omega) (by omega) (by rw [hj]; simpa using ew) fin
/-- a list's item op= e -/
theorem ps_augL {o i e : Expr} {to ti te : TE} {tip : TIp} {op : Operator} {tpos pos : Pos} (ho : PE X o to) (hi : PE X i ti) (he : PE X e te) (hp : PIp X op tip) (ha : ∀ ov iv new, augStore i ov iv new = (do holding [new, ov, iv] (setItem ov iv new); release [new, ov, iv] []; pure .next) := by intros; rfl) : PS X (.AugAssign (.Subscript o i tpos) op e pos) (tAugS to ti te (rIxL X.K) tip rSetL) := ps_augS ho hi pget_list he hp set_list ha
end
/-! ### within comprehensions: K told from outside -/
theorem call_isiC {X : Cx} {K : PySem.W.Frag} (h : X.K = K) : CallR X (.builtin "isinstance") (rIsi K) := by subst h; exact call_isi
theorem pi_listC {X : Cx} {K : PySem.W.Frag} {tg l : Expr} {tl : TE} (h : X.K = K) (hl : PE X l tl) : PI X tg l (iList K tl) := by subst h; exact pi_list hl
theorem pi_tupC {X : Cx} {K : PySem.W.Frag} {tg l : Expr} {tl : TE} (h : X.K = K) (hl : PE X l tl) : PI X tg l (iTup K tl) := by subst h; exact pi_tup hl
theorem ix_listC {X : Cx} {K : PySem.W.Frag} (h : X.K = K) : IxR X (rIxL K) := by subst h; exact ix_list
theorem ix_tupC {X : Cx} {K : PySem.W.Frag} (h : X.K = K) : IxR X (rIxT K) := by subst h; exact ix_tup
theorem op_eqPC {X : Cx} {K : PySem.W.Frag} (h : X.K = K) (hu : X.A.units + 64 < cLine) : OpR X (compareOp .Eq) (rEqP K) := by subst h; exact op_eqP hu
theorem op_nePC {X : Cx} {K : PySem.W.Frag} (h : X.K = K) (hu : X.A.units + 64 < cLine) : OpR X (compareOp .NotEq) (rNeP K) := by subst h; exact op_neP hu
/-! ### values that may be texts -/
inductive Item (K : PySem.W.Frag) (H : Hp) : V → Option (List Nat) → Prop
  | str (l : List Nat) (h : l.length < 16777216) : Item K H (.str (S l)) (some l)
  | no {x : V} {n : String} (h : Pl K H x n) (hn : (n == "str") = false) : Item K H x none
theorem Item.pl {K : PySem.W.Frag} {H : Hp} {x : V} {r : Option (List Nat)} (h : Item K H x r) : ∃ n, Pl K H x n ∧ (n == "str") = r.isSome := by
  cases h with
  | str l h => exact ⟨"str", .str _, rfl⟩
  | no h hn => exact ⟨_, h, hn⟩
theorem Item.same {K : PySem.W.Frag} {H H' : Hp} {x : V} {r : Option (List Nat)} (h : Item K H x r) (s : Same H H') : Item K H' x r := by
  cases h with
  | str l h => exact .str l h
  | no h hn => exact .no (h.same s) hn
inductive Items (K : PySem.W.Frag) (H : Hp) : List V → List (Option (List Nat)) → Prop
  | nil : Items K H [] []
  | cons {x : V} {xs : List V} {r : Option (List Nat)} {rs : List (Option (List Nat))} (h : Item K H x r) (t : Items K H xs rs) : Items K H (x :: xs) (r :: rs)
theorem Items.len {K : PySem.W.Frag} {H : Hp} : ∀ {xs : List V} {rs : List (Option (List Nat))}, Items K H xs rs → xs.length = rs.length
  | _, _, .nil => rfl
  | _, _, .cons _ t => by rw [List.length_cons, List.length_cons, t.len]
theorem Items.get {K : PySem.W.Frag} {H : Hp} : ∀ {xs : List V} {rs : List (Option (List Nat))} {i : Nat} {x : V}, Items K H xs rs → xs[i]? = some x → ∃ r, rs[i]? = some r ∧ Item K H x r
  | _, _, 0, _, .cons h _, e => by cases e; exact ⟨_, rfl, h⟩
  | _, _, i + 1, _, .cons _ t, e => t.get (i := i) (by simpa using e)
  | _, _, _, _, .nil, e => by simp at e
theorem Items.same {K : PySem.W.Frag} {H H' : Hp} : ∀ {xs : List V} {rs : List (Option (List Nat))}, Items K H xs rs → Same H H' → Items K H' xs rs
  | _, _, .nil, _ => .nil
  | _, _, .cons h t, s => .cons (h.same s) (t.same s)
theorem Items.ofs {K : PySem.W.Frag} {H : Hp} : ∀ {ls : List (List Nat)}, (∀ l ∈ ls, l.length < 16777216) → Items K H (txs ls) (ls.map some)
  | [], _ => .nil
  | l :: r, h => .cons (.str l (h l List.mem_cons_self)) (Items.ofs fun m hm => h m (List.mem_cons_of_mem _ hm))
/-- a value that may be a list of texts -/
inductive Recs (K : PySem.W.Frag) (H : Hp) : V → Option (List (Option (List Nat))) → Prop
  | no {x : V} {n : String} (h : Pl K H x n) (hn : (n == "list") = false) : Recs K H x none
  | lst {a : Addr} {xs : List V} {rs : List (Option (List Nat))} (h : SqL K H a xs) (hi : Items K H xs rs) (hz : xs.length < 16777216) : Recs K H (.ref a) (some rs)
theorem Recs.pl {K : PySem.W.Frag} {H : Hp} {x : V} {r : Option (List (Option (List Nat)))} (h : Recs K H x r) : ∃ n, Pl K H x n ∧ (n == "list") = r.isSome := by
  cases h with
  | no h hn => exact ⟨_, h, hn⟩
  | lst h hi hz => exact ⟨"list", .lst h, rfl⟩
theorem Recs.ofs {K : PySem.W.Frag} {H : Hp} {a : Addr} {ls : List (List Nat)} (h : SqL K H a (txs ls)) (h1 : ls.length < 16777216) (h2 : ∀ l ∈ ls, l.length < 16777216) : Recs K H (.ref a) (some (ls.map some)) := .lst h (.ofs h2) (by rw [strs_len]; exact h1)
/-- [test of the item for item in a list] -/
theorem lc_items {K : PySem.W.Frag} {a : Addr} {xs : List V} {rs : List (Option (List Nat))} {te : TE} {vs : List Nat} {σ : L2.St} {H1 : Hp} {D : Addr} {Qd : Hp → Prop} {i : Nat} (f : Option (List Nat) → Bool) (hS : SqL K H1 a xs) (hi : Items K H1 xs rs) (hz : xs.length < 16777216) (nD : H1 D = none)
    (hw : ∀ x, wipe ((wipe σ vs).set i (some x)) vs = wipe σ vs)
    (hs : ∀ x r H, r ∈ rs → Item K H x r → Same H1 H → ∀ Q : VK, (∀ H2, Same H H2 → Q (.bl (f r)) H2) → te ((wipe σ vs).set i (some x)) H Q)
    (hd : ∀ H, Same H1 H → H D = some (.lst ((rs.map f).map V.bl)) → Qd H) :
    ∃ W : Nat → Nat → Hp → Prop, (∃ m, W 0 m (upd H1 D (.lst []))) ∧ ∀ i' m H, W i' m H →
      ((Itl K a).stop i' H ∧ Qd H) ∨ ((Itl K a).go i' H ∧ ∃ Nx : Hp → Prop, (∀ H', Nx H' → ∃ m', m' < m ∧ W (i' + 1) m' H') ∧ ∀ x H', (Itl K a).yld i' H x H' → (gName i) x (wipe σ vs) H' fun σ2 H2 => wipe σ2 vs = wipe σ vs ∧ tYes σ2 H2 fun b H3 =>
        if b = true then te σ2 H3 fun y H4 => ∃ acc, H4 D = some (.lst acc) ∧ acc.length < sizeLine ∧ Nx (upd H4 D (.lst (acc ++ [y]))) else Nx H3) := by
  refine lc_map (walk_list (xs := xs)) ((rs.map f).map V.bl) (by rw [List.length_map, List.length_map, hi.len]) hz nD yat_same (fun _ s => sql_same hS s) (fun j x H H' y hj hy s1 s1' hY Q q => ?_) hd gName_mono
  obtain ⟨rfl, hx⟩ := hY
  obtain ⟨r, hr, hI⟩ := hi.get hx
  have ey : y = .bl (f r) := by
    rw [List.getElem?_map, List.getElem?_map, hr] at hy
    exact (Option.some.inj hy).symm
  subst ey
  exact ⟨hw x, hs x r H' (List.mem_of_getElem? hr) (hI.same s1') s1' Q q⟩
/-- [text of the text for text in a list of texts] -/
theorem lc_strs {K : PySem.W.Frag} {a : Addr} {ls : List (List Nat)} {te : TE} {vs : List Nat} {σ : L2.St} {H1 : Hp} {D : Addr} {Qd : Hp → Prop} {i : Nat} (f : List Nat → List Nat) (hS : SqL K H1 a (txs ls)) (hz : ls.length < 16777216) (nD : H1 D = none)
    (hw : ∀ x, wipe ((wipe σ vs).set i (some x)) vs = wipe σ vs)
    (hs : ∀ l H, l ∈ ls → Same H1 H → ∀ Q : VK, (∀ H2, Same H H2 → Q (.str (S (f l))) H2) → te ((wipe σ vs).set i (some (.str (S l)))) H Q)
    (hd : ∀ H, Same H1 H → H D = some (.lst (txs (ls.map f))) → Qd H) :
    ∃ W : Nat → Nat → Hp → Prop, (∃ m, W 0 m (upd H1 D (.lst []))) ∧ ∀ i' m H, W i' m H →
      ((Itl K a).stop i' H ∧ Qd H) ∨ ((Itl K a).go i' H ∧ ∃ Nx : Hp → Prop, (∀ H', Nx H' → ∃ m', m' < m ∧ W (i' + 1) m' H') ∧ ∀ x H', (Itl K a).yld i' H x H' → (gName i) x (wipe σ vs) H' fun σ2 H2 => wipe σ2 vs = wipe σ vs ∧ tYes σ2 H2 fun b H3 =>
        if b = true then te σ2 H3 fun y H4 => ∃ acc, H4 D = some (.lst acc) ∧ acc.length < sizeLine ∧ Nx (upd H4 D (.lst (acc ++ [y]))) else Nx H3) := by
  refine lc_map (walk_list (xs := txs ls)) (txs (ls.map f)) (by rw [strs_len, strs_len, List.length_map]) (by rw [strs_len]; exact hz) nD yat_same (fun _ s => sql_same hS s) (fun j x H H' y hj hy s1 s1' hY Q q => ?_) hd gName_mono
  obtain ⟨rfl, hx⟩ := hY
  obtain ⟨l, hl, rfl⟩ := strs_get hx
  have ey : y = .str (S (f l)) := by
    obtain ⟨m, hm, rfl⟩ := strs_get hy
    rw [List.getElem?_map, hl] at hm
    rw [← Option.some.inj hm]
  subst ey
  exact ⟨hw _, hs l H' (List.mem_of_getElem? hl) s1' Q q⟩
/-- [text for text in texts if a test of it] -/
theorem lc_filter {K : PySem.W.Frag} {a : Addr} {ls : List (List Nat)} {tt : TT} {vs : List Nat} {σ : L2.St} {H1 : Hp} {D : Addr} {Qd : Hp → Prop} {i : Nat} (f : List Nat → Bool) (hS : SqL K H1 a (txs ls)) (hz : ls.length < 16777216) (nD : H1 D = none)
    (hw : ∀ x, wipe ((wipe σ vs).set i (some x)) vs = wipe σ vs) (hg : ∀ x, ((wipe σ vs).set i (some x))[i]? = some (some x))
    (hs : ∀ l H, l ∈ ls → Same H1 H → ∀ Q : Bool → Hp → Prop, (∀ H2, Same H H2 → Q (f l) H2) → tt ((wipe σ vs).set i (some (.str (S l)))) H Q)
    (hd : ∀ H, Same H1 H → H D = some (.lst (txs (ls.filter f))) → Qd H) :
    ∃ W : Nat → Nat → Hp → Prop, (∃ m, W 0 m (upd H1 D (.lst []))) ∧ ∀ i' m H, W i' m H →
      ((Itl K a).stop i' H ∧ Qd H) ∨ ((Itl K a).go i' H ∧ ∃ Nx : Hp → Prop, (∀ H', Nx H' → ∃ m', m' < m ∧ W (i' + 1) m' H') ∧ ∀ x H', (Itl K a).yld i' H x H' → (gName i) x (wipe σ vs) H' fun σ2 H2 => wipe σ2 vs = wipe σ vs ∧ tt σ2 H2 fun b H3 =>
        if b = true then tVar i σ2 H3 fun y H4 => ∃ acc, H4 D = some (.lst acc) ∧ acc.length < sizeLine ∧ Nx (upd H4 D (.lst (acc ++ [y]))) else Nx H3) := by
  refine lc_it (walk_list (xs := txs ls)) (fun i H => Same H1 H ∧ H D = some (.lst (txs ((ls.take i).filter f)))) ⟨same_new nD, upd_same⟩ (fun i H _ p => sql_same hS p.1) (fun j x H H' hj p y => ?_) (fun H p => hd H p.1 (by rw [strs_len, List.take_length] at p; exact p.2))
  obtain ⟨rfl, hx⟩ := y
  obtain ⟨l, hl, rfl⟩ := strs_get hx
  rw [strs_len] at hj
  have ht : (ls.take (j + 1)).filter f = (ls.take j).filter f ++ (if f l = true then [l] else []) := by
    rw [List.take_add_one, hl, Option.toList_some, List.filter_append]
    cases hb : f l with
    | true => rw [List.filter_cons_of_pos hb]; rfl
    | false => rw [List.filter_cons_of_neg (by rw [hb]; exact Bool.false_ne_true)]; rfl
  refine ⟨hw _, hs l H' (List.mem_of_getElem? hl) p.1 _ fun H2 s2 => ?_⟩
  have hD2 : H2 D = some (.lst (txs ((ls.take j).filter f))) := s2 _ _ p.2
  cases hb : f l with
  | true =>
    rw [hb, if_pos rfl] at ht
    refine iteT ⟨_, hg _, _, hD2, szl ?_, ?_, ?_⟩
    · rw [strs_len]
      have := List.length_filter_le f (ls.take j)
      rw [List.length_take] at this
      omega
    · intro b o hbo
      rw [upd_ne (ne_of_none hbo nD)]
      exact s2 _ _ (p.1 _ _ hbo)
    · rw [upd_same, ht, strs_app]
      rfl
  | false =>
    rw [hb, if_neg Bool.false_ne_true, List.append_nil] at ht
    refine iteF ⟨p.1.trans s2, ?_⟩
    rw [ht]
    exact hD2
end R
set_option maxRecDepth 100000
set_option maxHeartbeats 4000000
namespace R
open PySem PySem.Spec PyProof.Rows L2 RZ
/-! ### an exception that is kept beyond its suite -/
/-- at a stands an exception of the class at D -/
def KeptE (D a : Addr) : HO := .ext fun h => ∃ oe : Obj, PySem.W.InstAt h a oe D none
theorem keptE_ok {P : Program} {w : World} {H : Hp} {h : Heap} {a D : Addr} {oe : Obj} (i : PySem.W.InstAt h a oe D none) : ObjOk P w H h a (KeptE D a) := by
  refine ⟨⟨oe, i⟩, ⟨oe, i.at_⟩, ?_⟩
  rintro h1 h2 ⟨o, j⟩ k
  refine ⟨o, k o j.at_, j.cls, j.no, ?_⟩
  have q := j.dict
  revert q
  cases o.dict <;> exact id
section
variable {X : Cx} {pins : List (Addr × Obj)} {σ : L2.St} {H : Hp} {s : Shared}
theorem inv_track {a D : Addr} {oe : Obj} {vs : Array Value} (I : Inv X pins σ H s) (i : PySem.W.InstAt s.heap a oe D none) (hd : oe.data = .fields vs) (old : X.s_0.heap.get? a = none) (na : H a = none) (nl : a ≠ X.env.locals)
    (np : ∀ p ∈ X.pn ++ pins, p.1 ≠ a) : Inv X pins σ (upd H a (KeptE D a)) s := by
  have cells : ∀ y c, X.env.cells.lookup y = some c → c ≠ a := by
    rintro y c e rfl
    obtain ⟨v, o, ho, hv⟩ := I.cell y c e
    rw [i.at_] at ho
    cases ho
    rw [hd] at hv
    cases hv
  have un : Un X.fs X.ex X.H_0 (upd H a (KeptE D a)) X.s_0.heap s.heap :=
    { keep := I.base.keep
      slot := I.base.slot
      there := I.base.there
      free := fun b o e n hx => by
        have nb : b ≠ a := by
          rintro rfl
          rw [old] at e
          cases e
        exact (upd_ne nb).trans (I.base.free b o e n hx)
      tups := fun b xs e => (upd_ne (ne_of_none (I.base.tups b xs e) na)).trans (I.base.tups b xs e)
      frzs := fun b o u e => (upd_ne (ne_of_none (I.base.frzs b o u e) na)).trans (I.base.frzs b o u e)
      tbls := fun b ps e => by
        obtain ⟨m, q⟩ := I.base.tbls b ps e
        exact ⟨m, (upd_ne (ne_of_none q na)).trans q⟩ }
  exact
    { ok := I.ok, os := I.os, bare := I.bare, base := un, loc := I.loc, cell := I.cell
      free := (upd_ne nl.symm).trans I.free
      freeC := fun y c e => (upd_ne (cells y c e)).trans (I.freeC y c e)
      pin := fun p hp => ⟨(I.pin p hp).1, (upd_ne (np p hp)).trans (I.pin p hp).2.1, (I.pin p hp).2.2⟩
      hok := HOk.laidN I.hok (fun _ _ e => e) na (keptE_ok i)
      len := I.len }
end
/-- what 'except x as n' wishes, if the exception that it holds is kept: the suite comes to its end -/
def wKeep (K : PySem.W.Frag) (c : Value) (i : Nat) (ts : Addr → TS) (D : Ends) : WX := fun cls d σ H => ∃ C, cls = .ref C ∧ d = none ∧ PySem.W.exmOne K (.ref C) c = some true ∧
  ∀ a, H a = none → ts a { nx := fun σ' H' => H' a = none → D.nx (σ'.set i none) (upd H' a (KeptE C a)), rt := fun _ _ => False } (σ.set i (some (.ref a))) H
section
variable {X : Cx} {x n : Str} {c : Value} {i : Nat} {body rest : List Stmt} {st : Stmt} {np p1 p2 : Pos} {tb : WX → TS} {ts : Addr → TS}
theorem ps_try_keep (hst : X.stack = X.env :: X.outer) (hfm : X.env.frame = some X.env.locals) (hN : X.N.Nodup) (hi : X.N[i]? = some n) (hl : X.env.kindOf n = some .local) (hc : Names X x c) (hex : X.ex = [])
    (hb : ∀ (W : WX) (pn : List (Addr × Obj)) (xe : Value → Shared → Prop), Takes (X.tr pn xe) W → PassesOwn (model X.prog X.w) X.A X.env xe → PSs (X.tr pn xe) body (tb W))
    (hsu : ∀ (a : Addr) (pn : List (Addr × Obj)), PSs (X.suite a pn) (st :: rest) (ts a)) :
    PS X (.Try body [.ExceptHandler (some (.Name x np)) (some n) (st :: rest) p1] [] [] p2) (fun D σ H => tb (wKeep X.K c i ts D) D σ H) := by
  constructor
  intro pins s σ H D I q
  have ok := I.ok
  have fr : X.A.frames = some (X.env :: X.outer) := ok.frames.trans (congrArg some hst)
  apply wpAny_Try_except
  have run := fun xe tk pw => (hb (wKeep X.K c i ts D) (X.pn ++ pins) xe tk pw).run [] s σ H D (I.toTry xe) q
  refine wpAny_mono (run (fun e t₁ => wpAny (model X.prog X.w) X.A (noteFrame e X.env) (fun _ t₂ => wpAny (model X.prog X.w) X.A (setFlight e none) (fun _ t₃ =>
    wpAny (model X.prog X.w) X.A (handleBy e X.env [.ExceptHandler (some (.Name x np)) (some n) (st :: rest) p1]) (SP X pins D) X.xe t₃) X.xe t₂) X.xe t₁) ?caught PassesOwn.looking) ?went (fun _ _ z => z)
  case went =>
    intro f t z
    cases f with
    | next => exact wpAny_execs_nil (let ⟨σ', H', J, r⟩ := z; ⟨σ', H', J.ofTry ok, r⟩)
    | brk => exact (let ⟨σ', H', J, r⟩ := z; ⟨σ', H', J.ofTry ok, r⟩)
    | cont => exact (let ⟨σ', H', J, r⟩ := z; ⟨σ', H', J.ofTry ok, r⟩)
    | ret u => exact (let ⟨v, σ', H', J, e, r⟩ := z; ⟨v, σ', H', J.ofTry ok, e, r⟩)
  case caught =>
    rintro u t ⟨a, B, t0, pins', σ1, H1, cls, d, rfl, J0, ground, up, sky, na, eos, gens, C, rfl, rfl, hexm, hsuite⟩
    have J : Inv X pins σ1 H1 t0 := J0.ofTry ok
    have sky2 : Sky B (X.env :: X.outer) a (Zc (.ref C) none) X.env.locals t.heap := hst ▸ sky
    show wpAny _ X.A (noteFrame (.ref a) X.env) _ _ _
    refine Sky.land Zc.steady fr hfm sky2 fun g fly upg => ?_
    -- where the exception's own object stands
    have seen : ∀ {g' : Heap}, HandSPX.FlyingZ B (X.env :: X.outer) a (Zc (.ref C) none) g' → ∃ (oe : Obj) (vs : Array Value), g'.get? a = some oe ∧ Zc (.ref C) none oe ∧ oe.data = .fields vs ∧ a ∉ frs (X.env :: X.outer) := fun {g'} fl => by
      obtain ⟨oe, vs, e1, e2, e3⟩ := fl.there
      refine ⟨oe, vs, e1, e2, e3, fun hm => ?_⟩
      obtain ⟨_, o', e', no⟩ := fl.2.2.1.mem hm
      rw [e1] at e'
      cases e'
      exact no _ e3
    obtain ⟨oe, vs, at1, z1, dat1, off⟩ := seen fly
    have offL : a ≠ X.env.locals := fun z => off (List.mem_filterMap.mpr ⟨X.env, List.mem_cons_self, hfm.trans (congrArg some z.symm)⟩)
    have offF : a ∉ X.fs := fun hm => by
      obtain ⟨e, he, r⟩ := List.mem_filterMap.mp hm
      exact off (List.mem_filterMap.mpr ⟨e, List.mem_cons_of_mem _ he, r⟩)
    have notB : ∀ o, B.get? a ≠ some o := fun o z => by
      rw [fly.2.1] at z
      cases z
    have old : X.s_0.heap.get? a = none := by
      cases e : X.s_0.heap.get? a with
      | none => rfl
      | some o =>
        obtain ⟨o', e'⟩ := J.base.there a o e (by rw [hex]; exact List.not_mem_nil)
        exact absurd (ground a o' e' (by rw [show X.stack = X.env :: X.outer from hst]; exact off)) (notB o')
    have pinned : ∀ p ∈ X.pn ++ pins, p.1 ≠ a := fun p hp z => by
      obtain ⟨e1, _⟩ := J.pin p hp
      rw [z] at e1
      exact notB _ (ground a _ e1 (by rw [show X.stack = X.env :: X.outer from hst]; exact off))
    have S1 := (J.landed (s' := { t with heap := g }) ground fly.1 (up.trans upg) eos gens).suite at1 dat1 na offL offF
    refine wpAny_handleBy_cons (codeAny_handlers_test ?_) (by intro z; cases z)
    have kind : PySem.W.Looks (model X.prog X.w) g (typeOf (.ref a)) (.ref C) := fun A' Q' E' s' k r => wpAny_typeOf_ref (k _ _ at1) (z1.1.symm ▸ r)
    have asks := (PySem.W.exm_one (M := model X.prog X.w) (S1.kIn) kind hexm)
    have named : ∀ {Q' : Value → Shared → Prop} {E' : Value → Shared → Prop}, Q' c { t with heap := g } → wpAny (model X.prog X.w) (X.A.mark (some (.ref a))) (eval (.Name x np) X.env) Q' E' { t with heap := g } := by
      intro Q' E' r
      rcases hc with ⟨hg, hdb, hm | ⟨hm, hv, hnn⟩⟩
      · exact ld_glob (X := X.suite a ((a, oe) :: (X.pn ++ pins))) S1 hg hm r hdb
      · exact ld_blt (X := X.suite a ((a, oe) :: (X.pn ++ pins))) S1 hg hm hv r hnn hdb
    refine named (asks.here (codeAny_handlers_suite_as (HandSPX.lands_againZ fly fun g2 fly2 up2 => ?_)))
    obtain ⟨oe2, vs2, at2, z2, dat2, _⟩ := seen fly2
    have S2 := (J.landed (s' := { t with heap := g2 }) ground fly2.1 ((up.trans upg).trans up2) eos gens).suite at2 dat2 na offL offF
    refine store_ok (X := X.suite a ((a, oe2) :: (X.pn ++ pins))) (v := .ref a) S2 hN hi (.inl hl) rfl (fun t5 S5 => ?_) (.inr hl)
    refine wpAny_mono ((hsu a _).run [] t5 _ H1 _ S5 (hsuite a na)) (fun f t6 z => ?_) (fun _ _ z => z.elim)
    cases f with
    | ret u => exact (let ⟨_, _, _, _, _, r⟩ := z; r.elim)
    | brk => exact (let ⟨_, _, _, r⟩ := z; r.elim)
    | cont => exact (let ⟨_, _, _, r⟩ := z; r.elim)
    | next =>
      obtain ⟨σ6, H6, S6, r⟩ := z
      obtain ⟨at6, na6, _⟩ := S6.pin (a, oe2) (List.mem_append_left _ List.mem_cons_self)
      have ins : PySem.W.InstAt t6.heap a oe2 C none := by
        refine ⟨at6, z2.1, ?_, ?_⟩
        · unfold PySem.W.notCls
          rw [dat2]
        · rw [z2.2]
          trivial
      exact gone_ok (inv_track (S6.unsuite ok) ins dat2 old na6 offL pinned) hN hi hl fun t7 J7 => ⟨_, _, J7, r na6⟩
end
/-- isinstance(e, c), e kept -/
def rIsK (K : PySem.W.Frag) : List V → Hp → VK → Prop := fun xs H Q => ∃ (a D : Addr) (c : V) (cv : Value) (b : Bool), xs = [.ref a, c] ∧ H a = some (KeptE D a) ∧ ExcC K D ∧ (∀ u, RelV c u → u = cv) ∧ PySem.W.kitOne K (.ref D) cv = some b ∧ Q (.bl b) H
theorem call_isK {X : Cx} : CallR X (.builtin "isinstance") (rIsK X.K) := by
  intro pins s σ H xs us Q I r h
  obtain ⟨a, D, c, cv, b, rfl, ha, hC, hcv, e, q⟩ := h
  obtain ⟨u0, u1, rfl, r0, r1⟩ := vals2 r
  obtain rfl : u0 = Value.ref a := r0
  obtain rfl := hcv _ r1
  obtain ⟨⟨oe, i⟩, _, _⟩ := I.hok a _ ha
  exact PySem.W.kia_one (PySem.W.handS_kitx_exc hC.hg hC.hk hC.hs hC.hd hC.ha hC.hn hC.ht hC.hm) I.kIn i e (fun z => nomatch z) fun tk => ⟨.bl b, H, I.kept (t' := tk) fun _ _ z => z, rfl, q⟩
/-- how often True stands in a list of truths -/
def rCntB (K : PySem.W.Frag) : V → List V → Hp → VK → Prop := fun x xs H Q => ∃ (p : Addr) (bs : List Bool), x = .ref p ∧ xs = [.bl true] ∧ SqL K H p (bs.map V.bl) ∧ Q (.int (bs.count true : Nat)) H
theorem flat_bls : ∀ bs : List Bool, (bs.map V.bl).all flatV = true
  | [] => rfl
  | _ :: r => flat_bls r
theorem cnt_bls {u : Value} : ∀ {bs : List Bool} {us : List Value}, Vals (bs.map V.bl) us → us.countP (eqU (.bl true)) = bs.count true
  | [], _, .nil => rfl
  | b :: r, _, .cons h t => by
    rw [List.countP_cons, cnt_bls (u := u) t, eqU_of h rfl, List.count_cons]
    cases b <;> rfl
theorem mt_cntB {X : Cx} : MtR X "list.count" (rCntB X.K) := by
  rintro pins s σ H x xs v us Q I rx rxs ⟨p, bs, rfl, rfl, hs, q⟩
  obtain rfl : v = Value.ref p := rx
  obtain ⟨u, rfl, ru⟩ := rxs.one
  obtain ⟨its, rv, ⟨o, n, at_, c1, _, c2⟩, _⟩ := I.list hs
  obtain ⟨oc, od, oda, osl⟩ := o
  simp only at c1 c2
  subst c1 c2
  have mem : ∀ y ∈ its.toArray, SeqAt.EqAt X.A.in1 s y u (eqU (.bl true) y) := fun y hy => mem_eqAt (A := X.A.in1) (s := s) ru rfl rv (flat_bls bs) y (by simpa using hy)
  refine call_meets PySem.F.slot_list_count ⟨_, at_, rfl⟩ PySem.F.entry_list_count (PySem.F.args_list_count_2 _ _) (SeqAt.list_countAt p its.toArray n od osl u (eqU (.bl true))) ⟨at_, mem, ?_⟩
  refine ⟨.int (bs.count true : Nat), H, I.tok _, ⟨s.toks, ?_⟩, q⟩
  have e : its.toArray.toList.countP (eqU (.bl true)) = bs.count true := cnt_bls (u := u) rv
  exact congrArg (fun k : Nat => Value.int (k : Int) s.toks) e
/-! ### calls by keywords in a try's body -/
section
variable {X : Cx} {k n : Nat} {f C : Addr} {fd : FuncData} {ps ks : List Str} {sp : Sp} {W : WX} {x : Str} {p pos : Pos} {e : Expr} {es : List Expr} {kws : List Keyword} {t tw : TA} {g : List Value → List Value → List Value} {gV : List V → List V → List V}
theorem pe_callNS (F : FnOk X.prog X.w X.K X.mg X.base (L2.CX X.prog X.w) k f fd ps sp) (hr : Room k X.A) (hg : Gl X x) (hm : X.mg x = some (.ref f)) (hk : PySem.W.keepIn X.K (.ref f) = true) (hb : KBn X.K fd ps n ks g gV) (wt : Takes X W)
    (ha : PA X (e :: es) t) (hw : PK X kws tw) (h1 : (backToKw pos (keywordEach kws X.env)).all (·.1.isSome) = true := by rfl) (h2 : (backToKw pos (keywordEach kws X.env)).filterMap (·.1) = ks := by rfl)
    (h3 : (x == ("__debug__" : Str)) = false := by decide) (h4 : starEach (e :: es) X.env = (false, eval e X.env) :: starEach es X.env := by rfl)
    (h5 : ((backTo pos (starEach (e :: es) X.env)).any (·.1) || (backToKw pos (keywordEach kws X.env)).any (·.1.isNone)) = false := by rfl) :
    PE X (.Call (.Name x p) (e :: es) kws pos) (fun σ H Q => t σ H fun vs H1 => tw σ H1 fun zs H2 => vs.length = n ∧ zs.length = ks.length ∧ sp (gV vs zs) H2 Q (WE W σ)) := by
  constructor
  intro pins s σ H Q I q
  apply wpAny_Call_Name_kw (ld_glob I hg hm ?_ h3)
  refine PySem.W.callWith_KW (h₀ := X.base) I.ok.mod.kin hk h1 (thn (ha.run pos pins s σ H _ I q) ?_) h5 h4
  rintro us s1 ⟨vs, H1, I1, r, q1⟩
  refine thn (hw.run pos pins s1 σ H1 _ I1 q1) ?_
  rintro ws s2 ⟨zs, H2, I2, rz, l1, l2, q2⟩
  rw [h2]
  refine ⟨I2.kIn, wpAny_call (codeAny_mono (F.run X.A X.stack s2 H2 ⟨us, ks.zip ws⟩ (g us ws) (gV vs zs) Q (WE W σ) hr I2.env0 (hb.to s2 us ws I2.kIn (r.length.symm.trans l1) (rz.length.symm.trans l2)) (hb.rel r rz) q2) ?_)⟩
  rintro (er | fl) s3 z
  · exact passAt wt σ pins H2 s2 er s3 I2 z
  · cases fl with
    | ret u => exact I2.after z
    | next => exact z.elim
    | brk => exact z.elim
    | cont => exact z.elim
theorem pe_makeKS (M : Mk X.K C f) (F : FnOk X.prog X.w X.K X.mg X.base (L2.CX X.prog X.w) k f fd ps sp) (hr : Room (k + 1) X.A) (hg : Gl X x) (hm : X.mg x = some (.ref C)) (hb : KBn X.K fd ps (n + 1) ks g gV) (wt : Takes X W)
    (ha : PA X (e :: es) t) (hw : PK X kws tw) (h1 : (backToKw pos (keywordEach kws X.env)).all (·.1.isSome) = true := by rfl) (h2 : (backToKw pos (keywordEach kws X.env)).filterMap (·.1) = ks := by rfl)
    (h3 : (x == ("__debug__" : Str)) = false := by decide) (h4 : starEach (e :: es) X.env = (false, eval e X.env) :: starEach es X.env := by rfl)
    (h5 : ((backTo pos (starEach (e :: es) X.env)).any (·.1) || (backToKw pos (keywordEach kws X.env)).any (·.1.isNone)) = false := by rfl) :
    PE X (.Call (.Name x p) (e :: es) kws pos) (fun σ H Q => t σ H fun vs H1 => tw σ H1 fun zs H2 => vs.length = n ∧ zs.length = ks.length ∧ ∀ o dx, H2 o = none → H2 dx = none → dx ≠ o →
      sp (gV (.ref o :: vs) zs) (upd (upd H2 dx (.own o)) o (.ins C dx [])) (fun v H3 => v = .non ∧ Q (.ref o) H3) (WE W σ)) := by
  constructor
  intro pins s σ H Q I q
  apply wpAny_Call_Name_kw (ld_glob I hg hm ?_ h3)
  refine PySem.W.callWith_KW (h₀ := X.base) I.ok.mod.kin M.kp h1 (thn (ha.run pos pins s σ H _ I q) ?_) h5 h4
  rintro us s1 ⟨vs, H1, I1, r, q1⟩
  refine thn (hw.run pos pins s1 σ H1 _ I1 q1) ?_
  rintro ws s2 ⟨zs, H2, I2, rz, l1, l2, q2⟩
  rw [h2]
  refine ⟨I2.kIn, ?_⟩
  have go := q2 (s2.heap.objs.size + 1) s2.heap.objs.size (I2.hok.fresh (Nat.le_succ _)) (I2.hok.fresh (Nat.le_refl _)) (Nat.ne_of_lt (Nat.lt_succ_self _))
  have J := Inv.made (C := C) I2
  have first : Vals (V.ref (s2.heap.objs.size + 1) :: vs) (Value.ref (s2.heap.objs.size + 1) :: us) := .cons rfl r
  have many : (Value.ref (s2.heap.objs.size + 1) :: us).length = n + 1 := congrArg (· + 1) (r.length.symm.trans l1)
  refine wpAny_call (make_map (f := f) I2.kIn M.makes M.init (beq_iff_eq.mp M.fn) (codeAny_mono (F.run _ X.stack _ _ ⟨Value.ref (s2.heap.objs.size + 1) :: us, ks.zip ws⟩ (g (Value.ref (s2.heap.objs.size + 1) :: us) ws) _ _ (WE W σ)
    (hr.make C us (ks.zip ws)) (J.env0.make C us (ks.zip ws)) (hb.to _ (Value.ref (s2.heap.objs.size + 1) :: us) ws J.kIn many (rz.length.symm.trans l2)) (hb.rel first rz) go) ?_))
  rintro (er | fl) s3 z
  · exact passAt wt σ pins _ _ er s3 J z
  · cases fl with
    | ret u =>
      obtain ⟨v, H', J2, rv, ev, q3⟩ := J.after z
      subst ev
      exact ⟨rv, ⟨V.ref (s2.heap.objs.size + 1), H', J2, rfl, q3⟩⟩
    | next => exact z.elim
    | brk => exact z.elim
    | cont => exact z.elim
end
/-! ### isinstance and except, asked of the classes' own rows -/
section
variable {K : PySem.W.Frag} {D C : Addr} {b : Bool}
theorem kit_ref (self : PySem.W.subIn K (.ref D) (.ref D) = some true) (hs : PySem.W.subIn K (.ref D) (.ref C) = some b) (hi : PySem.W.isClsIn K C = true) (ht : PySem.W.typeIn K (.ref C) = some (.type "type")) : PySem.W.kitOne K (.ref D) (.ref C) = some b := by
  unfold PySem.W.kitOne
  by_cases e : (Value.ref D == Value.ref C) = true
  · rw [if_pos e]
    obtain rfl := Value.ref.inj (beq_iff_eq.mp e)
    exact self.symm.trans hs
  · rw [if_neg e]
    have c : ((PySem.W.clsIn K C).isSome && PySem.W.typeIn K (.ref C) == some (.type "type")) = true := by
      rw [show (PySem.W.clsIn K C).isSome = true from hi, ht]
      rfl
    exact (if_pos c).trans hs
theorem kit_val (hs : PySem.W.subIn K (.ref D) (.type "ValueError") = some true) : PySem.W.kitOne K (.ref D) (.type "ValueError") = some true := by
  unfold PySem.W.kitOne
  rw [if_neg (by intro e; exact nomatch (beq_iff_eq.mp e))]
  show (if PySem.W.kitMeta "ValueError" = true then PySem.W.subIn K (.ref D) (.type "ValueError") else none) = some true
  rw [if_pos (by decide +kernel)]
  exact hs
end
end R
set_option maxRecDepth 100000
set_option maxHeartbeats 4000000
namespace R
open PySem PySem.Spec PyProof.Rows L2 RZ
open PySem.W (Datum)
def topS (i : Nat) : Stmt := PySem.Challenge.pw_reelrows_k02_reels_refused.main.body.getD i (.Pass ⟨0, 0, 0, 0⟩)
abbrev s__wall : Stmt := topS 0
abbrev N__wall : List Str := ["k"]
theorem sc__wall : FnScope ["k"] ["k"] (defScope s__wall) := ⟨rfl, rfl, rfl, by decide +kernel, rfl, by decide +kernel, by decide +kernel⟩
abbrev s_NoFile___init__ : Stmt := inClass (topS 15) 0
abbrev N_NoFile___init__ : List Str := ["self", "number"]
theorem sc_NoFile___init__ : FnScope ["self", "number"] ["self", "number"] (defScope s_NoFile___init__) := ⟨rfl, rfl, rfl, by decide +kernel, rfl, by decide +kernel, by decide +kernel⟩
abbrev s_Kept___init__ : Stmt := inClass (topS 16) 0
abbrev N_Kept___init__ : List Str := ["self", "number"]
theorem sc_Kept___init__ : FnScope ["self", "number"] ["self", "number"] (defScope s_Kept___init__) := ⟨rfl, rfl, rfl, by decide +kernel, rfl, by decide +kernel, by decide +kernel⟩
abbrev s_is_whole : Stmt := topS 18
abbrev N_is_whole : List Str := ["thing", "low", "high"]
theorem sc_is_whole : FnScope ["thing", "low", "high"] ["thing", "low", "high"] (defScope s_is_whole) := ⟨rfl, rfl, rfl, by decide +kernel, rfl, by decide +kernel, by decide +kernel⟩
abbrev s_look_number : Stmt := topS 19
abbrev N_look_number : List Str := ["thing", "low", "high"]
theorem sc_look_number : FnScope ["thing", "low", "high"] ["thing", "low", "high"] (defScope s_look_number) := ⟨rfl, rfl, rfl, by decide +kernel, rfl, by decide +kernel, by decide +kernel⟩
abbrev s_is_name : Stmt := topS 20
abbrev N_is_name : List Str := ["thing", "most", "sign"]
theorem sc_is_name : FnScope ["thing", "most", "sign"] ["thing", "most"] (defScope s_is_name) := ⟨rfl, rfl, rfl, by decide +kernel, rfl, by decide +kernel, by decide +kernel⟩
abbrev s_look_name : Stmt := topS 21
abbrev N_look_name : List Str := ["thing", "most"]
theorem sc_look_name : FnScope ["thing", "most"] ["thing", "most"] (defScope s_look_name) := ⟨rfl, rfl, rfl, by decide +kernel, rfl, by decide +kernel, by decide +kernel⟩
abbrev s_cost : Stmt := topS 28
abbrev N_cost : List Str := ["item"]
theorem sc_cost : FnScope ["item"] ["item"] (defScope s_cost) := ⟨rfl, rfl, rfl, by decide +kernel, rfl, by decide +kernel, by decide +kernel⟩
abbrev s_is_block : Stmt := topS 29
abbrev N_is_block : List Str := ["thing", "sign"]
theorem sc_is_block : FnScope ["thing", "sign"] ["thing"] (defScope s_is_block) := ⟨rfl, rfl, rfl, by decide +kernel, rfl, by decide +kernel, by decide +kernel⟩
abbrev s_Reel___init__ : Stmt := inClass (topS 30) 0
abbrev N_Reel___init__ : List Str := ["self", "serial", "length"]
theorem sc_Reel___init__ : FnScope ["self", "serial", "length"] ["self", "serial", "length"] (defScope s_Reel___init__) := ⟨rfl, rfl, rfl, by decide +kernel, rfl, by decide +kernel, by decide +kernel⟩
abbrev s_Reel_ring : Stmt := inClass (topS 30) 1
abbrev N_Reel_ring : List Str := ["self", "on"]
theorem sc_Reel_ring : FnScope ["self", "on"] ["self", "on"] (defScope s_Reel_ring) := ⟨rfl, rfl, rfl, by decide +kernel, rfl, by decide +kernel, by decide +kernel⟩
abbrev s_Reel_used : Stmt := inClass (topS 30) 2
abbrev N_Reel_used : List Str := ["self", "item"]
theorem sc_Reel_used : FnScope ["self", "item"] ["self"] (defScope s_Reel_used) := ⟨rfl, rfl, rfl, by decide +kernel, rfl, by decide +kernel, by decide +kernel⟩
abbrev s_Reel_is_near_end : Stmt := inClass (topS 30) 3
abbrev N_Reel_is_near_end : List Str := ["self"]
theorem sc_Reel_is_near_end : FnScope ["self"] ["self"] (defScope s_Reel_is_near_end) := ⟨rfl, rfl, rfl, by decide +kernel, rfl, by decide +kernel, by decide +kernel⟩
abbrev s_Reel_put : Stmt := inClass (topS 30) 4
abbrev N_Reel_put : List Str := ["self", "item"]
theorem sc_Reel_put : FnScope ["self", "item"] ["self", "item"] (defScope s_Reel_put) := ⟨rfl, rfl, rfl, by decide +kernel, rfl, by decide +kernel, by decide +kernel⟩
abbrev s_Reel_write : Stmt := inClass (topS 30) 5
abbrev N_Reel_write : List Str := ["self", "block"]
theorem sc_Reel_write : FnScope ["self", "block"] ["self", "block"] (defScope s_Reel_write) := ⟨rfl, rfl, rfl, by decide +kernel, rfl, by decide +kernel, by decide +kernel⟩
abbrev s_Reel_write_mark : Stmt := inClass (topS 30) 6
abbrev N_Reel_write_mark : List Str := ["self"]
theorem sc_Reel_write_mark : FnScope ["self"] ["self"] (defScope s_Reel_write_mark) := ⟨rfl, rfl, rfl, by decide +kernel, rfl, by decide +kernel, by decide +kernel⟩
abbrev s_Reel_read : Stmt := inClass (topS 30) 7
abbrev N_Reel_read : List Str := ["self"]
theorem sc_Reel_read : FnScope ["self"] ["self"] (defScope s_Reel_read) := ⟨rfl, rfl, rfl, by decide +kernel, rfl, by decide +kernel, by decide +kernel⟩
abbrev s_Reel_read_back : Stmt := inClass (topS 30) 8
abbrev N_Reel_read_back : List Str := ["self"]
theorem sc_Reel_read_back : FnScope ["self"] ["self"] (defScope s_Reel_read_back) := ⟨rfl, rfl, rfl, by decide +kernel, rfl, by decide +kernel, by decide +kernel⟩
abbrev s_Reel_rewind : Stmt := inClass (topS 30) 9
abbrev N_Reel_rewind : List Str := ["self"]
theorem sc_Reel_rewind : FnScope ["self"] ["self"] (defScope s_Reel_rewind) := ⟨rfl, rfl, rfl, by decide +kernel, rfl, by decide +kernel, by decide +kernel⟩
abbrev s_Reel_skip : Stmt := inClass (topS 30) 10
abbrev N_Reel_skip : List Str := ["self", "many", "done"]
theorem sc_Reel_skip : FnScope ["self", "many", "done"] ["self", "many"] (defScope s_Reel_skip) := ⟨rfl, rfl, rfl, by decide +kernel, rfl, by decide +kernel, by decide +kernel⟩
abbrev s_Reel_skip_marks : Stmt := inClass (topS 30) 11
abbrev N_Reel_skip_marks : List Str := ["self", "many", "done"]
theorem sc_Reel_skip_marks : FnScope ["self", "many", "done"] ["self", "many"] (defScope s_Reel_skip_marks) := ⟨rfl, rfl, rfl, by decide +kernel, rfl, by decide +kernel, by decide +kernel⟩
abbrev s_Reel_at : Stmt := inClass (topS 30) 12
abbrev N_Reel_at : List Str := ["self"]
theorem sc_Reel_at : FnScope ["self"] ["self"] (defScope s_Reel_at) := ⟨rfl, rfl, rfl, by decide +kernel, rfl, by decide +kernel, by decide +kernel⟩
abbrev s_Reel_content : Stmt := inClass (topS 30) 13
abbrev N_Reel_content : List Str := ["self"]
theorem sc_Reel_content : FnScope ["self"] ["self"] (defScope s_Reel_content) := ⟨rfl, rfl, rfl, by decide +kernel, rfl, by decide +kernel, by decide +kernel⟩
abbrev s_Reel_tear : Stmt := inClass (topS 30) 14
abbrev N_Reel_tear : List Str := ["self", "at"]
theorem sc_Reel_tear : FnScope ["self", "at"] ["self", "at"] (defScope s_Reel_tear) := ⟨rfl, rfl, rfl, by decide +kernel, rfl, by decide +kernel, by decide +kernel⟩
abbrev s_Reel_called : Stmt := inClass (topS 30) 15
abbrev N_Reel_called : List Str := ["self"]
theorem sc_Reel_called : FnScope ["self"] ["self"] (defScope s_Reel_called) := ⟨rfl, rfl, rfl, by decide +kernel, rfl, by decide +kernel, by decide +kernel⟩
abbrev s__law_town : Stmt := topS 32
abbrev N__law_town : List Str := ["_law_script"]
theorem sc__law_town : FnScope ["_law_script"] ["_law_script"] (defScope s__law_town) := ⟨rfl, rfl, rfl, by decide +kernel, rfl, by decide +kernel, by decide +kernel⟩
abbrev s__law_draw : Stmt := topS 33
abbrev N__law_draw : List Str := ["_law_town_here", "_law_many", "_law_row", "_law_at", "_law_cell", "_law_mixed"]
theorem sc__law_draw : FnScope ["_law_town_here", "_law_many", "_law_row", "_law_at", "_law_cell", "_law_mixed"] ["_law_town_here", "_law_many"] (defScope s__law_draw) := ⟨rfl, rfl, rfl, by decide +kernel, rfl, by decide +kernel, by decide +kernel⟩
abbrev s__law_pick : Stmt := topS 34
abbrev N__law_pick : List Str := ["_law_town_here", "_law_some"]
theorem sc__law_pick : FnScope ["_law_town_here", "_law_some"] ["_law_town_here", "_law_some"] (defScope s__law_pick) := ⟨rfl, rfl, rfl, by decide +kernel, rfl, by decide +kernel, by decide +kernel⟩
abbrev s__law_refusal : Stmt := topS 35
abbrev N__law_refusal : List Str := ["_law_caught", "_law_kinds", "_law_words"]
theorem sc__law_refusal : FnScope ["_law_caught", "_law_kinds", "_law_words"] ["_law_caught"] (defScope s__law_refusal) := ⟨rfl, rfl, rfl, by decide +kernel, rfl, by decide +kernel, by decide +kernel⟩
abbrev s__law_made : Stmt := topS 36
abbrev N__law_made : List Str := ["_law_serial", "_law_long", "_law_caught", "e"]
theorem sc__law_made : FnScope ["_law_serial", "_law_long", "_law_caught", "e"] ["_law_serial", "_law_long"] (defScope s__law_made) := ⟨rfl, rfl, rfl, by decide +kernel, rfl, by decide +kernel, by decide +kernel⟩
abbrev s__law_does : Stmt := topS 37
abbrev N__law_does : List Str := ["_law_reel", "_law_kind", "_law_thing"]
theorem sc__law_does : FnScope ["_law_reel", "_law_kind", "_law_thing"] ["_law_reel", "_law_kind", "_law_thing"] (defScope s__law_does) := ⟨rfl, rfl, rfl, by decide +kernel, rfl, by decide +kernel, by decide +kernel⟩
abbrev s__law_asked : Stmt := topS 38
abbrev N__law_asked : List Str := ["_law_reel", "_law_kind", "_law_thing", "_law_caught", "e"]
theorem sc__law_asked : FnScope ["_law_reel", "_law_kind", "_law_thing", "_law_caught", "e"] ["_law_reel", "_law_kind", "_law_thing"] (defScope s__law_asked) := ⟨rfl, rfl, rfl, by decide +kernel, rfl, by decide +kernel, by decide +kernel⟩
abbrev s_law : Stmt := topS 39
abbrev N_law : List Str := ["_law_script", "_law_town_here", "_law_bad", "_law_long", "_law_reel", "_law_extent", "_law_rows", "_law_due"]
theorem sc_law : FnScope ["_law_script", "_law_town_here", "_law_bad", "_law_long", "_law_reel", "_law_extent", "_law_rows", "_law_due"] ["_law_script"] (defScope s_law) := ⟨rfl, rfl, rfl, by decide +kernel, rfl, by decide +kernel, by decide +kernel⟩
structure Txt (K : PySem.W.Frag) (mg : Str → Option Value) where
  Reel : ClsAt K mg "Reel"
  BadNumber : ExcAt K mg "BadNumber"
  Kept : ExcNAt K mg "Kept"
  NoReel : ExcAt K mg "NoReel"
  BadRecord : ExcAt K mg "BadRecord"
  ReelError : ExcAt K mg "ReelError"
  BadName : ExcAt K mg "BadName"
  NoRing : ExcAt K mg "NoRing"
  AtEnd : ExcAt K mg "AtEnd"
  AtStart : ExcAt K mg "AtStart"
  NoFile : ExcNAt K mg "NoFile"
  TooLong : ExcAt K mg "TooLong"
  BadReel : ExcAt K mg "BadReel"
  BadBlock : ExcAt K mg "BadBlock"
  BadLabel : ExcAt K mg "BadLabel"
  BadForm : ExcAt K mg "BadForm"
  _wall : DefAt K mg "_wall" s__wall ["k"]
  is_whole : DefAt K mg "is_whole" s_is_whole ["thing", "low", "high"]
  look_number : DefAt K mg "look_number" s_look_number ["thing", "low", "high"]
  is_name : DefAt K mg "is_name" s_is_name ["thing", "most"]
  look_name : DefAt K mg "look_name" s_look_name ["thing", "most"]
  cost : DefAt K mg "cost" s_cost ["item"]
  is_block : DefAt K mg "is_block" s_is_block ["thing"]
  Reel___init__ : MethKAt K Reel.C "__init__" "Reel.__init__" s_Reel___init__
  Reel_ring : MethAt K Reel.C "ring" "Reel.ring" s_Reel_ring ["self", "on"]
  Reel_used : MethAt K Reel.C "used" "Reel.used" s_Reel_used ["self"]
  Reel_is_near_end : MethAt K Reel.C "is_near_end" "Reel.is_near_end" s_Reel_is_near_end ["self"]
  Reel_put : MethAt K Reel.C "put" "Reel.put" s_Reel_put ["self", "item"]
  Reel_write : MethAt K Reel.C "write" "Reel.write" s_Reel_write ["self", "block"]
  Reel_write_mark : MethAt K Reel.C "write_mark" "Reel.write_mark" s_Reel_write_mark ["self"]
  Reel_read : MethAt K Reel.C "read" "Reel.read" s_Reel_read ["self"]
  Reel_read_back : MethAt K Reel.C "read_back" "Reel.read_back" s_Reel_read_back ["self"]
  Reel_rewind : MethAt K Reel.C "rewind" "Reel.rewind" s_Reel_rewind ["self"]
  Reel_skip : MethAt K Reel.C "skip" "Reel.skip" s_Reel_skip ["self", "many"]
  Reel_skip_marks : MethAt K Reel.C "skip_marks" "Reel.skip_marks" s_Reel_skip_marks ["self", "many"]
  Reel_at : MethAt K Reel.C "at" "Reel.at" s_Reel_at ["self"]
  Reel_content : MethAt K Reel.C "content" "Reel.content" s_Reel_content ["self"]
  Reel_tear : MethAt K Reel.C "tear" "Reel.tear" s_Reel_tear ["self", "at"]
  Reel_called : MethAt K Reel.C "called" "Reel.called" s_Reel_called ["self"]
  _law_town : DefAt K mg "_law_town" s__law_town ["_law_script"]
  _law_draw : DefAt K mg "_law_draw" s__law_draw ["_law_town_here", "_law_many"]
  _law_pick : DefAt K mg "_law_pick" s__law_pick ["_law_town_here", "_law_some"]
  _law_refusal : DefAt K mg "_law_refusal" s__law_refusal ["_law_caught"]
  _law_made : DefAt K mg "_law_made" s__law_made ["_law_serial", "_law_long"]
  _law_does : DefAt K mg "_law_does" s__law_does ["_law_reel", "_law_kind", "_law_thing"]
  _law_asked : DefAt K mg "_law_asked" s__law_asked ["_law_reel", "_law_kind", "_law_thing"]
  law : DefAt K mg "law" s_law ["_law_script"]
  SIGNS : StrAt mg "SIGNS" (S [65, 66, 67, 68, 69, 70, 71, 72, 73, 74, 75, 76, 77, 78, 79, 80, 81, 82, 83, 84, 85, 86, 87, 88, 89, 90, 48, 49, 50, 51, 52, 53, 54, 55, 56, 57])
  GAP : IntAt mg "GAP" 3
  MARK_LONG : IntAt mg "MARK_LONG" 4
  SPARE : IntAt mg "SPARE" 400
  MOST_BLOCK : IntAt mg "MOST_BLOCK" 99
  MOST_LONG : IntAt mg "MOST_LONG" 5000
  z_isinstance : mg "isinstance" = none
  z_int : mg "int" = none
  z_bool : mg "bool" = none
  z_str : mg "str" = none
  z_len : mg "len" = none
  z_all : mg "all" = none
  z_sum : mg "sum" = none
  z_abs : mg "abs" = none
  z_list : mg "list" = none
  z_ValueError : mg "ValueError" = none
  n_Reel_serial : NoAttr K Reel.C "serial"
  n_Reel_length : NoAttr K Reel.C "length"
  n_Reel_ringed : NoAttr K Reel.C "ringed"
  n_Reel_stuff : NoAttr K Reel.C "stuff"
  n_Reel_place : NoAttr K Reel.C "place"
  kb_Reel___init___length : KBn K Reel___init__.d ["self", "serial", "length"] 2 ["length"] (fun us ws => us ++ ws) (fun us ws => us ++ ws)
  xc_BadName : ExcC K BadName.C
  em_BadName : PySem.W.exmOne K (.ref BadName.C) (.ref ReelError.C) = some true
  iv_BadName : PySem.W.kitOne K (.ref BadName.C) (.type "ValueError") = some true
  is_BadName_ReelError : PySem.W.kitOne K (.ref BadName.C) (.ref ReelError.C) = some true
  is_BadName_BadNumber : PySem.W.kitOne K (.ref BadName.C) (.ref BadNumber.C) = some false
  is_BadName_BadName : PySem.W.kitOne K (.ref BadName.C) (.ref BadName.C) = some true
  is_BadName_BadReel : PySem.W.kitOne K (.ref BadName.C) (.ref BadReel.C) = some false
  is_BadName_NoRing : PySem.W.kitOne K (.ref BadName.C) (.ref NoRing.C) = some false
  is_BadName_AtEnd : PySem.W.kitOne K (.ref BadName.C) (.ref AtEnd.C) = some false
  is_BadName_AtStart : PySem.W.kitOne K (.ref BadName.C) (.ref AtStart.C) = some false
  is_BadName_TooLong : PySem.W.kitOne K (.ref BadName.C) (.ref TooLong.C) = some false
  is_BadName_BadForm : PySem.W.kitOne K (.ref BadName.C) (.ref BadForm.C) = some false
  is_BadName_BadRecord : PySem.W.kitOne K (.ref BadName.C) (.ref BadRecord.C) = some false
  is_BadName_BadBlock : PySem.W.kitOne K (.ref BadName.C) (.ref BadBlock.C) = some false
  is_BadName_BadLabel : PySem.W.kitOne K (.ref BadName.C) (.ref BadLabel.C) = some false
  is_BadName_NoReel : PySem.W.kitOne K (.ref BadName.C) (.ref NoReel.C) = some false
  is_BadName_NoFile : PySem.W.kitOne K (.ref BadName.C) (.ref NoFile.C) = some false
  is_BadName_Kept : PySem.W.kitOne K (.ref BadName.C) (.ref Kept.C) = some false
  xc_BadNumber : ExcC K BadNumber.C
  em_BadNumber : PySem.W.exmOne K (.ref BadNumber.C) (.ref ReelError.C) = some true
  iv_BadNumber : PySem.W.kitOne K (.ref BadNumber.C) (.type "ValueError") = some true
  is_BadNumber_ReelError : PySem.W.kitOne K (.ref BadNumber.C) (.ref ReelError.C) = some true
  is_BadNumber_BadNumber : PySem.W.kitOne K (.ref BadNumber.C) (.ref BadNumber.C) = some true
  is_BadNumber_BadName : PySem.W.kitOne K (.ref BadNumber.C) (.ref BadName.C) = some false
  is_BadNumber_BadReel : PySem.W.kitOne K (.ref BadNumber.C) (.ref BadReel.C) = some false
  is_BadNumber_NoRing : PySem.W.kitOne K (.ref BadNumber.C) (.ref NoRing.C) = some false
  is_BadNumber_AtEnd : PySem.W.kitOne K (.ref BadNumber.C) (.ref AtEnd.C) = some false
  is_BadNumber_AtStart : PySem.W.kitOne K (.ref BadNumber.C) (.ref AtStart.C) = some false
  is_BadNumber_TooLong : PySem.W.kitOne K (.ref BadNumber.C) (.ref TooLong.C) = some false
  is_BadNumber_BadForm : PySem.W.kitOne K (.ref BadNumber.C) (.ref BadForm.C) = some false
  is_BadNumber_BadRecord : PySem.W.kitOne K (.ref BadNumber.C) (.ref BadRecord.C) = some false
  is_BadNumber_BadBlock : PySem.W.kitOne K (.ref BadNumber.C) (.ref BadBlock.C) = some false
  is_BadNumber_BadLabel : PySem.W.kitOne K (.ref BadNumber.C) (.ref BadLabel.C) = some false
  is_BadNumber_NoReel : PySem.W.kitOne K (.ref BadNumber.C) (.ref NoReel.C) = some false
  is_BadNumber_NoFile : PySem.W.kitOne K (.ref BadNumber.C) (.ref NoFile.C) = some false
  is_BadNumber_Kept : PySem.W.kitOne K (.ref BadNumber.C) (.ref Kept.C) = some false
  xc_NoRing : ExcC K NoRing.C
  em_NoRing : PySem.W.exmOne K (.ref NoRing.C) (.ref ReelError.C) = some true
  iv_NoRing : PySem.W.kitOne K (.ref NoRing.C) (.type "ValueError") = some true
  is_NoRing_ReelError : PySem.W.kitOne K (.ref NoRing.C) (.ref ReelError.C) = some true
  is_NoRing_BadNumber : PySem.W.kitOne K (.ref NoRing.C) (.ref BadNumber.C) = some false
  is_NoRing_BadName : PySem.W.kitOne K (.ref NoRing.C) (.ref BadName.C) = some false
  is_NoRing_BadReel : PySem.W.kitOne K (.ref NoRing.C) (.ref BadReel.C) = some false
  is_NoRing_NoRing : PySem.W.kitOne K (.ref NoRing.C) (.ref NoRing.C) = some true
  is_NoRing_AtEnd : PySem.W.kitOne K (.ref NoRing.C) (.ref AtEnd.C) = some false
  is_NoRing_AtStart : PySem.W.kitOne K (.ref NoRing.C) (.ref AtStart.C) = some false
  is_NoRing_TooLong : PySem.W.kitOne K (.ref NoRing.C) (.ref TooLong.C) = some false
  is_NoRing_BadForm : PySem.W.kitOne K (.ref NoRing.C) (.ref BadForm.C) = some false
  is_NoRing_BadRecord : PySem.W.kitOne K (.ref NoRing.C) (.ref BadRecord.C) = some false
  is_NoRing_BadBlock : PySem.W.kitOne K (.ref NoRing.C) (.ref BadBlock.C) = some false
  is_NoRing_BadLabel : PySem.W.kitOne K (.ref NoRing.C) (.ref BadLabel.C) = some false
  is_NoRing_NoReel : PySem.W.kitOne K (.ref NoRing.C) (.ref NoReel.C) = some false
  is_NoRing_NoFile : PySem.W.kitOne K (.ref NoRing.C) (.ref NoFile.C) = some false
  is_NoRing_Kept : PySem.W.kitOne K (.ref NoRing.C) (.ref Kept.C) = some false
  xc_AtEnd : ExcC K AtEnd.C
  em_AtEnd : PySem.W.exmOne K (.ref AtEnd.C) (.ref ReelError.C) = some true
  iv_AtEnd : PySem.W.kitOne K (.ref AtEnd.C) (.type "ValueError") = some true
  is_AtEnd_ReelError : PySem.W.kitOne K (.ref AtEnd.C) (.ref ReelError.C) = some true
  is_AtEnd_BadNumber : PySem.W.kitOne K (.ref AtEnd.C) (.ref BadNumber.C) = some false
  is_AtEnd_BadName : PySem.W.kitOne K (.ref AtEnd.C) (.ref BadName.C) = some false
  is_AtEnd_BadReel : PySem.W.kitOne K (.ref AtEnd.C) (.ref BadReel.C) = some false
  is_AtEnd_NoRing : PySem.W.kitOne K (.ref AtEnd.C) (.ref NoRing.C) = some false
  is_AtEnd_AtEnd : PySem.W.kitOne K (.ref AtEnd.C) (.ref AtEnd.C) = some true
  is_AtEnd_AtStart : PySem.W.kitOne K (.ref AtEnd.C) (.ref AtStart.C) = some false
  is_AtEnd_TooLong : PySem.W.kitOne K (.ref AtEnd.C) (.ref TooLong.C) = some false
  is_AtEnd_BadForm : PySem.W.kitOne K (.ref AtEnd.C) (.ref BadForm.C) = some false
  is_AtEnd_BadRecord : PySem.W.kitOne K (.ref AtEnd.C) (.ref BadRecord.C) = some false
  is_AtEnd_BadBlock : PySem.W.kitOne K (.ref AtEnd.C) (.ref BadBlock.C) = some false
  is_AtEnd_BadLabel : PySem.W.kitOne K (.ref AtEnd.C) (.ref BadLabel.C) = some false
  is_AtEnd_NoReel : PySem.W.kitOne K (.ref AtEnd.C) (.ref NoReel.C) = some false
  is_AtEnd_NoFile : PySem.W.kitOne K (.ref AtEnd.C) (.ref NoFile.C) = some false
  is_AtEnd_Kept : PySem.W.kitOne K (.ref AtEnd.C) (.ref Kept.C) = some false
  xc_AtStart : ExcC K AtStart.C
  em_AtStart : PySem.W.exmOne K (.ref AtStart.C) (.ref ReelError.C) = some true
  iv_AtStart : PySem.W.kitOne K (.ref AtStart.C) (.type "ValueError") = some true
  is_AtStart_ReelError : PySem.W.kitOne K (.ref AtStart.C) (.ref ReelError.C) = some true
  is_AtStart_BadNumber : PySem.W.kitOne K (.ref AtStart.C) (.ref BadNumber.C) = some false
  is_AtStart_BadName : PySem.W.kitOne K (.ref AtStart.C) (.ref BadName.C) = some false
  is_AtStart_BadReel : PySem.W.kitOne K (.ref AtStart.C) (.ref BadReel.C) = some false
  is_AtStart_NoRing : PySem.W.kitOne K (.ref AtStart.C) (.ref NoRing.C) = some false
  is_AtStart_AtEnd : PySem.W.kitOne K (.ref AtStart.C) (.ref AtEnd.C) = some false
  is_AtStart_AtStart : PySem.W.kitOne K (.ref AtStart.C) (.ref AtStart.C) = some true
  is_AtStart_TooLong : PySem.W.kitOne K (.ref AtStart.C) (.ref TooLong.C) = some false
  is_AtStart_BadForm : PySem.W.kitOne K (.ref AtStart.C) (.ref BadForm.C) = some false
  is_AtStart_BadRecord : PySem.W.kitOne K (.ref AtStart.C) (.ref BadRecord.C) = some false
  is_AtStart_BadBlock : PySem.W.kitOne K (.ref AtStart.C) (.ref BadBlock.C) = some false
  is_AtStart_BadLabel : PySem.W.kitOne K (.ref AtStart.C) (.ref BadLabel.C) = some false
  is_AtStart_NoReel : PySem.W.kitOne K (.ref AtStart.C) (.ref NoReel.C) = some false
  is_AtStart_NoFile : PySem.W.kitOne K (.ref AtStart.C) (.ref NoFile.C) = some false
  is_AtStart_Kept : PySem.W.kitOne K (.ref AtStart.C) (.ref Kept.C) = some false
  xc_TooLong : ExcC K TooLong.C
  em_TooLong : PySem.W.exmOne K (.ref TooLong.C) (.ref ReelError.C) = some true
  iv_TooLong : PySem.W.kitOne K (.ref TooLong.C) (.type "ValueError") = some true
  is_TooLong_ReelError : PySem.W.kitOne K (.ref TooLong.C) (.ref ReelError.C) = some true
  is_TooLong_BadNumber : PySem.W.kitOne K (.ref TooLong.C) (.ref BadNumber.C) = some false
  is_TooLong_BadName : PySem.W.kitOne K (.ref TooLong.C) (.ref BadName.C) = some false
  is_TooLong_BadReel : PySem.W.kitOne K (.ref TooLong.C) (.ref BadReel.C) = some false
  is_TooLong_NoRing : PySem.W.kitOne K (.ref TooLong.C) (.ref NoRing.C) = some false
  is_TooLong_AtEnd : PySem.W.kitOne K (.ref TooLong.C) (.ref AtEnd.C) = some false
  is_TooLong_AtStart : PySem.W.kitOne K (.ref TooLong.C) (.ref AtStart.C) = some false
  is_TooLong_TooLong : PySem.W.kitOne K (.ref TooLong.C) (.ref TooLong.C) = some true
  is_TooLong_BadForm : PySem.W.kitOne K (.ref TooLong.C) (.ref BadForm.C) = some false
  is_TooLong_BadRecord : PySem.W.kitOne K (.ref TooLong.C) (.ref BadRecord.C) = some false
  is_TooLong_BadBlock : PySem.W.kitOne K (.ref TooLong.C) (.ref BadBlock.C) = some false
  is_TooLong_BadLabel : PySem.W.kitOne K (.ref TooLong.C) (.ref BadLabel.C) = some false
  is_TooLong_NoReel : PySem.W.kitOne K (.ref TooLong.C) (.ref NoReel.C) = some false
  is_TooLong_NoFile : PySem.W.kitOne K (.ref TooLong.C) (.ref NoFile.C) = some false
  is_TooLong_Kept : PySem.W.kitOne K (.ref TooLong.C) (.ref Kept.C) = some false
end R
set_option maxRecDepth 100000
set_option maxHeartbeats 4000000
namespace R
open PySem PySem.Spec PyProof.Rows L2 RZ
open PySem.W (Datum)
/-! ### the law's draws: some number below the bound; the town's two lists change, nothing else -/
def Town (H : Hp) (t r : Addr) : Prop := ∃ (c : Int) (ns : List Int), H t = some (.lst [.ref r, .int c]) ∧ H r = some (.lst (ns.map V.int)) ∧ 0 < ns.length ∧ ns.length ≤ 63
def But2 (t r : Addr) (H H' : Hp) : Prop := ∀ b o, H b = some o → b ≠ t → b ≠ r → H' b = some o
theorem But2.trans {t r : Addr} {H H1 H2 : Hp} (a : But2 t r H H1) (b : But2 t r H1 H2) : But2 t r H H2 := fun c o h h1 h2 => b c o (a c o h h1 h2) h1 h2
theorem But2.of_same {t r : Addr} {H H' : Hp} (e : Same H H') : But2 t r H H' := fun b o h _ _ => e b o h
theorem Town.same {H H' : Hp} {t r : Addr} (h : Town H t r) (e : Same H H') : Town H' t r := by
  obtain ⟨c, ns, h1, h2, h3, h4⟩ := h
  exact ⟨c, ns, e _ _ h1, e _ _ h2, h3, h4⟩
section
variable {P : Program} {w : World} {K : PySem.W.Frag} {mg : Str → Option Value} {base : Heap}
def sp__law_town (K : PySem.W.Frag) : Sp := fun vs H Q _ => ∃ (a : Addr) (ns : List Int), vs = [.ref a] ∧ SqL K H a (ns.map V.int) ∧ ns.length ≤ 63 ∧
  ∀ t r H', Same H H' → H t = none → H r = none → Town H' t r → Q (.ref t) H'
theorem ok__law_town (T : Txt K mg) : FnOk P w K mg base (L2.CX P w) 1 T._law_town.a T._law_town.d ["_law_script"] (sp__law_town K) := by
  refine T._law_town.F.okX sc__law_town (fun vs H Q E h => ?_) (fun cdv A outer s H vs Q E hr h => ?_)
  · obtain ⟨a, ns, rfl, _⟩ := h
    rfl
  · obtain ⟨a, ns, rfl, hS, hlen, k⟩ := h
    refine ⟨_, (pss_one (ps_ret (pe_lst (pa_cons (pe_ifExp (pt_cmpR (op_neP hr.units) (pv 0) (pe_lst pa_nil) (nomark _)) (pe_callTy call_list_of (by rfl) T.z_list (by decide +kernel) (pa_cons (pv 0) pa_nil)) (pe_lst (pa_cons pe_int pa_nil))) (pa_cons pe_int pa_nil))))), ?_⟩
    refine ⟨_, rfl, Nat.zero_le _, fun p np => ?_⟩
    have s1 := same_new (o := .lst []) np
    refine rNeP_of (dp_intsL (sql_same hS s1)) (dp_intsL (ns := []) (SqL.of upd_same)) ⟨_, rfl, ?_⟩
    refine iteN (fun e => ?_) (fun e => ?_)
    · refine ⟨_, rfl, a, _, rfl, .inl (sql_same hS s1), fun l nl => ?_⟩
      have s2 := s1.trans (same_new (o := .lst (ns.map V.int)) nl)
      refine ⟨(by show 2 ≤ sizeLine; decide), fun t nt => k t l _ (s2.trans (same_new nt)) (s2.free nt) (s1.free nl) ⟨0, ns, upd_same, ?_, ?_, hlen⟩⟩
      · rw [upd_ne (ne_of_none upd_same nt), upd_same]
      · cases ns with
        | nil => exact absurd rfl e
        | cons x r => exact Nat.succ_pos _
    · refine ⟨by decide, fun l nl => ?_⟩
      have s2 := s1.trans (same_new (o := .lst [.int 0]) nl)
      refine ⟨(by show 2 ≤ sizeLine; decide), fun t nt => k t l _ (s2.trans (same_new nt)) (s2.free nt) (s1.free nl) ⟨0, [0], upd_same, ?_, by decide, by decide⟩⟩
      rw [upd_ne (ne_of_none upd_same nt), upd_same]
      all_goals rfl
def sp__law_draw : Sp := fun vs H Q _ => ∃ (t r : Addr) (m : Int), vs = [.ref t, .int m] ∧ Town H t r ∧ 0 < m ∧ m < 1073741824 ∧
  ∀ z H', 0 ≤ z → z < m → But2 t r H H' → Town H' t r → Q (.int z) H'
theorem ok__law_draw (T : Txt K mg) : FnOk P w K mg base (L2.CX P w) 1 T._law_draw.a T._law_draw.d ["_law_town_here", "_law_many"] sp__law_draw := by
  refine T._law_draw.F.okX sc__law_draw (fun vs H Q E h => ?_) (fun cdv A outer s H vs Q E hr h => ?_)
  · obtain ⟨t, r, m, rfl, _⟩ := h
    rfl
  · obtain ⟨t, r, m, rfl, ⟨c, ns, ht, hrr, hpos, hlen⟩, hm, hm2, k⟩ := h
    refine ⟨_, (pss_cons (ps_set (i := 2) sc__law_draw.nd rfl (.inl rfl) (pe_ix ix_list (pv 0) pe_int (fun _ _ => rfl)))
    (pss_cons (ps_asg (pe_op op_add (pe_ix ix_list (pv 0) pe_int (fun _ _ => rfl)) pe_int) (pg_sub (pv 0) pe_int set_list))
    (pss_cons (ps_set (i := 3) sc__law_draw.nd rfl (.inl rfl) (pe_op op_mod (pe_ix ix_list (pv 0) pe_int (fun _ _ => rfl)) (pe_callB call_len_seq (by rfl) T.z_len PySem.boot_len (pa_cons (pv 2) pa_nil))))
    (pss_cons (ps_set (i := 4) sc__law_draw.nd rfl (.inl rfl) (pe_ix ix_list (pv 2) (pv 3) (fun _ _ => rfl)))
    (pss_cons (ps_if (pt_cmpR op_ge (pv 4) pe_int (nomark _))
      (pss_cons (ps_asg (pe_op op_fdiv (pv 4) (pv 1)) (pg_sub (pv 2) (pv 3) set_list))
      (pss_one (ps_ret (pe_op op_mod (pv 4) (pv 1)))))
      pss_nil)
    (pss_cons (ps_set (i := 5) sc__law_draw.nd rfl (.inl rfl) (pe_op op_mod (pe_op op_add (pv 4) (pe_op op_mul pe_int (pe_ix ix_list (pv 0) pe_int (fun _ _ => rfl)))) pe_int))
    (pss_cons (ps_set (i := 5) sc__law_draw.nd rfl (.inl rfl) (pe_op op_mod (pe_op op_pow (pv 5) pe_int) pe_int))
    (pss_one (ps_ret (pe_op op_mod (pe_op op_fdiv (pe_op op_mod (pe_op op_add (pe_op op_mul (pe_op op_fdiv (pv 5) pe_int) pe_int) (pv 5)) pe_int) pe_int) (pv 1))))))))))), ?_⟩
    refine ⟨_, rfl, t, _, 0, _, rfl, rfl, SqL.of ht, rfl, ?_⟩
    refine ⟨_, rfl, t, _, 1, _, rfl, rfl, SqL.of ht, rfl, _, _, rfl, rfl, _, rfl, t, _, 1, 1, rfl, rfl, ht, rfl, ?_⟩
    have ntr : t ≠ r := by
      intro e; subst e
      rw [ht] at hrr
      cases ns with
      | nil => exact absurd hpos (Nat.lt_irrefl _)
      | cons x q => cases hrr
    have ht1 : upd H t (HO.lst [.ref r, .int (c + 1)]) t = some (.lst [.ref r, .int (c + 1)]) := upd_same
    have hr1 : upd H t (HO.lst [.ref r, .int (c + 1)]) r = some (.lst (ns.map V.int)) := by rw [upd_ne ntr.symm]; exact hrr
    have hl0 : (0 : Int) < ((ns.map V.int).length : Int) := by rw [List.length_map]; omega
    refine ⟨_, rfl, t, _, 1, _, rfl, rfl, SqL.of ht1, rfl, _, rfl, r, _, rfl, .inl (SqL.of hr1), _, _, rfl, rfl, hl0, ?_⟩
    have h0 : 0 ≤ (c + 1) % ((ns.map V.int).length : Int) := Int.emod_nonneg _ (by omega)
    have h1 : (c + 1) % ((ns.map V.int).length : Int) < ((ns.map V.int).length : Int) := Int.emod_lt_of_pos _ hl0
    obtain ⟨j, ej⟩ : ∃ j : Nat, (c + 1) % ((ns.map V.int).length : Int) = (j : Int) := ⟨((c + 1) % ((ns.map V.int).length : Int)).toNat, by omega⟩
    have hj : j < ns.length := by rw [List.length_map] at h1 ej; omega
    have gj : (ns.map V.int)[j]? = some (.int ns[j]) := by
      rw [List.getElem?_map, List.getElem?_eq_getElem hj]
      rfl
    refine ⟨_, rfl, _, rfl, r, _, _, _, rfl, rfl, SqL.of hr1, at_of ej gj, ?_⟩
    refine ⟨_, rfl, _, _, rfl, rfl, _, rfl, iteD (fun e => ?_) (fun e => ?_)⟩
    · have ixj : ixN (ns.map V.int).length ((c + 1) % ((ns.map V.int).length : Int)) = some j := by
        rw [ej]
        unfold ixN
        rw [if_pos (by omega), if_pos (by rw [List.length_map]; omega), Int.toNat_natCast]
      refine ⟨_, rfl, _, rfl, _, _, rfl, rfl, ⟨hm, hm2⟩, _, rfl, _, rfl, r, _, _, j, rfl, rfl, hr1, ixj, ?_⟩
      refine ⟨_, rfl, _, rfl, _, _, rfl, rfl, hm, ?_⟩
      refine k _ _ (Int.emod_nonneg _ (by omega)) (Int.emod_lt_of_pos _ hm) (fun b o hb n1 n2 => ?_) ⟨c + 1, ns.set j (ns[j] / m), ?_, ?_, ?_, ?_⟩
      · rw [upd_ne n2, upd_ne n1]; exact hb
      · rw [upd_ne ntr]; exact ht1
      · rw [upd_same, List.map_set]
      · rw [List.length_set]; exact hpos
      · rw [List.length_set]; exact hlen
    · refine ⟨_, rfl, _, rfl, t, _, 1, _, rfl, rfl, SqL.of ht1, rfl, _, _, rfl, rfl, .inl ⟨by decide, by decide⟩, _, _, rfl, rfl, _, _, rfl, rfl, (show (0 : Int) < 4294967291 by decide), ?_⟩
      have b0 : 0 ≤ (ns[j] + 104729 * (c + 1)) % 4294967291 := Int.emod_nonneg _ (by decide)
      have b1 : (ns[j] + 104729 * (c + 1)) % 4294967291 < 4294967291 := Int.emod_lt_of_pos _ (by decide)
      refine ⟨_, rfl, _, _, rfl, rfl, ⟨by decide, by decide, by omega⟩, _, _, rfl, rfl, (show (0 : Int) < 4294967279 by decide), ?_⟩
      generalize ((ns[j] + 104729 * (c + 1)) % 4294967291) ^ (5 : Int).toNat = q
      have c0 : 0 ≤ q % 4294967279 := Int.emod_nonneg _ (by decide)
      have c1 : q % 4294967279 < 4294967279 := Int.emod_lt_of_pos _ (by decide)
      refine ⟨_, rfl, _, _, rfl, rfl, ⟨by decide, by decide⟩, _, _, rfl, rfl, .inr ⟨by decide, by decide⟩, _, rfl, _, _, rfl, rfl, _, _, rfl, rfl, (show (0 : Int) < 4294967231 by decide), _, _, rfl, rfl, ⟨by decide, by decide⟩, _, rfl, _, _, rfl, rfl, hm, ?_⟩
      exact k _ _ (Int.emod_nonneg _ (by omega)) (Int.emod_lt_of_pos _ hm) (fun b o hb n1 n2 => by rw [upd_ne n1]; exact hb) ⟨c + 1, ns, ht1, hr1, hpos, hlen⟩
theorem sql_but2 {t r l : Addr} {H H' : Hp} {xs : List V} (h : SqL K H l xs) (n1 : l ≠ t) (n2 : l ≠ r) (k : But2 t r H H') : SqL K H' l xs := by
  rcases h with (h | ⟨o, h⟩) | h
  · exact .inl (.inl (k _ _ h n1 n2))
  · exact .inl (.inr ⟨o, k _ _ h n1 n2⟩)
  · exact .inr h
def sp__law_pick (K : PySem.W.Frag) : Sp := fun vs H Q _ => ∃ (t r l : Addr) (xs : List V), vs = [.ref t, .ref l] ∧ Town H t r ∧ SqL K H l xs ∧ l ≠ t ∧ l ≠ r ∧ 0 < xs.length ∧ xs.length < 1000 ∧
  ∀ (j : Nat) (v : V) (H' : Hp), xs[j]? = some v → But2 t r H H' → Town H' t r → Q v H'
theorem ok__law_pick (T : Txt K mg) : FnOk P w K mg base (L2.CX P w) 2 T._law_pick.a T._law_pick.d ["_law_town_here", "_law_some"] (sp__law_pick K) := by
  refine T._law_pick.F.okX sc__law_pick (fun vs H Q E h => ?_) (fun cdv A outer s H vs Q E hr h => ?_)
  · obtain ⟨t, r, l, xs, rfl, _⟩ := h
    rfl
  · obtain ⟨t, r, l, xs, rfl, hT, hl, n1, n2, hpos, hlen, k⟩ := h
    refine ⟨_, (pss_one (ps_ret (pe_ix ix_list (pv 1) (pe_call (ok__law_draw T) (hr.mono (by decide)) (by rfl) T._law_draw.g T._law_draw.F.kp T._law_draw.b .nil passL (pa_cons (pv 0) (pa_cons (pe_callB call_len_seq (by rfl) T.z_len PySem.boot_len (pa_cons (pv 1) pa_nil)) pa_nil))) (fun _ _ => rfl)))), ?_⟩
    refine ⟨_, rfl, _, rfl, _, rfl, _, _, rfl, .inl hl, t, r, _, rfl, hT, by omega, by omega, fun z H' h0 h1 kb hT' => ?_⟩
    obtain ⟨j, ej⟩ : ∃ j : Nat, z = (j : Int) := ⟨z.toNat, by omega⟩
    have hj : j < xs.length := by omega
    exact ⟨l, _, _, xs[j], rfl, rfl, sql_but2 hl n1 n2 kb, at_of ej (List.getElem?_eq_getElem hj), k j _ _ (List.getElem?_eq_getElem hj) kb hT'⟩
end
end R
set_option maxRecDepth 100000
set_option maxHeartbeats 4000000
namespace R
open PySem PySem.Spec PyProof.Rows L2 RZ
open PySem.W (Datum)
def isWhole (x : V) (lo hi : Int) : Bool := match x with
  | .int i => decide (lo ≤ i) && decide (i ≤ hi)
  | _ => false
def sigL : List Nat := [65, 66, 67, 68, 69, 70, 71, 72, 73, 74, 75, 76, 77, 78, 79, 80, 81, 82, 83, 84, 85, 86, 87, 88, 89, 90, 48, 49, 50, 51, 52, 53, 54, 55, 56, 57]
def nameL (l : List Nat) (m : Int) : Bool := decide (1 ≤ (l.length : Int)) && decide ((l.length : Int) ≤ m) && l.all fun c => decide (c ∈ sigL)
def isName (x : V) (m : Int) : Bool := match x with
  | .str z => nameL z.cps.toList m
  | _ => false
theorem isName_S (l : List Nat) (m : Int) : isName (.str (S l)) m = nameL l m := by
  show nameL (S l).cps.toList m = nameL l m
  rw [S_cps]
/-- a text's size is bounded -/
def Sz (x : V) : Prop := match x with
  | .str z => z.length < 16777216
  | _ => True
theorem all_id_map (l : List Nat) (f : Nat → Bool) : (l.map f).all id = l.all f := by
  rw [List.all_map]
  rfl
theorem len_cps (z : Str) : z.cps.toList.length = z.length := by simp [Str.length]
section
variable {P : Program} {w : World} {K : PySem.W.Frag} {mg : Str → Option Value} {base : Heap}
def sp_is_whole (K : PySem.W.Frag) : Sp := fun vs H Q _ => ∃ (x : V) (n : String) (lo hi : Int), vs = [x, .int lo, .int hi] ∧ Pl K H x n ∧ Q (.bl (isWhole x lo hi)) H
theorem ok_is_whole (T : Txt K mg) : FnOk P w K mg base (L2.CX P w) 1 T.is_whole.a T.is_whole.d ["thing", "low", "high"] (sp_is_whole K) := by
  refine T.is_whole.F.okX sc_is_whole (fun vs H Q E h => ?_) (fun cdv A outer s H vs Q E hr h => ?_)
  · obtain ⟨x, n, lo, hi, rfl, _⟩ := h
    rfl
  · obtain ⟨x, n, lo, hi, rfl, hp, k⟩ := h
    refine ⟨_, (pss_one (ps_ret (pe_and (pe_callB call_isi (by rfl) T.z_isinstance (by decide +kernel) (pa_cons (pv 0) (pa_cons (pe_bltn (v := .ty "int") (by rfl) T.z_int (by decide +kernel) rfl) pa_nil))) (pe_and (pe_not (pe_callB call_isi (by rfl) T.z_isinstance (by decide +kernel) (pa_cons (pv 0) (pa_cons (pe_bltn (v := .ty "bool") (by rfl) T.z_bool (by decide +kernel) rfl) pa_nil)))) (pe_one (pe_chain op_le op_le (pv 1) (pv 0) (pv 2))))))), ?_⟩
    refine ⟨_, rfl, _, _, _, _, _, rfl, .ty _, hp.ty, kit_int hp, _, rfl, ?_⟩
    have stop : ∀ b, isWhole x lo hi = b → Q (.bl b) H := fun b e => by rw [← e]; exact k
    cases hp with
    | int i =>
      refine iteT ⟨_, rfl, _, _, _, _, _, rfl, .ty _, (Pl.int i).ty, kit_bool (Pl.int (K := K) (H := H) i), _, rfl, _, rfl, iteT ?_⟩
      refine ⟨_, rfl, _, rfl, _, _, rfl, rfl, _, rfl, iteD (fun e => ?_) (fun e => ?_)⟩
      · refine ⟨_, rfl, _, _, rfl, rfl, stop _ ?_⟩
        simp [isWhole, e]
      · exact stop _ (by simp [isWhole, e])
    | bl b => exact iteT ⟨_, rfl, _, _, _, _, _, rfl, .ty _, (Pl.bl b).ty, kit_bool (Pl.bl (K := K) (H := H) b), _, rfl, _, rfl, iteF (stop _ rfl)⟩
    | non => exact iteF (stop _ rfl)
    | str z => exact iteF (stop _ rfl)
    | lst h => exact iteF (stop _ rfl)
    | tup h => exact iteF (stop _ rfl)
    | dct h => exact iteF (stop _ rfl)
def sp_look_number (K : PySem.W.Frag) (CN : Addr) : Sp := fun vs H Q E => ∃ (x : V) (n : String) (lo hi : Int), vs = [x, .int lo, .int hi] ∧ Pl K H x n ∧ (isWhole x lo hi = true → Q .non H) ∧ (isWhole x lo hi = false → E (.ref CN) none H)
theorem ok_look_number (T : Txt K mg) : FnOk P w K mg base (L2.CX P w) 2 T.look_number.a T.look_number.d ["thing", "low", "high"] (sp_look_number K T.BadNumber.C) := by
  refine T.look_number.F.okX sc_look_number (fun vs H Q E h => ?_) (fun cdv A outer s H vs Q E hr h => ?_)
  · obtain ⟨x, n, lo, hi, rfl, _⟩ := h
    rfl
  · obtain ⟨x, n, lo, hi, rfl, hp, k1, k2⟩ := h
    refine ⟨_, (pss_one (ps_if (pt_not (pt_val (pe_call (ok_is_whole T) (hr.mono (by decide)) (by rfl) T.is_whole.g T.is_whole.F.kp T.is_whole.b .nil (passes_call (takes_of rfl rfl rfl rfl) (fun _ _ _ _ h => h)) (pa_cons (pv 0) (pa_cons (pv 1) (pa_cons (pv 2) pa_nil))))))
      (pss_one (ps_raise rfl (takes_of rfl rfl rfl rfl) (pmk_own PySem.F.excBase_ValueError T.BadNumber.x T.BadNumber.g T.BadNumber.k (raises_own T.BadNumber.b T.BadNumber.t) (by exact rfl))))
      pss_nil)), ?_⟩
    refine ⟨_, rfl, _, rfl, _, rfl, x, n, lo, hi, rfl, hp, _, rfl, iteNB (fun e => ?_) (fun e => ?_)⟩
    · exact k2 e
    · exact k1 e
def sp_is_name (K : PySem.W.Frag) : Sp := fun vs H Q _ => ∃ (x : V) (n : String) (m : Int), vs = [x, .int m] ∧ Pl K H x n ∧ Sz x ∧ ∀ H', Same H H' → Q (.bl (isName x m)) H'
theorem ok_is_name (T : Txt K mg) : FnOk P w K mg base (L2.CX P w) 1 T.is_name.a T.is_name.d ["thing", "most"] (sp_is_name K) := by
  refine T.is_name.F.okX sc_is_name (fun vs H Q E h => ?_) (fun cdv A outer s H vs Q E hr h => ?_)
  · obtain ⟨x, n, m, rfl, _⟩ := h
    rfl
  · obtain ⟨x, n, m, rfl, hp, hz, k⟩ := h
    refine ⟨_, (pss_one (ps_ret (pe_and (pe_callB call_isi (by rfl) T.z_isinstance (by decide +kernel) (pa_cons (pv 0) (pa_cons (pe_bltn (v := .ty "str") (by rfl) T.z_str (by decide +kernel) rfl) pa_nil))) (pe_and (pe_chain op_le op_le pe_int (pe_callB call_lenS (by rfl) T.z_len PySem.boot_len (pa_cons (pv 0) pa_nil)) (pv 1)) (pe_one (pe_callB (cr_all rfl) (by rfl) T.z_all (by decide +kernel) (pa_cons (pe_lc (own := [("sign", 2)]) (g := gName 2) rfl sc_is_name.nd (pi_str (pv 0)) (blkOk_by (N := N_is_name) (sc := defScope s_is_name) (by decide +kernel)) (fun _ _ _ _ _ => (pg_name (i := 2) sc_is_name.nd rfl (.inl rfl))) (fun _ _ _ _ _ => pts_nil) (fun _ _ _ _ _ => (pe_cmpR op_inS2 (pv 2) (pe_glob (v := .str (S [65, 66, 67, 68, 69, 70, 71, 72, 73, 74, 75, 76, 77, 78, 79, 80, 81, 82, 83, 84, 85, 86, 87, 88, 89, 90, 48, 49, 50, 51, 52, 53, 54, 55, 56, 57])) rfl T.SIGNS.g ⟨_, rfl⟩) (by rfl)))) pa_nil))))))), ?_⟩
    refine ⟨_, rfl, _, _, _, _, _, rfl, .ty _, hp.ty, kit_str hp, _, rfl, ?_⟩
    have stop : ∀ b H', Same H H' → isName x m = b → Q (.bl b) H' := fun b H' sm e => by rw [← e]; exact k _ sm
    cases hp with
    | str z =>
      have hz2 : z.length < 16777216 := hz
      obtain ⟨l, rfl⟩ : ∃ l, z = S l := ⟨_, S_of z⟩
      rw [S_len] at hz2
      refine iteT ⟨_, rfl, l, rfl, by omega, _, _, rfl, rfl, _, rfl, iteD (fun e1 => ?_) (fun e1 => ?_)⟩
      · refine ⟨_, rfl, _, _, rfl, rfl, _, rfl, iteD (fun e2 => ?_) (fun e2 => ?_)⟩
        · refine ⟨_, rfl, _, rfl, fun D nD => lc_signs (z := S l) (fun c => decide (c ∈ sigL)) (by rw [S_len]; exact hz2) nD (fun _ => rfl) (fun c H' hc s1 Q2 q2 => ?_) (fun H' s1 hD => ?_)⟩
          · exact ⟨_, rfl, c, sigL, rfl, rfl, q2 _ (Same.refl _)⟩
          · refine ⟨_, _, rfl, SqL.of hD, ?_⟩
            refine stop _ _ s1 ?_
            rw [all_id_map]
            show nameL _ _ = _
            unfold nameL
            rw [S_cps, decide_eq_true e1, decide_eq_true e2]
            rfl
        · refine stop _ _ (Same.refl _) ?_
          show nameL _ _ = _
          unfold nameL
          rw [S_cps, decide_eq_false e2]
          simp
      · refine ⟨_, rfl, iteF (stop _ _ (Same.refl _) ?_)⟩
        show nameL _ _ = _
        unfold nameL
        rw [S_cps, decide_eq_false e1]
        simp
    | int i => exact iteF (stop _ _ (Same.refl _) rfl)
    | bl b => exact iteF (stop _ _ (Same.refl _) rfl)
    | non => exact iteF (stop _ _ (Same.refl _) rfl)
    | lst h => exact iteF (stop _ _ (Same.refl _) rfl)
    | tup h => exact iteF (stop _ _ (Same.refl _) rfl)
    | dct h => exact iteF (stop _ _ (Same.refl _) rfl)
def sp_look_name (K : PySem.W.Frag) (CN : Addr) : Sp := fun vs H Q E => ∃ (x : V) (n : String) (m : Int), vs = [x, .int m] ∧ Pl K H x n ∧ Sz x ∧ (isName x m = true → ∀ H', Same H H' → Q .non H') ∧ (isName x m = false → ∀ H', Same H H' → E (.ref CN) none H')
theorem ok_look_name (T : Txt K mg) : FnOk P w K mg base (L2.CX P w) 2 T.look_name.a T.look_name.d ["thing", "most"] (sp_look_name K T.BadName.C) := by
  refine T.look_name.F.okX sc_look_name (fun vs H Q E h => ?_) (fun cdv A outer s H vs Q E hr h => ?_)
  · obtain ⟨x, n, m, rfl, _⟩ := h
    rfl
  · obtain ⟨x, n, m, rfl, hp, hz, k1, k2⟩ := h
    refine ⟨_, (pss_one (ps_if (pt_not (pt_val (pe_call (ok_is_name T) (hr.mono (by decide)) (by rfl) T.is_name.g T.is_name.F.kp T.is_name.b .nil (passes_call (takes_of rfl rfl rfl rfl) (fun _ _ _ _ h => h)) (pa_cons (pv 0) (pa_cons (pv 1) pa_nil)))))
      (pss_one (ps_raise rfl (takes_of rfl rfl rfl rfl) (pmk_own PySem.F.excBase_ValueError T.BadName.x T.BadName.g T.BadName.k (raises_own T.BadName.b T.BadName.t) (by exact rfl))))
      pss_nil)), ?_⟩
    refine ⟨_, rfl, _, rfl, x, n, m, rfl, hp, hz, fun H' sm => ⟨_, rfl, iteNB (fun e => ?_) (fun e => ?_)⟩⟩
    · exact k2 e _ sm
    · exact k1 e _ sm
end
end R
set_option maxRecDepth 100000
set_option maxHeartbeats 4000000
namespace R
open PySem PySem.Spec PyProof.Rows L2 RZ
open PySem.W (Datum)
def isForm (l : List Nat) : Bool := decide (l = [70]) || (decide (l = [86]) || decide (l = [83]))
/-- form, block, size fit -/
def okSizes (l : List Nat) (b s : Int) : Bool := !(decide (l = [70]) && decide (b < s) || decide (l = [86]) && decide (b < s + 3))
def okForm (x b s : V) : Bool := match x, b, s with
  | .str z, .int b, .int s => isForm z.cps.toList && (isWhole (.int b) 5 60 && (isWhole (.int s) 1 200 && okSizes z.cps.toList b s))
  | _, _, _ => false
theorem inForms (l : List Nat) : inV (.str (S l)) [.str (S [70]), .str (S [86]), .str (S [83])] = isForm l := by
  have h : ∀ k : List Nat, eqV (.str (S k)) (.str (S l)) = decide (l = k) := by
    intro k
    show (S k == S l) = _
    rw [Bool.eq_iff_iff, beq_iff_eq, decide_eq_true_eq, S_inj]
    exact ⟨fun e => e.symm, fun e => e.symm⟩
  unfold inV isForm
  rw [List.any_cons, List.any_cons, List.any_cons, List.any_nil, h, h, h, Bool.or_false]
theorem whole_int {x : V} {lo hi : Int} (h : isWhole x lo hi = true) : ∃ i, x = .int i ∧ lo ≤ i ∧ i ≤ hi := by
  cases x with
  | int i =>
    have h' : (decide (lo ≤ i) && decide (i ≤ hi)) = true := h
    rw [Bool.and_eq_true, decide_eq_true_eq, decide_eq_true_eq] at h'
    exact ⟨i, rfl, h'⟩
  | _ => exact nomatch h
theorem okForm_iff {x b s : V} (h : okForm x b s = true) : ∃ (l : List Nat) (bi si : Nat), x = .str (S l) ∧ b = .int bi ∧ s = .int si ∧ isForm l = true ∧ 5 ≤ bi ∧ bi ≤ 60 ∧ 1 ≤ si ∧ si ≤ 200 ∧ okSizes l bi si = true := by
  unfold okForm at h
  split at h
  · rename_i z b s
    rw [Bool.and_eq_true, Bool.and_eq_true, Bool.and_eq_true] at h
    obtain ⟨h1, h2, h3, h4⟩ := h
    obtain ⟨i, e, h5, h6⟩ := whole_int h2
    obtain ⟨j, e', h7, h8⟩ := whole_int h3
    cases e
    cases e'
    have eb : ((b.toNat : Nat) : Int) = b := by omega
    have es : ((s.toNat : Nat) : Int) = s := by omega
    exact ⟨z.cps.toList, b.toNat, s.toNat, by rw [← S_of], by rw [eb], by rw [es], h1, by omega, by omega, by omega, by omega, by rw [eb, es]; exact h4⟩
  · exact nomatch h
theorem okForm_of {l : List Nat} {b s : Nat} (h1 : isForm l = true) (h2 : 5 ≤ b ∧ b ≤ 60) (h3 : 1 ≤ s ∧ s ≤ 200) (h4 : okSizes l b s = true) : okForm (.str (S l)) (.int b) (.int s) = true := by
  show (isForm (S l).cps.toList && (isWhole (.int b) 5 60 && (isWhole (.int s) 1 200 && okSizes (S l).cps.toList b s))) = true
  rw [S_cps, h1, h4]
  have e1 : isWhole (.int (b : Int)) 5 60 = true := by
    show (decide (5 ≤ (b : Int)) && decide ((b : Int) ≤ 60)) = true
    rw [decide_eq_true (by omega), decide_eq_true (by omega)]; rfl
  have e2 : isWhole (.int (s : Int)) 1 200 = true := by
    show (decide (1 ≤ (s : Int)) && decide ((s : Int) ≤ 200)) = true
    rw [decide_eq_true (by omega), decide_eq_true (by omega)]; rfl
  rw [e1, e2]; rfl
theorem iteOr {c d : Bool} {A B : Prop} (h1 : (c || d) = true → A) (h2 : (c || d) = false → B) : if c = true then (if true = true then A else B) else (if d = true then A else B) := by
  cases c with
  | true => exact iteT (iteT (h1 rfl))
  | false =>
    cases d with
    | true => exact iteF (iteT (h1 rfl))
    | false => exact iteF (iteF (h2 rfl))
section
variable {P : Program} {w : World} {K : PySem.W.Frag} {mg : Str → Option Value} {base : Heap}
end
end R
set_option maxRecDepth 100000
set_option maxHeartbeats 4000000
namespace R
open PySem PySem.Spec PyProof.Rows L2 RZ
open PySem.W (Datum)
theorem But2.refl {t r : Addr} (H : Hp) : But2 t r H H := fun _ _ h _ _ => h
theorem Town.ne {H : Hp} {t r p : Addr} (h : Town H t r) (n : H p = none) : p ≠ t ∧ p ≠ r := by
  obtain ⟨c, ns, h1, h2, _⟩ := h
  exact ⟨fun e => (by rw [e, h1] at n; cases n), fun e => (by rw [e, h2] at n; cases n)⟩
theorem town_new {H : Hp} {t r p : Addr} {o : HO} (h : Town H t r) (n : H p = none) : Town (upd H p o) t r := h.same (same_new n)
/-- a comprehension whose items draw -/
theorem lc_draw {J : It} {n : Nat} {G : Hp → Prop} {Y : Nat → Hp → V → Hp → Prop} (w : Walk J n G Y) {g : TG} {te : TE} {vs : List Nat} {σ : L2.St} {H1 : Hp} {D t r : Addr} {Qd : Hp → Prop} (R : Nat → V → Prop) (hn : n < 16777216) (nD : H1 D = none) (ht : Town H1 t r)
    (hY : ∀ i H x H', Y i H x H' → Same H H') (hG : ∀ H, But2 t r H1 H → G H)
    (hs : ∀ i x H H', i < n → But2 t r H1 H' → Town H' t r → Y i H x H' → ∀ Q : VK, (∀ y H2, R i y → But2 t r H' H2 → Town H2 t r → Q y H2) → g x (wipe σ vs) H' fun σ2 H2 => wipe σ2 vs = wipe σ vs ∧ te σ2 H2 Q)
    (hd : ∀ xs H, xs.length = n → (∀ i x, xs[i]? = some x → R i x) → But2 t r H1 H → Town H t r → H D = some (.lst xs) → Qd H)
    (hg : ∀ x σ H (R R' : L2.St → Hp → Prop), (∀ σ2 H2, R σ2 H2 → R' σ2 H2) → g x σ H R → g x σ H R') :
    ∃ W : Nat → Nat → Hp → Prop, (∃ m, W 0 m (upd H1 D (.lst []))) ∧ ∀ i m H, W i m H →
      (J.stop i H ∧ Qd H) ∨ (J.go i H ∧ ∃ Nx : Hp → Prop, (∀ H', Nx H' → ∃ m', m' < m ∧ W (i + 1) m' H') ∧ ∀ x H', J.yld i H x H' → g x (wipe σ vs) H' fun σ2 H2 => wipe σ2 vs = wipe σ vs ∧ tYes σ2 H2 fun b H3 =>
        if b = true then te σ2 H3 fun y H4 => ∃ acc, H4 D = some (.lst acc) ∧ acc.length < sizeLine ∧ Nx (upd H4 D (.lst (acc ++ [y]))) else Nx H3) := by
  have nt := ht.ne nD
  refine lc_it w (fun i H => But2 t r H1 H ∧ Town H t r ∧ ∃ xs, xs.length = i ∧ (∀ j x, xs[j]? = some x → R j x) ∧ H D = some (.lst xs)) ⟨But2.of_same (same_new nD), town_new ht nD, [], rfl, fun j x h => by simp at h, upd_same⟩ (fun i H _ p => hG H p.1) (fun i x H H' hi p y => ?_) (fun H p => ?_)
  · obtain ⟨pb, pt, xs, hl, hR, hD⟩ := p
    have sH' := hY _ _ _ _ y
    refine hg _ _ _ _ _ (fun σ2 H2 z => z) (hs i x H H' hi (pb.trans (But2.of_same sH')) (pt.same sH') y _ fun v H2 hv b2 t2 => ?_)
    have hD2 : H2 D = some (.lst xs) := b2 _ _ (sH' _ _ hD) nt.1 nt.2
    refine ⟨xs, hD2, szl (by omega), ?_, ?_, xs ++ [v], by rw [List.length_append, hl]; rfl, ?_, upd_same⟩
    · intro b o hb h1 h2
      rw [upd_ne (ne_of_none hb nD)]
      exact b2 _ _ (sH' _ _ (pb _ _ hb h1 h2)) h1 h2
    · obtain ⟨c, ns, g1, g2, g3, g4⟩ := t2
      exact ⟨c, ns, by rw [upd_ne nt.1.symm]; exact g1, by rw [upd_ne nt.2.symm]; exact g2, g3, g4⟩
    · intro j x hx
      by_cases hj : j < xs.length
      · rw [List.getElem?_append_left hj] at hx
        exact hR j x hx
      · rw [List.getElem?_append_right (by omega)] at hx
        have : j - xs.length = 0 := by
          cases e : j - xs.length with
          | zero => rfl
          | succ q => rw [e] at hx; simp at hx
        rw [this] at hx
        have ej : j = i := by omega
        rw [ej]
        have ex : v = x := Option.some.inj hx
        rw [← ex]
        exact hv
  · obtain ⟨pb, pt, xs, hl, hR, hD⟩ := p
    exact hd xs H hl hR pb pt hD
theorem chars_of {p : Nat → Prop} : ∀ {xs : List V}, (∀ (i : Nat) x, xs[i]? = some x → ∃ c, x = V.str (S [c]) ∧ p c) → ∃ l : List Nat, xs = (l.map fun c => [c]).map (fun l => V.str (S l)) ∧ l.length = xs.length ∧ ∀ c ∈ l, p c
  | [], _ => ⟨[], rfl, rfl, fun c h => by simp at h⟩
  | x :: xs, h => by
    obtain ⟨c, rfl, hc⟩ := h 0 x rfl
    obtain ⟨l, e, hl, hp⟩ := chars_of (xs := xs) fun i x hx => h (i + 1) x hx
    refine ⟨c :: l, by rw [e]; rfl, by simp [hl], fun d hd => ?_⟩
    rcases List.mem_cons.mp hd with rfl | hd
    · exact hc
    · exact hp d hd
theorem flat_chars (l : List Nat) : (l.map fun c => [c]).flatten = l := by
  induction l with
  | nil => rfl
  | cons c r ih => rw [List.map_cons, List.flatten_cons, ih]; rfl
section
variable {P : Program} {w : World} {K : PySem.W.Frag} {mg : Str → Option Value} {base : Heap}
end
end R
set_option maxRecDepth 100000
set_option maxHeartbeats 4000000
namespace R
open PySem PySem.Spec PyProof.Rows L2 RZ
open PySem.W (Datum)
/-! ### the name of a refusal -/
def W14 : List (List Nat) := [[110, 117, 109, 98, 101, 114], [110, 97, 109, 101], [114, 101, 101, 108], [114, 105, 110, 103], [101, 110, 100], [115, 116, 97, 114, 116], [108, 111, 110, 103], [102, 111, 114, 109], [114, 101, 99, 111, 114, 100], [98, 108, 111, 99, 107], [108, 97, 98, 101, 108], [110, 111, 32, 114, 101, 101, 108], [102, 105, 108, 101], [107, 101, 112, 116]]
def bsK (j : Nat) : List Bool := (List.range 14).map fun i => decide (i = j)
theorem bsK_count : ∀ j, j < 14 → (bsK j).count true = 1 := by decide
theorem bsK_at : ∀ j, j < 14 → (bsK j)[j]? = some true ∧ ∀ m, m < j → (bsK j)[m]? = some false := by decide
theorem W14_at : ∀ j, j < 14 → W14[j]? = some (W14.getD j []) := by decide
section
variable {P : Program} {w : World} {K : PySem.W.Frag} {mg : Str → Option Value} {base : Heap}
/-- the class at D is the j-th of the refusals -/
structure IsKind (T : Txt K mg) (D : Addr) (j : Nat) : Prop where
  x : ExcC K D
  k0 : PySem.W.kitOne K (.ref D) (.ref T.BadNumber.C) = some (decide (0 = j))
  k1 : PySem.W.kitOne K (.ref D) (.ref T.BadName.C) = some (decide (1 = j))
  k2 : PySem.W.kitOne K (.ref D) (.ref T.BadReel.C) = some (decide (2 = j))
  k3 : PySem.W.kitOne K (.ref D) (.ref T.NoRing.C) = some (decide (3 = j))
  k4 : PySem.W.kitOne K (.ref D) (.ref T.AtEnd.C) = some (decide (4 = j))
  k5 : PySem.W.kitOne K (.ref D) (.ref T.AtStart.C) = some (decide (5 = j))
  k6 : PySem.W.kitOne K (.ref D) (.ref T.TooLong.C) = some (decide (6 = j))
  k7 : PySem.W.kitOne K (.ref D) (.ref T.BadForm.C) = some (decide (7 = j))
  k8 : PySem.W.kitOne K (.ref D) (.ref T.BadRecord.C) = some (decide (8 = j))
  k9 : PySem.W.kitOne K (.ref D) (.ref T.BadBlock.C) = some (decide (9 = j))
  k10 : PySem.W.kitOne K (.ref D) (.ref T.BadLabel.C) = some (decide (10 = j))
  k11 : PySem.W.kitOne K (.ref D) (.ref T.NoReel.C) = some (decide (11 = j))
  k12 : PySem.W.kitOne K (.ref D) (.ref T.NoFile.C) = some (decide (12 = j))
  k13 : PySem.W.kitOne K (.ref D) (.ref T.Kept.C) = some (decide (13 = j))
  r : PySem.W.kitOne K (.ref D) (.ref T.ReelError.C) = some true
  v : PySem.W.kitOne K (.ref D) (.type "ValueError") = some true
  e : PySem.W.exmOne K (.ref D) (.ref T.ReelError.C) = some true
  lt : j < 14
theorem kind_BadName (T : Txt K mg) : IsKind T T.BadName.C 1 := ⟨T.xc_BadName, T.is_BadName_BadNumber, T.is_BadName_BadName, T.is_BadName_BadReel, T.is_BadName_NoRing, T.is_BadName_AtEnd, T.is_BadName_AtStart, T.is_BadName_TooLong, T.is_BadName_BadForm, T.is_BadName_BadRecord, T.is_BadName_BadBlock, T.is_BadName_BadLabel, T.is_BadName_NoReel, T.is_BadName_NoFile, T.is_BadName_Kept, T.is_BadName_ReelError, T.iv_BadName, T.em_BadName, by decide⟩
theorem kind_BadNumber (T : Txt K mg) : IsKind T T.BadNumber.C 0 := ⟨T.xc_BadNumber, T.is_BadNumber_BadNumber, T.is_BadNumber_BadName, T.is_BadNumber_BadReel, T.is_BadNumber_NoRing, T.is_BadNumber_AtEnd, T.is_BadNumber_AtStart, T.is_BadNumber_TooLong, T.is_BadNumber_BadForm, T.is_BadNumber_BadRecord, T.is_BadNumber_BadBlock, T.is_BadNumber_BadLabel, T.is_BadNumber_NoReel, T.is_BadNumber_NoFile, T.is_BadNumber_Kept, T.is_BadNumber_ReelError, T.iv_BadNumber, T.em_BadNumber, by decide⟩
theorem kind_NoRing (T : Txt K mg) : IsKind T T.NoRing.C 3 := ⟨T.xc_NoRing, T.is_NoRing_BadNumber, T.is_NoRing_BadName, T.is_NoRing_BadReel, T.is_NoRing_NoRing, T.is_NoRing_AtEnd, T.is_NoRing_AtStart, T.is_NoRing_TooLong, T.is_NoRing_BadForm, T.is_NoRing_BadRecord, T.is_NoRing_BadBlock, T.is_NoRing_BadLabel, T.is_NoRing_NoReel, T.is_NoRing_NoFile, T.is_NoRing_Kept, T.is_NoRing_ReelError, T.iv_NoRing, T.em_NoRing, by decide⟩
theorem kind_AtEnd (T : Txt K mg) : IsKind T T.AtEnd.C 4 := ⟨T.xc_AtEnd, T.is_AtEnd_BadNumber, T.is_AtEnd_BadName, T.is_AtEnd_BadReel, T.is_AtEnd_NoRing, T.is_AtEnd_AtEnd, T.is_AtEnd_AtStart, T.is_AtEnd_TooLong, T.is_AtEnd_BadForm, T.is_AtEnd_BadRecord, T.is_AtEnd_BadBlock, T.is_AtEnd_BadLabel, T.is_AtEnd_NoReel, T.is_AtEnd_NoFile, T.is_AtEnd_Kept, T.is_AtEnd_ReelError, T.iv_AtEnd, T.em_AtEnd, by decide⟩
theorem kind_AtStart (T : Txt K mg) : IsKind T T.AtStart.C 5 := ⟨T.xc_AtStart, T.is_AtStart_BadNumber, T.is_AtStart_BadName, T.is_AtStart_BadReel, T.is_AtStart_NoRing, T.is_AtStart_AtEnd, T.is_AtStart_AtStart, T.is_AtStart_TooLong, T.is_AtStart_BadForm, T.is_AtStart_BadRecord, T.is_AtStart_BadBlock, T.is_AtStart_BadLabel, T.is_AtStart_NoReel, T.is_AtStart_NoFile, T.is_AtStart_Kept, T.is_AtStart_ReelError, T.iv_AtStart, T.em_AtStart, by decide⟩
theorem kind_TooLong (T : Txt K mg) : IsKind T T.TooLong.C 6 := ⟨T.xc_TooLong, T.is_TooLong_BadNumber, T.is_TooLong_BadName, T.is_TooLong_BadReel, T.is_TooLong_NoRing, T.is_TooLong_AtEnd, T.is_TooLong_AtStart, T.is_TooLong_TooLong, T.is_TooLong_BadForm, T.is_TooLong_BadRecord, T.is_TooLong_BadBlock, T.is_TooLong_BadLabel, T.is_TooLong_NoReel, T.is_TooLong_NoFile, T.is_TooLong_Kept, T.is_TooLong_ReelError, T.iv_TooLong, T.em_TooLong, by decide⟩
def sp__law_refusal (T : Txt K mg) : Sp := fun vs H Q _ => ∃ (a D : Addr) (j : Nat), vs = [.ref a] ∧ H a = some (KeptE D a) ∧ IsKind T D j ∧ ∀ H', Same H H' → Q (.str (S (W14.getD j []))) H'
theorem ok__law_refusal (T : Txt K mg) : FnOk P w K mg base (L2.CX P w) 1 T._law_refusal.a T._law_refusal.d ["_law_caught"] (sp__law_refusal T) := by
  refine T._law_refusal.F.okX sc__law_refusal (fun vs H Q E h => ?_) (fun cdv A outer s0 H vs Q E hr h => ?_)
  · obtain ⟨a, D, j, rfl, _⟩ := h
    rfl
  · obtain ⟨a, D, j, rfl, ha, hk, k⟩ := h
    refine ⟨_, (pss_cons (ps_set (i := 1) sc__law_refusal.nd rfl (.inl rfl) (pe_lst (pa_cons (pe_callB call_isK (by rfl) T.z_isinstance (by decide +kernel) (pa_cons (pv 0) (pa_cons (pe_glob (v := .ref T.BadNumber.C) rfl T.BadNumber.g rfl) pa_nil))) (pa_cons (pe_callB call_isK (by rfl) T.z_isinstance (by decide +kernel) (pa_cons (pv 0) (pa_cons (pe_glob (v := .ref T.BadName.C) rfl T.BadName.g rfl) pa_nil))) (pa_cons (pe_callB call_isK (by rfl) T.z_isinstance (by decide +kernel) (pa_cons (pv 0) (pa_cons (pe_glob (v := .ref T.BadReel.C) rfl T.BadReel.g rfl) pa_nil))) pa_nil)))))
    (pss_cons (ps_set (i := 1) sc__law_refusal.nd rfl (.inl rfl) (pe_op op_cat (pv 1) (pe_lst (pa_cons (pe_callB call_isK (by rfl) T.z_isinstance (by decide +kernel) (pa_cons (pv 0) (pa_cons (pe_glob (v := .ref T.NoRing.C) rfl T.NoRing.g rfl) pa_nil))) (pa_cons (pe_callB call_isK (by rfl) T.z_isinstance (by decide +kernel) (pa_cons (pv 0) (pa_cons (pe_glob (v := .ref T.AtEnd.C) rfl T.AtEnd.g rfl) pa_nil))) (pa_cons (pe_callB call_isK (by rfl) T.z_isinstance (by decide +kernel) (pa_cons (pv 0) (pa_cons (pe_glob (v := .ref T.AtStart.C) rfl T.AtStart.g rfl) pa_nil))) pa_nil))))))
    (pss_cons (ps_set (i := 1) sc__law_refusal.nd rfl (.inl rfl) (pe_op op_cat (pv 1) (pe_lst (pa_cons (pe_callB call_isK (by rfl) T.z_isinstance (by decide +kernel) (pa_cons (pv 0) (pa_cons (pe_glob (v := .ref T.TooLong.C) rfl T.TooLong.g rfl) pa_nil))) (pa_cons (pe_callB call_isK (by rfl) T.z_isinstance (by decide +kernel) (pa_cons (pv 0) (pa_cons (pe_glob (v := .ref T.BadForm.C) rfl T.BadForm.g rfl) pa_nil))) (pa_cons (pe_callB call_isK (by rfl) T.z_isinstance (by decide +kernel) (pa_cons (pv 0) (pa_cons (pe_glob (v := .ref T.BadRecord.C) rfl T.BadRecord.g rfl) pa_nil))) pa_nil))))))
    (pss_cons (ps_set (i := 1) sc__law_refusal.nd rfl (.inl rfl) (pe_op op_cat (pv 1) (pe_lst (pa_cons (pe_callB call_isK (by rfl) T.z_isinstance (by decide +kernel) (pa_cons (pv 0) (pa_cons (pe_glob (v := .ref T.BadBlock.C) rfl T.BadBlock.g rfl) pa_nil))) (pa_cons (pe_callB call_isK (by rfl) T.z_isinstance (by decide +kernel) (pa_cons (pv 0) (pa_cons (pe_glob (v := .ref T.BadLabel.C) rfl T.BadLabel.g rfl) pa_nil))) (pa_cons (pe_callB call_isK (by rfl) T.z_isinstance (by decide +kernel) (pa_cons (pv 0) (pa_cons (pe_glob (v := .ref T.NoReel.C) rfl T.NoReel.g rfl) pa_nil))) pa_nil))))))
    (pss_cons (ps_set (i := 1) sc__law_refusal.nd rfl (.inl rfl) (pe_op op_cat (pv 1) (pe_lst (pa_cons (pe_callB call_isK (by rfl) T.z_isinstance (by decide +kernel) (pa_cons (pv 0) (pa_cons (pe_glob (v := .ref T.NoFile.C) rfl T.NoFile.g rfl) pa_nil))) (pa_cons (pe_callB call_isK (by rfl) T.z_isinstance (by decide +kernel) (pa_cons (pv 0) (pa_cons (pe_glob (v := .ref T.Kept.C) rfl T.Kept.g rfl) pa_nil))) pa_nil)))))
    (pss_cons (ps_if (PW.pt (pw_or (pt_cmpR op_ne (pe_bm PySem.F.plainAttrs_list PySem.F.slot_list_count PySem.F.type_list_count mt_cntB (pv 1) (pa_cons pe_bl pa_nil)) pe_int (nomark _)) (pw_or (pt_not (pt_val (pe_callB call_isK (by rfl) T.z_isinstance (by decide +kernel) (pa_cons (pv 0) (pa_cons (pe_glob (v := .ref T.ReelError.C) rfl T.ReelError.g rfl) pa_nil))))) (pw_or1 (pt_not (pt_val (pe_callB call_isK (by rfl) T.z_isinstance (by decide +kernel) (pa_cons (pv 0) (pa_cons (pe_bltn (v := .ty "ValueError") (by rfl) T.z_ValueError (by decide +kernel) rfl) pa_nil)))))))))
      (pss_one (ps_ret (pe_strS (l := [111, 100, 100]) (by decide +kernel))))
      pss_nil)
    (pss_cons (ps_set (i := 2) sc__law_refusal.nd rfl (.inl rfl) (pe_lst (pa_cons (pe_strS (l := [110, 117, 109, 98, 101, 114]) (by decide +kernel)) (pa_cons (pe_strS (l := [110, 97, 109, 101]) (by decide +kernel)) (pa_cons (pe_strS (l := [114, 101, 101, 108]) (by decide +kernel)) (pa_cons (pe_strS (l := [114, 105, 110, 103]) (by decide +kernel)) (pa_cons (pe_strS (l := [101, 110, 100]) (by decide +kernel)) (pa_cons (pe_strS (l := [115, 116, 97, 114, 116]) (by decide +kernel)) (pa_cons (pe_strS (l := [108, 111, 110, 103]) (by decide +kernel)) (pa_cons (pe_strS (l := [102, 111, 114, 109]) (by decide +kernel)) (pa_cons (pe_strS (l := [114, 101, 99, 111, 114, 100]) (by decide +kernel)) (pa_cons (pe_strS (l := [98, 108, 111, 99, 107]) (by decide +kernel)) (pa_cons (pe_strS (l := [108, 97, 98, 101, 108]) (by decide +kernel)) (pa_cons (pe_strS (l := [110, 111, 32, 114, 101, 101, 108]) (by decide +kernel)) pa_nil))))))))))))))
    (pss_one (ps_ret (pe_ix ix_list (pe_op op_cat (pv 2) (pe_lst (pa_cons (pe_strS (l := [102, 105, 108, 101]) (by decide +kernel)) (pa_cons (pe_strS (l := [107, 101, 112, 116]) (by decide +kernel)) pa_nil)))) (pe_bm PySem.F.plainAttrs_list PySem.F.slot_list_index PySem.F.type_list_index mt_index (pv 1) (pa_cons pe_bl pa_nil)) (fun _ _ => rfl))))))))))), ?_⟩
    refine ⟨_, rfl, a, D, _, _, _, rfl, ha, hk.x, fun _ h => h, hk.k0, _, rfl, a, D, _, _, _, rfl, ha, hk.x, fun _ h => h, hk.k1, _, rfl, a, D, _, _, _, rfl, ha, hk.x, fun _ h => h, hk.k2, sz (show 3 ≤ 16777216 by decide), fun p1 n1 => ?_⟩
    have s1 := same_new (o := .lst ([.bl (decide (0 = j)), .bl (decide (1 = j)), .bl (decide (2 = j))] : List V)) n1
    refine ⟨_, rfl, _, rfl, a, D, _, _, _, rfl, (s1 _ _ ha), hk.x, fun _ h => h, hk.k3, _, rfl, a, D, _, _, _, rfl, (s1 _ _ ha), hk.x, fun _ h => h, hk.k4, _, rfl, a, D, _, _, _, rfl, (s1 _ _ ha), hk.x, fun _ h => h, hk.k5, sz (show 3 ≤ 16777216 by decide), fun q0 mq0 => ?_⟩
    have tq0 := same_new (o := .lst ([.bl (decide (3 = j)), .bl (decide (4 = j)), .bl (decide (5 = j))] : List V)) mq0
    refine ⟨p1, q0, _, _, rfl, rfl, tq0 _ _ upd_same, upd_same, sz (show 6 ≤ 16777216 by decide), fun r0 mr0 => ?_⟩
    have tr0 := (s1.trans tq0).trans (same_new (o := .lst (([.bl (decide (0 = j)), .bl (decide (1 = j)), .bl (decide (2 = j))] : List V) ++ ([.bl (decide (3 = j)), .bl (decide (4 = j)), .bl (decide (5 = j))] : List V))) mr0)
    refine ⟨_, rfl, _, rfl, a, D, _, _, _, rfl, (tr0 _ _ ha), hk.x, fun _ h => h, hk.k6, _, rfl, a, D, _, _, _, rfl, (tr0 _ _ ha), hk.x, fun _ h => h, hk.k7, _, rfl, a, D, _, _, _, rfl, (tr0 _ _ ha), hk.x, fun _ h => h, hk.k8, sz (show 3 ≤ 16777216 by decide), fun q1 mq1 => ?_⟩
    have tq1 := same_new (o := .lst ([.bl (decide (6 = j)), .bl (decide (7 = j)), .bl (decide (8 = j))] : List V)) mq1
    refine ⟨r0, q1, _, _, rfl, rfl, tq1 _ _ upd_same, upd_same, sz (show 9 ≤ 16777216 by decide), fun r1 mr1 => ?_⟩
    have tr1 := (tr0.trans tq1).trans (same_new (o := .lst ((([.bl (decide (0 = j)), .bl (decide (1 = j)), .bl (decide (2 = j))] : List V) ++ ([.bl (decide (3 = j)), .bl (decide (4 = j)), .bl (decide (5 = j))] : List V)) ++ ([.bl (decide (6 = j)), .bl (decide (7 = j)), .bl (decide (8 = j))] : List V))) mr1)
    refine ⟨_, rfl, _, rfl, a, D, _, _, _, rfl, (tr1 _ _ ha), hk.x, fun _ h => h, hk.k9, _, rfl, a, D, _, _, _, rfl, (tr1 _ _ ha), hk.x, fun _ h => h, hk.k10, _, rfl, a, D, _, _, _, rfl, (tr1 _ _ ha), hk.x, fun _ h => h, hk.k11, sz (show 3 ≤ 16777216 by decide), fun q2 mq2 => ?_⟩
    have tq2 := same_new (o := .lst ([.bl (decide (9 = j)), .bl (decide (10 = j)), .bl (decide (11 = j))] : List V)) mq2
    refine ⟨r1, q2, _, _, rfl, rfl, tq2 _ _ upd_same, upd_same, sz (show 12 ≤ 16777216 by decide), fun r2 mr2 => ?_⟩
    have tr2 := (tr1.trans tq2).trans (same_new (o := .lst (((([.bl (decide (0 = j)), .bl (decide (1 = j)), .bl (decide (2 = j))] : List V) ++ ([.bl (decide (3 = j)), .bl (decide (4 = j)), .bl (decide (5 = j))] : List V)) ++ ([.bl (decide (6 = j)), .bl (decide (7 = j)), .bl (decide (8 = j))] : List V)) ++ ([.bl (decide (9 = j)), .bl (decide (10 = j)), .bl (decide (11 = j))] : List V))) mr2)
    refine ⟨_, rfl, _, rfl, a, D, _, _, _, rfl, (tr2 _ _ ha), hk.x, fun _ h => h, hk.k12, _, rfl, a, D, _, _, _, rfl, (tr2 _ _ ha), hk.x, fun _ h => h, hk.k13, sz (show 2 ≤ 16777216 by decide), fun q3 mq3 => ?_⟩
    have tq3 := same_new (o := .lst ([.bl (decide (12 = j)), .bl (decide (13 = j))] : List V)) mq3
    refine ⟨r2, q3, _, _, rfl, rfl, tq3 _ _ upd_same, upd_same, sz (show 14 ≤ 16777216 by decide), fun r3 mr3 => ?_⟩
    have tr3 := (tr2.trans tq3).trans (same_new (o := .lst ((((([.bl (decide (0 = j)), .bl (decide (1 = j)), .bl (decide (2 = j))] : List V) ++ ([.bl (decide (3 = j)), .bl (decide (4 = j)), .bl (decide (5 = j))] : List V)) ++ ([.bl (decide (6 = j)), .bl (decide (7 = j)), .bl (decide (8 = j))] : List V)) ++ ([.bl (decide (9 = j)), .bl (decide (10 = j)), .bl (decide (11 = j))] : List V)) ++ ([.bl (decide (12 = j)), .bl (decide (13 = j))] : List V))) mr3)
    have hl : ∀ {H' : Hp}, H' r3 = some (.lst ((((([.bl (decide (0 = j)), .bl (decide (1 = j)), .bl (decide (2 = j))] : List V) ++ ([.bl (decide (3 = j)), .bl (decide (4 = j)), .bl (decide (5 = j))] : List V)) ++ ([.bl (decide (6 = j)), .bl (decide (7 = j)), .bl (decide (8 = j))] : List V)) ++ ([.bl (decide (9 = j)), .bl (decide (10 = j)), .bl (decide (11 = j))] : List V)) ++ ([.bl (decide (12 = j)), .bl (decide (13 = j))] : List V))) → SqL K H' r3 ((bsK j).map V.bl) := fun {H'} h => SqL.of h
    have hc := bsK_count j hk.lt
    refine ⟨_, rfl, .inl ⟨rfl, _, hl upd_same⟩, r3, bsK j, rfl, rfl, hl upd_same, rfl, _, rfl, ?_⟩
    rw [hc]
    refine iteF ⟨_, rfl, a, D, _, _, _, rfl, (tr3 _ _ ha), hk.x, fun _ h => h, hk.r, _, rfl, iteF ⟨_, rfl, a, D, _, _, _, rfl, (tr3 _ _ ha), hk.x, fun _ h => h, hk.v, _, rfl, iteF ?_⟩⟩
    refine ⟨sz (by decide), fun pw nw => ?_⟩
    have u1 := same_new (o := .lst (txs (W14.take 12))) nw
    refine ⟨_, rfl, sz (by decide), fun pf nf => ⟨pw, pf, txs (W14.take 12), txs (W14.drop 12), rfl, rfl, (same_new nf _ _ upd_same), upd_same, sz (by decide), fun pc nc => ?_⟩⟩
    have u2 := (u1.trans (same_new (o := .lst (txs (W14.drop 12))) nf)).trans (same_new (o := .lst (txs (W14.take 12) ++ txs (W14.drop 12))) nc)
    obtain ⟨z1, z2⟩ := bsK_at j hk.lt
    refine ⟨_, rfl, .inl ⟨rfl, _, hl (u2 _ _ upd_same)⟩, r3, _, _, j, .bl true, rfl, rfl, hl (u2 _ _ upd_same), rfl, flat_bls _, by rw [List.getElem?_map, z1]; rfl, rfl, fun m z' hm hz => ?_, ?_⟩
    · rw [List.getElem?_map, z2 m hm] at hz
      cases hz
      rfl
    · refine ⟨pc, _, _, _, rfl, rfl, SqL.of upd_same, at_of (j := j) rfl (show (txs W14)[j]? = _ by rw [show txs W14 = W14.map (fun l => V.str (S l)) from rfl, List.getElem?_map, W14_at j hk.lt]; rfl), ?_⟩
      exact k _ (tr3.trans u2)
end
end R
set_option maxRecDepth 100000
set_option maxHeartbeats 4000000
namespace R
open PySem PySem.Spec PyProof.Rows L2 RZ
open PySem.W (Datum)
open PySem.NumText
/-- the signs of a text -/
def txt (x : V) : List Nat := match x with
  | .str z => z.cps.toList
  | _ => []
theorem txt_S (l : List Nat) : txt (.str (S l)) = l := S_cps l
theorem nameL_len {l : List Nat} {m : Nat} (h : nameL l m = true) : 1 ≤ l.length ∧ l.length ≤ m := by
  unfold nameL at h
  rw [Bool.and_eq_true, Bool.and_eq_true, decide_eq_true_eq, decide_eq_true_eq] at h
  omega
theorem isName_of {x : V} {m : Nat} (h : isName x m = true) : ∃ l, x = .str (S l) ∧ nameL l m = true := by
  cases x with
  | str z =>
    obtain ⟨l, rfl⟩ : ∃ l, z = S l := ⟨_, S_of z⟩
    rw [isName_S] at h
    exact ⟨l, rfl, h⟩
  | _ => exact nomatch h
def isDig (c : Nat) : Bool := decide (c ∈ ([48, 49, 50, 51, 52, 53, 54, 55, 56, 57] : List Nat))
theorem isDig_iff (c : Nat) : isDig c = true ↔ 48 ≤ c ∧ c ≤ 57 := by
  unfold isDig
  rw [decide_eq_true_eq]
  constructor
  · intro h
    simp only [List.mem_cons, List.not_mem_nil, or_false] at h
    omega
  · intro h
    obtain ⟨k, rfl⟩ : ∃ k, c = 48 + k := ⟨c - 48, by omega⟩
    have : ∀ k, k < 10 → (48 + k) ∈ ([48, 49, 50, 51, 52, 53, 54, 55, 56, 57] : List Nat) := by decide
    exact this k (by omega)
theorem allDig {l : List Nat} (h : l.all isDig = true) : ∀ c ∈ l, 48 ≤ c ∧ c ≤ 57 := fun c hc => (isDig_iff c).mp (List.all_eq_true.mp h c hc)
/-! ### what is read -/
def readVol (l : List Nat) : Option (List Nat × List Nat) :=
  if l.length = 18 ∧ l.take 4 = [86, 79, 76, 49] then
    (if nameL (bareL ((l.take 10).drop 4)) 8 = true ∧ nameL (bareL (l.drop 10)) 8 = true then some (bareL ((l.take 10).drop 4), bareL (l.drop 10)) else none)
  else none
section
variable {P : Program} {w : World} {K : PySem.W.Frag} {mg : Str → Option Value} {base : Heap}
end
end R
set_option maxRecDepth 100000
set_option maxHeartbeats 4000000
namespace R
open PySem PySem.Spec PyProof.Rows L2 RZ
open PySem.W (Datum)
def prnt (l : List Nat) : Bool := l.all fun c => decide (32 ≤ c) && decide (c ≤ 126)
def okRec (f : List Nat) (s : Int) : Option (List Nat) → Bool
  | none => false
  | some l => prnt l && !(decide (s < (l.length : Int)) || (decide (f = [70]) && decide ((l.length : Int) < s)))
def okRecs (f : List Nat) (s : Int) : Option (List (Option (List Nat))) → Bool
  | none => false
  | some rs => rs.all (okRec f s)
theorem lt_one (a b : Nat) : ([a] < [b]) ↔ a < b := by
  rw [List.cons_lt_cons_iff]
  exact ⟨fun h => h.elim id fun h => absurd h.2 (List.not_lt_nil _), .inl⟩
/-- the blocks that parts make: each in the block that is begun, as long as it has room -/
def fillStep (b : Int) (acc : List (List Nat)) (p : List Nat) : List (List Nat) :=
  match acc.getLast? with
  | none => acc ++ [p]
  | some l => if (l.length : Int) + p.length ≤ b then acc.dropLast ++ [l ++ p] else acc ++ [p]
def fill (b : Int) (ps : List (List Nat)) : List (List Nat) := ps.foldl (fillStep b) []
theorem fillStep_len (b : Int) (acc : List (List Nat)) (p : List Nat) : (fillStep b acc p).length ≤ acc.length + 1 := by
  unfold fillStep
  split
  · simp
  · split
    · rw [List.length_append, List.length_dropLast, List.length_singleton]; omega
    · simp
theorem fold_len (b : Int) : ∀ (ps acc : List (List Nat)), (ps.foldl (fillStep b) acc).length ≤ acc.length + ps.length
  | [], acc => by simp
  | p :: ps, acc => by
    rw [List.foldl_cons]
    have h1 := fold_len b ps (fillStep b acc p)
    have h2 := fillStep_len b acc p
    rw [List.length_cons]
    omega
theorem fill_take (b : Int) (ps : List (List Nat)) {i : Nat} {p : List Nat} (h : ps[i]? = some p) : fill b (ps.take (i + 1)) = fillStep b (fill b (ps.take i)) p := by
  unfold fill
  rw [List.take_add_one, h, Option.toList_some, List.foldl_append]
  rfl
theorem fill_all (b : Int) (hb : b < 1000000) : ∀ (ps acc : List (List Nat)), (∀ p ∈ ps, p.length < 1000000) → (∀ l ∈ acc, l.length < 1000000) → ∀ l ∈ ps.foldl (fillStep b) acc, l.length < 1000000
  | [], acc, _, h2, l, hl => h2 l hl
  | p :: ps, acc, h1, h2, l, hl => by
    rw [List.foldl_cons] at hl
    refine fill_all b hb ps _ (fun q hq => h1 q (List.mem_cons_of_mem _ hq)) (fun m hm => ?_) l hl
    have hp := h1 p List.mem_cons_self
    unfold fillStep at hm
    split at hm
    · rcases List.mem_append.mp hm with hm | hm
      · exact h2 m hm
      · rw [List.mem_singleton.mp hm]; exact hp
    · split at hm
      · rename_i l' _ hle
        rcases List.mem_append.mp hm with hm | hm
        · exact h2 m (List.dropLast_subset _ hm)
        · rw [List.mem_singleton.mp hm, List.length_append]; omega
      · rcases List.mem_append.mp hm with hm | hm
        · exact h2 m hm
        · rw [List.mem_singleton.mp hm]; exact hp
theorem snoc_cases {α : Type} (xs : List α) : xs = [] ∨ ∃ ys y, xs = ys ++ [y] := by
  cases h : xs.getLast? with
  | none => exact .inl (List.getLast?_eq_none_iff.mp h)
  | some y =>
    obtain ⟨ys, e⟩ := List.getLast?_eq_some_iff.mp h
    exact .inr ⟨ys, y, e⟩
theorem fillStep_nil (b : Int) (p : List Nat) : fillStep b [] p = [p] := rfl
theorem fillStep_snoc (b : Int) (ys : List (List Nat)) (l p : List Nat) : fillStep b (ys ++ [l]) p = if (l.length : Int) + p.length ≤ b then ys ++ [l ++ p] else ys ++ [l] ++ [p] := by
  unfold fillStep
  rw [List.getLast?_concat]
  dsimp only
  rw [List.dropLast_concat]
/-- the number of three figures ahead -/
def lenIn (t : List Nat) : Option Nat := if (t.take 3).length = 3 ∧ (t.take 3).all isDig = true then some (PySem.NumText.digitsVal (t.take 3)) else none
section
variable {P : Program} {w : World} {K : PySem.W.Frag} {mg : Str → Option Value} {base : Heap}
end
end R
set_option maxRecDepth 100000
set_option maxHeartbeats 4000000
namespace R
open PySem PySem.Spec PyProof.Rows L2 RZ
open PySem.W (Datum)
/-! ### a reel: its serial, length, ring, what stands on it, the place -/
def itm : Option (List Nat) → V
  | none => .non
  | some l => .str (S l)
def cst : Option (List Nat) → Int
  | none => 4
  | some l => (l.length : Int) + 3
def blkL (l : List Nat) : Bool := decide (1 ≤ l.length) && decide (l.length ≤ 99) && prnt l
def okIt : Option (List Nat) → Bool
  | none => true
  | some l => blkL l
structure Rl where
  se : List Nat
  ln : Int
  rg : Bool
  xs : List (Option (List Nat))
  at_ : Nat
def Rl.fs (R : Rl) (l : Addr) : List (Str × V) := [("serial", .str (S R.se)), ("length", .int R.ln), ("ringed", .bl R.rg), ("stuff", .ref l), ("place", .int (R.at_ : Nat))]
def Rl.used (R : Rl) : Int := ((R.xs.take R.at_).map cst).sum
def Rl.mv (R : Rl) (k : Nat) : Rl := { R with at_ := k }
def Rl.put (R : Rl) (o : Option (List Nat)) : Rl := { R with xs := R.xs.take R.at_ ++ [o], at_ := R.at_ + 1 }
def Rl.tear (R : Rl) (k : Nat) : Rl := { R with xs := R.xs.take k, at_ := 0 }
structure Rl.Ok (R : Rl) : Prop where
  a : R.at_ ≤ R.xs.length
  m : R.ln ≤ 5000
  n : R.xs.length ≤ 1350
  b : ∀ o ∈ R.xs, okIt o = true
structure RlAt (C : Addr) (H : Hp) (p l : Addr) (R : Rl) : Prop where
  o : ∃ dx, H p = some (.ins C dx (R.fs l))
  s : H l = some (.lst (R.xs.map itm))
  k : R.Ok
def But1 (p : Addr) (H H' : Hp) : Prop := ∀ b o, H b = some o → b ≠ p → H' b = some o
theorem But1.of_same {p : Addr} {H H' : Hp} (e : Same H H') : But1 p H H' := fun b o h _ => e b o h
theorem But1.trans {p : Addr} {H H1 H2 : Hp} (a : But1 p H H1) (b : But1 p H1 H2) : But1 p H H2 := fun c o h n => b c o (a c o h n) n
theorem But1.upd {p : Addr} {H : Hp} {o : HO} : But1 p H (L2.upd H p o) := fun b x h n => by rw [upd_ne n]; exact h
theorem RlAt.same {C p l : Addr} {H H' : Hp} {R : Rl} (h : RlAt C H p l R) (e : Same H H') : RlAt C H' p l R := by
  obtain ⟨⟨dx, h1⟩, h2, h3⟩ := h
  exact ⟨⟨dx, e _ _ h1⟩, e _ _ h2, h3⟩
theorem RlAt.ne {C p l : Addr} {H : Hp} {R : Rl} (h : RlAt C H p l R) : p ≠ l := by
  obtain ⟨⟨dx, h1⟩, h2, h3⟩ := h
  exact ne_of h1 h2 (by intro z; cases z)
theorem RlAt.but2 {C p l t r : Addr} {H H' : Hp} {R : Rl} (h : RlAt C H p l R) (k : But2 t r H H') (hT : Town H t r) (n1 : l ≠ t) (n2 : l ≠ r) : RlAt C H' p l R := by
  obtain ⟨⟨dx, h1⟩, h2, h3⟩ := h
  obtain ⟨c, ns, g1, g2, _⟩ := hT
  exact ⟨⟨dx, k _ _ h1 (ne_of h1 g1 (by intro z; cases z)) (ne_of h1 g2 (by intro z; cases z))⟩, k _ _ h2 n1 n2, h3⟩
theorem RlAt.town {C p l t r : Addr} {H H' : Hp} {R : Rl} (h : RlAt C H p l R) (hT : Town H t r) (k : But1 p H H') : Town H' t r := by
  obtain ⟨⟨dx, h1⟩, h2, h3⟩ := h
  obtain ⟨c, ns, g1, g2, g3⟩ := hT
  exact ⟨c, ns, k _ _ g1 (ne_of g1 h1 (by intro z; cases z)), k _ _ g2 (ne_of g2 h1 (by intro z; cases z)), g3⟩
theorem But1.other {C p l q m : Addr} {H H' : Hp} {R : Rl} (k : But1 q H H') (h : RlAt C H p l R) (n : p ≠ q) {D dx : Addr} {fs : List (Str × V)} (hq : H q = some (.ins D dx fs)) : RlAt C H' p l R := by
  obtain ⟨⟨dx, h1⟩, h2, h3⟩ := h
  exact ⟨⟨dx, k _ _ h1 n⟩, k _ _ h2 (ne_of h2 hq (by intro z; cases z)), h3⟩
section
variable (R : Rl) (l : Addr)
theorem fs_serial : (R.fs l).lookup ("serial" : Str) = some (.str (S R.se)) := rfl
theorem fs_length : (R.fs l).lookup ("length" : Str) = some (.int R.ln) := rfl
theorem fs_ringed : (R.fs l).lookup ("ringed" : Str) = some (.bl R.rg) := rfl
theorem fs_stuff : (R.fs l).lookup ("stuff" : Str) = some (.ref l) := rfl
theorem fs_place : (R.fs l).lookup ("place" : Str) = some (.int (R.at_ : Nat)) := rfl
theorem fs_few : (R.fs l).length < 1000 := by show 5 < 1000; decide
theorem put_ringed (b : Bool) : putF ("ringed" : Str) (.bl b) (R.fs l) = ({ R with rg := b } : Rl).fs l := rfl
theorem put_place (k : Nat) : putF ("place" : Str) (.int (k : Nat)) (R.fs l) = (R.mv k).fs l := rfl
theorem put_stuff (m : Addr) : putF ("stuff" : Str) (.ref m) (R.fs l) = R.fs m := rfl
end
/-- where a skip ends: how many it moves, how many it tells -/
def skF (mk : Bool) : List (Option (List Nat)) → Nat → Nat × Nat
  | _, 0 => (0, 0)
  | [], _ + 1 => (0, 0)
  | o :: r, n + 1 => if o = none ∧ mk = false then (1, 0) else
      let c := if mk = false ∨ o = none then 1 else 0
      ((skF mk r (n + 1 - c)).1 + 1, (skF mk r (n + 1 - c)).2 + c)
theorem cst_ge (o : Option (List Nat)) : 3 ≤ cst o := by
  cases o with
  | none => show (3 : Int) ≤ 4; decide
  | some l => show (3 : Int) ≤ (l.length : Int) + 3; omega
theorem cst_ok {o : Option (List Nat)} (h : okIt o = true) : 4 ≤ cst o := by
  cases o with
  | none => show (4 : Int) ≤ 4; decide
  | some l =>
    show (4 : Int) ≤ (l.length : Int) + 3
    have h2 : blkL l = true := h
    unfold blkL at h2
    simp only [Bool.and_eq_true, decide_eq_true_eq] at h2
    omega
theorem sum_ge : ∀ {xs : List (Option (List Nat))}, (∀ o ∈ xs, okIt o = true) → 4 * (xs.length : Int) ≤ (xs.map cst).sum
  | [], _ => by simp
  | o :: r, h => by
    have h1 := cst_ok (h o List.mem_cons_self)
    have h2 := sum_ge (xs := r) fun x hx => h x (List.mem_cons_of_mem _ hx)
    rw [List.map_cons, List.sum_cons, List.length_cons]
    omega
theorem Rl.Ok.mv {R : Rl} (h : R.Ok) {k : Nat} (hk : k ≤ R.xs.length) : (R.mv k).Ok := ⟨hk, h.m, h.n, h.b⟩
theorem Rl.Ok.put {R : Rl} (h : R.Ok) {o : Option (List Nat)} (ho : okIt o = true) (hu : R.used + cst o ≤ R.ln + 400) : (R.put o).Ok := by
  have hb : ∀ x ∈ R.xs.take R.at_, okIt x = true := fun x hx => h.b x (List.mem_of_mem_take hx)
  have h1 := sum_ge hb
  have h2 := cst_ok ho
  have ha := h.a
  have hm := h.m
  have e : (R.xs.take R.at_).length = R.at_ := by rw [List.length_take]; omega
  have e2 : (R.put o).xs.length = R.at_ + 1 := by
    show (R.xs.take R.at_ ++ [o]).length = _
    rw [List.length_append, e]; rfl
  refine ⟨?_, hm, ?_, fun x hx => ?_⟩
  · rw [e2]; exact Nat.le_refl _
  · rw [e2]
    rw [e] at h1
    unfold Rl.used at hu
    omega
  · rcases List.mem_append.mp (show x ∈ R.xs.take R.at_ ++ [o] from hx) with hx | hx
    · exact hb x hx
    · rw [List.mem_singleton.mp hx]; exact ho
theorem Rl.Ok.tear {R : Rl} (h : R.Ok) (k : Nat) : (R.tear k).Ok := by
  refine ⟨Nat.zero_le _, h.m, ?_, fun x hx => h.b x (List.mem_of_mem_take (show x ∈ R.xs.take k from hx))⟩
  have := h.n
  show (R.xs.take k).length ≤ 1350
  rw [List.length_take]; omega
theorem itm_isN (o : Option (List Nat)) : decide (itm o = V.non) = decide (o = none) := by
  cases o with
  | none => rfl
  | some l => rfl
def isBlk (x : V) : Bool := match x with
  | .str z => blkL z.cps.toList
  | _ => false
theorem isBlk_S (l : List Nat) : isBlk (.str (S l)) = blkL l := by
  show blkL (S l).cps.toList = _
  rw [S_cps]
section
variable {P : Program} {w : World} {K : PySem.W.Frag} {mg : Str → Option Value} {base : Heap}
def sp_cost : Sp := fun vs H Q _ => ∃ o : Option (List Nat), vs = [itm o] ∧ (∀ l, o = some l → l.length < 16777216) ∧ Q (.int (cst o)) H
theorem ok_cost (T : Txt K mg) : FnOk P w K mg base (L2.CX P w) 1 T.cost.a T.cost.d ["item"] sp_cost := by
  refine T.cost.F.okX sc_cost (fun vs H Q E h => ?_) (fun cdv A outer s0 H vs Q E hr h => ?_)
  · obtain ⟨o, rfl, _⟩ := h
    rfl
  · obtain ⟨o, rfl, hz, k⟩ := h
    refine ⟨_, (pss_one (ps_ret (pe_ifExp (pt_cmpR op_isN (pv 0) pe_non (nomark _)) (pe_glob (v := .int 4) rfl T.MARK_LONG.g ⟨_, rfl⟩) (pe_op op_add (pe_callB call_lenS (by rfl) T.z_len PySem.boot_len (pa_cons (pv 0) pa_nil)) (pe_glob (v := .int 3) rfl T.GAP.g ⟨_, rfl⟩))))), ?_⟩
    cases o with
    | none => exact ⟨_, rfl, rfl, _, rfl, iteT k⟩
    | some l => exact ⟨_, rfl, rfl, _, rfl, iteF ⟨_, rfl, l, rfl, Nat.le_of_lt (hz l rfl), _, _, rfl, rfl, k⟩⟩
def sp_is_block (K : PySem.W.Frag) : Sp := fun vs H Q _ => ∃ (x : V) (n : String), vs = [x] ∧ Pl K H x n ∧ Sz x ∧ ∀ H', Same H H' → Q (.bl (isBlk x)) H'
theorem ok_is_block (T : Txt K mg) : FnOk P w K mg base (L2.CX P w) 1 T.is_block.a T.is_block.d ["thing"] (sp_is_block K) := by
  refine T.is_block.F.okX sc_is_block (fun vs H Q E h => ?_) (fun cdv A outer s0 H vs Q E hr h => ?_)
  · obtain ⟨x, n, rfl, _⟩ := h
    rfl
  · obtain ⟨x, n, rfl, hp, hz, k⟩ := h
    refine ⟨_, (pss_cons (ps_if (PW.pt (pw_or (pt_not (pt_val (pe_callB call_isi (by rfl) T.z_isinstance (by decide +kernel) (pa_cons (pv 0) (pa_cons (pe_bltn (v := .ty "str") (by rfl) T.z_str (by decide +kernel) rfl) pa_nil))))) (pw_or1 (pt_not (pt_chain op_le op_le pe_int (pe_callB call_lenS (by rfl) T.z_len PySem.boot_len (pa_cons (pv 0) pa_nil)) (pe_glob (v := .int 99) rfl T.MOST_BLOCK.g ⟨_, rfl⟩))))))
      (pss_one (ps_ret pe_bl))
      pss_nil)
    (pss_one (ps_ret (pe_callB (cr_all rfl) (by rfl) T.z_all (by decide +kernel) (pa_cons (pe_lc (own := [("sign", 1)]) (g := gName 1) rfl sc_is_block.nd (pi_str (pv 0)) (blkOk_by (N := N_is_block) (sc := defScope s_is_block) (by decide +kernel)) (fun _ _ _ _ _ => (pg_name (i := 1) sc_is_block.nd rfl (.inl rfl))) (fun _ _ _ _ _ => pts_nil) (fun _ _ _ _ _ => (pe_chain op_leS op_leS (pe_strS (l := [32]) (by decide +kernel)) (pv 1) (pe_strS (l := [126]) (by decide +kernel))))) pa_nil))))), ?_⟩
    refine ⟨_, rfl, _, _, _, _, _, rfl, .ty _, hp.ty, kit_str hp, _, rfl, ?_⟩
    have stop : ∀ b H', Same H H' → isBlk x = b → Q (.bl b) H' := fun b H' sm e => by rw [← e]; exact k _ sm
    cases hp with
    | str z =>
      have hz2 : z.length < 16777216 := hz
      obtain ⟨l, rfl⟩ : ∃ l, z = S l := ⟨_, S_of z⟩
      rw [S_len] at hz2
      refine iteF ?_
      refine ⟨_, rfl, l, rfl, by omega, _, _, rfl, rfl, _, rfl, iteD (fun e1 => ?_) (fun e1 => ?_)⟩
      · refine ⟨_, _, rfl, rfl, _, rfl, iteN (fun e2 => ?_) (fun e2 => ?_)⟩
        · refine stop _ _ (Same.refl _) ?_
          rw [isBlk_S]
          unfold blkL
          rw [decide_eq_false (show ¬ l.length ≤ 99 by omega)]
          simp
        · refine ⟨_, rfl, _, rfl, fun D nD => lc_signs (z := S l) (fun c => decide (32 ≤ c) && decide (c ≤ 126)) (by rw [S_len]; exact hz2) nD (fun _ => rfl) (fun c H' hc s1 Q2 q2 => ?_) (fun H' s1 hD => ?_)⟩
          · refine ⟨_, rfl, [32], [c], rfl, rfl, _, rfl, ?_⟩
            rw [show (!decide ([c] < [32])) = decide (32 ≤ c) by rw [show decide ([c] < [32]) = decide (c < 32) from decide_eq_decide.mpr (lt_one _ _)]; rw [Bool.eq_iff_iff]; simp]
            refine iteD (fun e => ?_) (fun e => ?_)
            · refine ⟨[c], [126], rfl, rfl, ?_⟩
              have := q2 _ (Same.refl _)
              rw [decide_eq_true e, Bool.true_and] at this
              rw [show (!decide ([126] < [c])) = decide (c ≤ 126) by rw [show decide ([126] < [c]) = decide (126 < c) from decide_eq_decide.mpr (lt_one _ _)]; rw [Bool.eq_iff_iff]; simp]
              exact this
            · have := q2 _ (Same.refl _)
              rw [decide_eq_false e, Bool.false_and] at this
              exact this
          · refine ⟨_, _, rfl, SqL.of hD, ?_⟩
            refine stop _ _ s1 ?_
            rw [all_id_map, S_cps, isBlk_S]
            unfold blkL
            rw [decide_eq_true (show 1 ≤ l.length by omega), decide_eq_true (show l.length ≤ 99 by omega)]
            rfl
      · refine ⟨_, rfl, ?_⟩
        refine iteT ?_
        refine stop _ _ (Same.refl _) ?_
        rw [isBlk_S]
        unfold blkL
        rw [decide_eq_false (show ¬ 1 ≤ l.length by omega)]
        simp
    | int i => exact iteT (stop _ _ (Same.refl _) rfl)
    | bl b => exact iteT (stop _ _ (Same.refl _) rfl)
    | non => exact iteT (stop _ _ (Same.refl _) rfl)
    | lst h => exact iteT (stop _ _ (Same.refl _) rfl)
    | tup h => exact iteT (stop _ _ (Same.refl _) rfl)
    | dct h => exact iteT (stop _ _ (Same.refl _) rfl)
def sp_Reel___init__ (K : PySem.W.Frag) (C CN CR : Addr) : Sp := fun vs H Q E => ∃ (x dx : Addr) (sv nv : V) (n1 n2 : String), vs = [.ref x, sv, nv] ∧ H x = some (.ins C dx []) ∧ Pl K H sv n1 ∧ Sz sv ∧ Pl K H nv n2 ∧
  (isName sv 6 = false → ∀ H', Same H H' → E (.ref CN) none H') ∧ (isName sv 6 = true → isWhole nv 150 5000 = false → ∀ H', Same H H' → E (.ref CR) none H') ∧
  ∀ s n, sv = .str (S s) → nv = .int n → nameL s 6 = true → 150 ≤ n → n ≤ 5000 → ∀ l H', H l = none → RlAt C H' x l ⟨s, n, true, [], 0⟩ → But1 x H H' → Q .non H'
theorem ok_Reel___init__ (T : Txt K mg) : FnOk P w K mg base (L2.CX P w) 3 T.Reel___init__.a T.Reel___init__.d ["self", "serial", "length"] (sp_Reel___init__ K T.Reel.C T.BadName.C T.BadNumber.C) := by
  refine T.Reel___init__.F.okX sc_Reel___init__ (fun vs H Q E h => ?_) (fun cdv A outer s0 H vs Q E hr h => ?_)
  · obtain ⟨x, dx, sv, nv, n1, n2, rfl, _⟩ := h
    rfl
  · obtain ⟨x, dx, sv, nv, n1, n2, rfl, hx, p1, hz, p2, k1, k2, k3⟩ := h
    refine ⟨_, (pss_cons (ps_expr (pe_call (ok_look_name T) (hr.mono (by decide)) (by rfl) T.look_name.g T.look_name.F.kp T.look_name.b .nil (passes_call (takes_of rfl rfl rfl rfl) (fun _ _ _ _ h => h)) (pa_cons (pv 1) (pa_cons pe_int pa_nil))))
    (pss_cons (ps_expr (pe_call (ok_look_number T) (hr.mono (by decide)) (by rfl) T.look_number.g T.look_number.F.kp T.look_number.b .nil (passes_call (takes_of rfl rfl rfl rfl) (fun _ _ _ _ h => h)) (pa_cons (pv 2) (pa_cons pe_int (pa_cons (pe_glob (v := .int 5000) rfl T.MOST_LONG.g ⟨_, rfl⟩) pa_nil)))))
    (pss_cons (ps_fld (pv 0) (pv 1) rfl)
    (pss_cons (ps_fld (pv 0) (pv 2) rfl)
    (pss_cons (ps_fld (pv 0) pe_bl rfl)
    (pss_cons (ps_fld (pv 0) (pe_lst pa_nil) rfl)
    (pss_one (ps_fld (pv 0) pe_int rfl)))))))), ?_⟩
    refine ⟨_, rfl, sv, n1, 6, rfl, p1, hz, fun e1 H1 s1 => ?_, fun e1 H1 s1 => k1 e1 H1 s1⟩
    refine ⟨_, rfl, nv, n2, 150, 5000, rfl, p2.same s1, fun e2 => ?_, fun e2 => k2 e1 e2 H1 s1⟩
    obtain ⟨s, rfl, hs⟩ : ∃ s, sv = .str (S s) ∧ nameL s 6 = true := by
      cases sv with
      | str z => exact ⟨z.cps.toList, by rw [← S_of], e1⟩
      | _ => cases e1
    obtain ⟨n, rfl, hn1, hn2⟩ : ∃ n, nv = .int n ∧ 150 ≤ n ∧ n ≤ 5000 := by
      cases nv with
      | int n =>
        have : (decide (150 ≤ n) && decide (n ≤ 5000)) = true := e2
        simp only [Bool.and_eq_true, decide_eq_true_eq] at this
        exact ⟨n, rfl, this.1, this.2⟩
      | _ => cases e2
    have hx1 := s1 _ _ hx
    refine ⟨_, rfl, _, rfl, x, _, dx, _, rfl, hx1, T.Reel.cl, T.n_Reel_serial, (by show 0 < 1000; decide), ?_⟩
    refine ⟨_, rfl, _, rfl, x, _, dx, _, rfl, upd_same, T.Reel.cl, T.n_Reel_length, (by show 1 < 1000; decide), ?_⟩
    refine ⟨_, rfl, x, _, dx, _, rfl, upd_same, T.Reel.cl, T.n_Reel_ringed, (by show 2 < 1000; decide), ?_⟩
    refine ⟨sz (by decide), fun l nl => ?_⟩
    have nxl : x ≠ l := ne_of_none upd_same nl
    refine ⟨_, rfl, x, _, dx, _, rfl, (by rw [upd_ne nxl]; exact upd_same), T.Reel.cl, T.n_Reel_stuff, (by show 3 < 1000; decide), ?_⟩
    refine ⟨_, rfl, x, _, dx, _, rfl, upd_same, T.Reel.cl, T.n_Reel_place, (by show 4 < 1000; decide), ?_⟩
    have nl0 : H l = none := by
      rw [upd_ne nxl.symm, upd_ne nxl.symm, upd_ne nxl.symm] at nl
      exact s1.free nl
    refine k3 s n rfl rfl hs hn1 hn2 l _ nl0 ⟨⟨dx, upd_same⟩, ?_, ⟨Nat.le_refl _, hn2, by show 0 ≤ 1350; decide, fun o ho => by cases ho⟩⟩ ?_
    · rw [upd_ne nxl.symm, upd_ne nxl.symm, upd_same]
      rfl
    · intro b o hb nb
      rw [upd_ne nb, upd_ne nb, upd_ne (ne_of_none hb nl0), upd_ne nb, upd_ne nb, upd_ne nb]
      exact s1 _ _ hb
def sp_Reel_ring (C : Addr) : Sp := fun vs H Q _ => ∃ (p l : Addr) (R : Rl) (b : Bool), vs = [.ref p, .bl b] ∧ RlAt C H p l R ∧ ∀ H', RlAt C H' p l { R with rg := b } → But1 p H H' → Q .non H'
theorem ok_Reel_ring (T : Txt K mg) : FnOk P w K mg base (L2.CX P w) 1 T.Reel_ring.a T.Reel_ring.d ["self", "on"] (sp_Reel_ring T.Reel.C) := by
  refine T.Reel_ring.F.okX sc_Reel_ring (fun vs H Q E h => ?_) (fun cdv A outer s0 H vs Q E hr h => ?_)
  · obtain ⟨p, l, R, b, rfl, _⟩ := h
    rfl
  · obtain ⟨p, l, R, b, rfl, hR, k⟩ := h
    refine ⟨_, (pss_one (ps_fld (pv 0) (pe_callTy call_bool1 (by rfl) T.z_bool (by decide +kernel) (pa_cons (pv 1) pa_nil)) rfl)), ?_⟩
    obtain ⟨⟨dx, h1⟩, h2, h3⟩ := id hR
    refine ⟨_, rfl, .inr ⟨_, rfl, _, rfl, p, _, dx, _, rfl, h1, T.Reel.cl, T.n_Reel_ringed, fs_few _ _, ?_⟩⟩
    exact k _ ⟨⟨dx, upd_same⟩, by rw [upd_ne hR.ne.symm]; exact h2, ⟨h3.a, h3.m, h3.n, h3.b⟩⟩ But1.upd
def sp_Reel_used (C : Addr) : Sp := fun vs H Q _ => ∃ (p l : Addr) (R : Rl), vs = [.ref p] ∧ RlAt C H p l R ∧ ∀ H', Same H H' → Q (.int R.used) H'
theorem ok_Reel_used (T : Txt K mg) : FnOk P w K mg base (L2.CX P w) 2 T.Reel_used.a T.Reel_used.d ["self"] (sp_Reel_used T.Reel.C) := by
  refine T.Reel_used.F.okX sc_Reel_used (fun vs H Q E h => ?_) (fun cdv A outer s0 H vs Q E hr h => ?_)
  · obtain ⟨p, l, R, rfl, _⟩ := h
    rfl
  · obtain ⟨p, l, R, rfl, hR, k⟩ := h
    refine ⟨_, (pss_one (ps_ret (pe_callB (cr_sum rfl) (by rfl) T.z_sum (by decide +kernel) (pa_cons (pe_lc (own := [("item", 1)]) (g := gName 1) rfl sc_Reel_used.nd (pi_listC (K := K) rfl (pe_slice sl_list (pe_fld (pv 0) rfl) po_none (po_some (pe_fld (pv 0) rfl)))) (blkOk_by (N := N_Reel_used) (sc := defScope s_Reel_used) (by decide +kernel)) (fun _ _ _ _ _ => (pg_name (i := 1) sc_Reel_used.nd rfl (.inl rfl))) (fun _ _ _ _ _ => pts_nil) (fun _ _ _ _ _ => (pe_call (ok_cost T) (hr.mono (by decide)) (by rfl) T.cost.g T.cost.F.kp T.cost.b .nil passL (pa_cons (pv 1) pa_nil)))) pa_nil)))), ?_⟩
    obtain ⟨⟨dx, h1⟩, h2, h3⟩ := id hR
    refine ⟨_, rfl, p, _, dx, _, _, rfl, h1, T.Reel.cl, T.n_Reel_stuff, fs_stuff _ _, _, rfl, p, _, dx, _, _, rfl, h1, T.Reel.cl, T.n_Reel_place, fs_place _ _, _, rfl, l, _, rfl, SqL.of h2, fun q nq => ?_⟩
    have ec : cutV (R.xs.map itm) none (some (R.at_ : Int)) = (R.xs.take R.at_).map itm := by
      show sl (R.xs.map itm) none (some (R.at_ : Int)) = _
      rw [sl_to, List.map_take]
    rw [ec]
    have hb : ∀ o ∈ R.xs.take R.at_, okIt o = true := fun o ho => h3.b o (List.mem_of_mem_take ho)
    have hn : (R.xs.take R.at_).length ≤ 1350 := by have := h3.n; rw [List.length_take]; omega
    refine ⟨q, rfl, ⟨_, SqL.of upd_same⟩, fun D nD => ?_⟩
    refine lc_map (walk_list (xs := (R.xs.take R.at_).map itm)) (((R.xs.take R.at_).map cst).map V.int) (by simp) (by rw [List.length_map]; omega) nD yat_same (fun _ s => sql_same (SqL.of upd_same) s) (fun j x H' H2 y hj hy s1 s1' hY Q2 q2 => ?_) (fun H' s1 hD => ?_) gName_mono
    · obtain ⟨rfl, hx⟩ := hY
      rw [List.getElem?_map] at hx
      obtain ⟨o, ho, rfl⟩ := Option.map_eq_some_iff.mp hx
      rw [List.getElem?_map, List.getElem?_map, ho] at hy
      have ey : V.int (cst o) = y := Option.some.inj hy
      subst ey
      refine ⟨rfl, ?_⟩
      refine ⟨_, rfl, o, rfl, fun z hz => ?_, q2 _ (Same.refl _)⟩
      have := hb o (List.mem_of_getElem? ho)
      rw [hz] at this
      have h4 : blkL z = true := this
      unfold blkL at h4
      simp only [Bool.and_eq_true, decide_eq_true_eq] at h4
      omega
    · exact ⟨D, _, rfl, SqL.of hD, k _ ((same_new nq).trans s1)⟩
def sp_Reel_is_near_end (C : Addr) : Sp := fun vs H Q _ => ∃ (p l : Addr) (R : Rl), vs = [.ref p] ∧ RlAt C H p l R ∧ ∀ H', Same H H' → Q (.bl (decide (R.ln ≤ R.used))) H'
theorem ok_Reel_is_near_end (T : Txt K mg) : FnOk P w K mg base (L2.CX P w) 3 T.Reel_is_near_end.a T.Reel_is_near_end.d ["self"] (sp_Reel_is_near_end T.Reel.C) := by
  refine T.Reel_is_near_end.F.okX sc_Reel_is_near_end (fun vs H Q E h => ?_) (fun cdv A outer s0 H vs Q E hr h => ?_)
  · obtain ⟨p, l, R, rfl, _⟩ := h
    rfl
  · obtain ⟨p, l, R, rfl, hR, k⟩ := h
    refine ⟨_, (pss_one (ps_ret (pe_cmpR op_ge (pe_meth0 (pv 0) T.Reel.cl T.Reel_used.m (ok_Reel_used T) (hr.mono (by decide)) T.Reel_used.b .nil passL) (pe_fld (pv 0) rfl) (nomark _)))), ?_⟩
    obtain ⟨⟨dx, h1⟩, h2, h3⟩ := id hR
    refine ⟨_, rfl, p, dx, _, rfl, h1, rfl, p, l, R, rfl, hR, fun H' s1 => ?_⟩
    exact ⟨_, rfl, p, _, dx, _, _, rfl, s1 _ _ h1, T.Reel.cl, T.n_Reel_length, fs_length _ _, _, _, rfl, rfl, k _ s1⟩
def sp_Reel_put (C CR CL : Addr) : Sp := fun vs H Q E => ∃ (p l : Addr) (R : Rl) (o : Option (List Nat)), vs = [.ref p, itm o] ∧ RlAt C H p l R ∧ okIt o = true ∧
  (R.rg = false → E (.ref CR) none H) ∧ (R.rg = true → R.ln + 400 < R.used + cst o → ∀ H', Same H H' → E (.ref CL) none H') ∧
  (R.rg = true → R.used + cst o ≤ R.ln + 400 → ∀ l' H', H l' = none → RlAt C H' p l' (R.put o) → But1 p H H' → Q .non H')
theorem okIt_len {o : Option (List Nat)} (h : okIt o = true) : ∀ l, o = some l → l.length < 16777216 := by
  rintro l rfl
  have h4 : blkL l = true := h
  unfold blkL at h4
  simp only [Bool.and_eq_true, decide_eq_true_eq] at h4
  omega
theorem ok_Reel_put (T : Txt K mg) : FnOk P w K mg base (L2.CX P w) 3 T.Reel_put.a T.Reel_put.d ["self", "item"] (sp_Reel_put T.Reel.C T.NoRing.C T.TooLong.C) := by
  refine T.Reel_put.F.okX sc_Reel_put (fun vs H Q E h => ?_) (fun cdv A outer s0 H vs Q E hr h => ?_)
  · obtain ⟨p, l, R, o, rfl, _⟩ := h
    rfl
  · obtain ⟨p, l, R, o, rfl, hR, ho, k1, k2, k3⟩ := h
    refine ⟨_, (pss_cons (ps_if (pt_not (pt_val (pe_fld (pv 0) rfl)))
      (pss_one (ps_raise rfl (takes_of rfl rfl rfl rfl) (pmk_own PySem.F.excBase_ValueError T.NoRing.x T.NoRing.g T.NoRing.k (raises_own T.NoRing.b T.NoRing.t) (by exact rfl))))
      pss_nil)
    (pss_cons (ps_if (pt_cmpR op_gt (pe_op op_add (pe_meth0 (pv 0) T.Reel.cl T.Reel_used.m (ok_Reel_used T) (hr.mono (by decide)) T.Reel_used.b .nil (passes_call (takes_of rfl rfl rfl rfl) (fun _ _ _ _ h => h))) (pe_call (ok_cost T) (hr.mono (by decide)) (by rfl) T.cost.g T.cost.F.kp T.cost.b .nil (passes_call (takes_of rfl rfl rfl rfl) (fun _ _ _ _ h => h)) (pa_cons (pv 1) pa_nil))) (pe_op op_add (pe_fld (pv 0) rfl) (pe_glob (v := .int 400) rfl T.SPARE.g ⟨_, rfl⟩)) (nomark _))
      (pss_one (ps_raise rfl (takes_of rfl rfl rfl rfl) (pmk_own PySem.F.excBase_ValueError T.TooLong.x T.TooLong.g T.TooLong.k (raises_own T.TooLong.b T.TooLong.t) (by exact rfl))))
      pss_nil)
    (pss_cons (ps_fld (pv 0) (pe_op op_cat (pe_slice sl_list (pe_fld (pv 0) rfl) po_none (po_some (pe_fld (pv 0) rfl))) (pe_lst (pa_cons (pv 1) pa_nil))) rfl)
    (pss_one (ps_fldaug (pv 0) pe_int in_add))))), ?_⟩
    obtain ⟨⟨dx, h1⟩, h2, h3⟩ := id hR
    refine ⟨_, rfl, p, _, dx, _, _, rfl, h1, T.Reel.cl, T.n_Reel_ringed, fs_ringed _ _, _, rfl, iteNB (fun e => ?_) (fun e => ?_)⟩
    · exact k1 e
    refine ⟨_, rfl, p, dx, _, rfl, h1, rfl, p, l, R, rfl, hR, fun H1 s1 => ?_⟩
    have g1 := s1 _ _ h1
    have g2 := s1 _ _ h2
    refine ⟨_, rfl, o, rfl, okIt_len ho, _, _, rfl, rfl, _, rfl, p, _, dx, _, _, rfl, g1, T.Reel.cl, T.n_Reel_length, fs_length _ _, _, _, rfl, rfl, _, _, rfl, rfl, _, rfl, iteD (fun e2 => ?_) (fun e2 => ?_)⟩
    · exact k2 e e2 H1 s1
    refine ⟨_, rfl, p, _, dx, _, _, rfl, g1, T.Reel.cl, T.n_Reel_stuff, fs_stuff _ _, _, rfl, p, _, dx, _, _, rfl, g1, T.Reel.cl, T.n_Reel_place, fs_place _ _, _, rfl, l, _, rfl, SqL.of g2, fun q nq => ?_⟩
    have ec : cutV (R.xs.map itm) none (some (R.at_ : Int)) = (R.xs.take R.at_).map itm := by
      show sl (R.xs.map itm) none (some (R.at_ : Int)) = _
      rw [sl_to, List.map_take]
    rw [ec]
    refine ⟨_, rfl, sz (show 1 ≤ 16777216 by decide), fun q2 nq2 => ?_⟩
    have nqq : q ≠ q2 := ne_of_none upd_same nq2
    refine ⟨q, q2, _, _, rfl, rfl, (by rw [upd_ne nqq]; exact upd_same), upd_same, sz ?_, fun m nm => ?_⟩
    · have := h3.n
      rw [List.length_map, List.length_take]
      show _ + 1 ≤ _
      omega
    have s2 := ((s1.trans (same_new nq)).trans (same_new (o := .lst [itm o]) nq2))
    have nm0 : H m = none := s2.free nm
    have e4 := s2.trans (same_new (o := .lst ((R.xs.take R.at_).map itm ++ [itm o])) nm)
    have g4 := e4 _ _ h1
    have npm : p ≠ m := ne_of_none h1 nm0
    refine ⟨_, rfl, p, _, dx, _, rfl, g4, T.Reel.cl, T.n_Reel_stuff, fs_few _ _, ?_⟩
    refine ⟨_, rfl, p, _, dx, _, _, rfl, upd_same, T.Reel.cl, T.n_Reel_place, fs_place R m, ?_⟩
    refine ⟨_, _, rfl, rfl, dx, _, upd_same, fs_few R m, ?_⟩
    refine k3 e (by omega) m _ nm0 ⟨⟨dx, upd_same⟩, ?_, h3.put ho (by omega)⟩ ?_
    · rw [upd_ne npm.symm, upd_ne npm.symm, upd_same]
      show some (HO.lst _) = some (HO.lst ((R.xs.take R.at_ ++ [o]).map itm))
      rw [List.map_append]
      rfl
    · exact (But1.of_same e4).trans (But1.upd.trans But1.upd)
def sp_Reel_write (K : PySem.W.Frag) (C CB CR CL : Addr) : Sp := fun vs H Q E => ∃ (p l : Addr) (R : Rl) (x : V) (n : String), vs = [.ref p, x] ∧ RlAt C H p l R ∧ Pl K H x n ∧ Sz x ∧
  (isBlk x = false → ∀ H', Same H H' → E (.ref CB) none H') ∧
  (isBlk x = true → R.rg = false → ∀ H', Same H H' → E (.ref CR) none H') ∧ (∀ s, x = .str (S s) → blkL s = true → R.rg = true → R.ln + 400 < R.used + cst (some s) → ∀ H', Same H H' → E (.ref CL) none H') ∧
  (∀ s, x = .str (S s) → blkL s = true → R.rg = true → R.used + cst (some s) ≤ R.ln + 400 → ∀ l' H', H l' = none → RlAt C H' p l' (R.put (some s)) → But1 p H H' → Q .non H')
theorem ok_Reel_write (T : Txt K mg) : FnOk P w K mg base (L2.CX P w) 4 T.Reel_write.a T.Reel_write.d ["self", "block"] (sp_Reel_write K T.Reel.C T.BadName.C T.NoRing.C T.TooLong.C) := by
  refine T.Reel_write.F.okX sc_Reel_write (fun vs H Q E h => ?_) (fun cdv A outer s0 H vs Q E hr h => ?_)
  · obtain ⟨p, l, R, x, n, rfl, _⟩ := h
    rfl
  · obtain ⟨p, l, R, x, n, rfl, hR, hp, hz, k1, k2, k3, k4⟩ := h
    refine ⟨_, (pss_cons (ps_if (pt_not (pt_val (pe_call (ok_is_block T) (hr.mono (by decide)) (by rfl) T.is_block.g T.is_block.F.kp T.is_block.b .nil (passes_call (takes_of rfl rfl rfl rfl) (fun _ _ _ _ h => h)) (pa_cons (pv 1) pa_nil))))
      (pss_one (ps_raise rfl (takes_of rfl rfl rfl rfl) (pmk_own PySem.F.excBase_ValueError T.BadName.x T.BadName.g T.BadName.k (raises_own T.BadName.b T.BadName.t) (by exact rfl))))
      pss_nil)
    (pss_one (ps_expr (pe_meth (pv 0) T.Reel.cl T.Reel_put.m (ok_Reel_put T) (hr.mono (by decide)) T.Reel_put.b .nil (passes_call (takes_of rfl rfl rfl rfl) (fun _ _ _ _ h => h)) (pa_cons (pv 1) pa_nil))))), ?_⟩
    obtain ⟨⟨dx, h1⟩, h2, h3⟩ := id hR
    refine ⟨_, rfl, x, n, rfl, hp, hz, fun H1 s1 => ⟨_, rfl, iteNB (fun e => ?_) (fun e => ?_)⟩⟩
    · exact k1 e _ s1
    obtain ⟨s, rfl, hs⟩ : ∃ s, x = .str (S s) ∧ blkL s = true := by
      cases x with
      | str z => exact ⟨z.cps.toList, by rw [← S_of], e⟩
      | _ => cases e
    refine ⟨_, rfl, p, dx, _, rfl, s1 _ _ h1, rfl, _, rfl, p, l, R, some s, rfl, hR.same s1, hs, fun e2 => ?_, fun e2 e3 H2 s2 => ?_, fun e2 e3 l' H2 nl hR2 b2 => ?_⟩
    · exact k2 e e2 _ s1
    · exact k3 s rfl hs e2 e3 _ (s1.trans s2)
    · exact k4 s rfl hs e2 e3 l' _ (s1.free nl) hR2 ((But1.of_same s1).trans b2)
def sp_Reel_write_mark (C CR CL : Addr) : Sp := fun vs H Q E => ∃ (p l : Addr) (R : Rl), vs = [.ref p] ∧ RlAt C H p l R ∧
  (R.rg = false → E (.ref CR) none H) ∧ (R.rg = true → R.ln + 400 < R.used + 4 → ∀ H', Same H H' → E (.ref CL) none H') ∧
  (R.rg = true → R.used + 4 ≤ R.ln + 400 → ∀ l' H', H l' = none → RlAt C H' p l' (R.put none) → But1 p H H' → Q .non H')
theorem ok_Reel_write_mark (T : Txt K mg) : FnOk P w K mg base (L2.CX P w) 4 T.Reel_write_mark.a T.Reel_write_mark.d ["self"] (sp_Reel_write_mark T.Reel.C T.NoRing.C T.TooLong.C) := by
  refine T.Reel_write_mark.F.okX sc_Reel_write_mark (fun vs H Q E h => ?_) (fun cdv A outer s0 H vs Q E hr h => ?_)
  · obtain ⟨p, l, R, rfl, _⟩ := h
    rfl
  · obtain ⟨p, l, R, rfl, hR, k1, k2, k3⟩ := h
    refine ⟨_, (pss_one (ps_expr (pe_meth (pv 0) T.Reel.cl T.Reel_put.m (ok_Reel_put T) (hr.mono (by decide)) T.Reel_put.b .nil (passes_call (takes_of rfl rfl rfl rfl) (fun _ _ _ _ h => h)) (pa_cons pe_non pa_nil)))), ?_⟩
    obtain ⟨⟨dx, h1⟩, h2, h3⟩ := id hR
    exact ⟨_, rfl, p, dx, _, rfl, h1, rfl, p, l, R, none, rfl, hR, rfl, k1, k2, k3⟩
def sp_Reel_read (C CE : Addr) : Sp := fun vs H Q E => ∃ (p l : Addr) (R : Rl), vs = [.ref p] ∧ RlAt C H p l R ∧ (R.at_ = R.xs.length → E (.ref CE) none H) ∧
  ∀ o, R.xs[R.at_]? = some o → ∀ H', RlAt C H' p l (R.mv (R.at_ + 1)) → But1 p H H' → Q (itm o) H'
theorem ok_Reel_read (T : Txt K mg) : FnOk P w K mg base (L2.CX P w) 1 T.Reel_read.a T.Reel_read.d ["self"] (sp_Reel_read T.Reel.C T.AtEnd.C) := by
  refine T.Reel_read.F.okX sc_Reel_read (fun vs H Q E h => ?_) (fun cdv A outer s0 H vs Q E hr h => ?_)
  · obtain ⟨p, l, R, rfl, _⟩ := h
    rfl
  · obtain ⟨p, l, R, rfl, hR, k1, k2⟩ := h
    refine ⟨_, (pss_cons (ps_if (pt_cmpR op_eq (pe_fld (pv 0) rfl) (pe_callB call_len_seq (by rfl) T.z_len PySem.boot_len (pa_cons (pe_fld (pv 0) rfl) pa_nil)) (nomark _))
      (pss_one (ps_raise rfl (takes_of rfl rfl rfl rfl) (pmk_own PySem.F.excBase_ValueError T.AtEnd.x T.AtEnd.g T.AtEnd.k (raises_own T.AtEnd.b T.AtEnd.t) (by exact rfl))))
      pss_nil)
    (pss_cons (ps_fldaug (pv 0) pe_int in_add)
    (pss_one (ps_ret (pe_ix ix_list (pe_fld (pv 0) rfl) (pe_op op_sub (pe_fld (pv 0) rfl) pe_int) (fun _ _ => rfl)))))), ?_⟩
    obtain ⟨⟨dx, h1⟩, h2, h3⟩ := id hR
    refine ⟨_, rfl, p, _, dx, _, _, rfl, h1, T.Reel.cl, T.n_Reel_place, fs_place _ _, _, rfl, p, _, dx, _, _, rfl, h1, T.Reel.cl, T.n_Reel_stuff, fs_stuff _ _, _, _, rfl, .inl (SqL.of h2), rfl, _, rfl, ?_⟩
    rw [dec_int, List.length_map]
    refine iteB (fun e => ?_) (fun e => ?_)
    · exact k1 (by have := beq_iff_eq.mp e; omega)
    have hlt : R.at_ < R.xs.length := by
      have := h3.a
      have : ¬ ((R.at_ : Int) = (R.xs.length : Int)) := fun e2 => by rw [beq_iff_eq.mpr e2] at e; cases e
      omega
    refine ⟨_, rfl, p, _, dx, _, _, rfl, h1, T.Reel.cl, T.n_Reel_place, fs_place _ _, _, _, rfl, rfl, dx, _, h1, fs_few _ _, ?_⟩
    have npl := hR.ne
    have g2 : upd H p (.ins T.Reel.C dx ((R.mv (R.at_ + 1)).fs l)) l = some (.lst (R.xs.map itm)) := by rw [upd_ne npl.symm]; exact h2
    refine ⟨_, rfl, p, _, dx, _, _, rfl, upd_same, T.Reel.cl, T.n_Reel_stuff, fs_stuff (R.mv (R.at_ + 1)) l, _, rfl, p, _, dx, _, _, rfl, upd_same, T.Reel.cl, T.n_Reel_place, fs_place (R.mv (R.at_ + 1)) l, _, _, rfl, rfl, l, _, _, _, rfl, rfl, SqL.of g2, at_of (j := R.at_) (by show ((R.at_ + 1 : Nat) : Int) - 1 = _; omega) (by rw [List.getElem?_map, List.getElem?_eq_getElem hlt]; rfl), ?_⟩
    exact k2 _ (List.getElem?_eq_getElem hlt) _ ⟨⟨dx, upd_same⟩, g2, h3.mv hlt⟩ But1.upd
def sp_Reel_read_back (C CE : Addr) : Sp := fun vs H Q E => ∃ (p l : Addr) (R : Rl), vs = [.ref p] ∧ RlAt C H p l R ∧ (R.at_ = 0 → E (.ref CE) none H) ∧
  ∀ k o, R.at_ = k + 1 → R.xs[k]? = some o → ∀ H', RlAt C H' p l (R.mv k) → But1 p H H' → Q (itm o) H'
theorem ok_Reel_read_back (T : Txt K mg) : FnOk P w K mg base (L2.CX P w) 1 T.Reel_read_back.a T.Reel_read_back.d ["self"] (sp_Reel_read_back T.Reel.C T.AtStart.C) := by
  refine T.Reel_read_back.F.okX sc_Reel_read_back (fun vs H Q E h => ?_) (fun cdv A outer s0 H vs Q E hr h => ?_)
  · obtain ⟨p, l, R, rfl, _⟩ := h
    rfl
  · obtain ⟨p, l, R, rfl, hR, k1, k2⟩ := h
    refine ⟨_, (pss_cons (ps_if (pt_cmpR op_eq (pe_fld (pv 0) rfl) pe_int (nomark _))
      (pss_one (ps_raise rfl (takes_of rfl rfl rfl rfl) (pmk_own PySem.F.excBase_ValueError T.AtStart.x T.AtStart.g T.AtStart.k (raises_own T.AtStart.b T.AtStart.t) (by exact rfl))))
      pss_nil)
    (pss_cons (ps_fldaug (pv 0) pe_int in_sub)
    (pss_one (ps_ret (pe_ix ix_list (pe_fld (pv 0) rfl) (pe_fld (pv 0) rfl) (fun _ _ => rfl)))))), ?_⟩
    obtain ⟨⟨dx, h1⟩, h2, h3⟩ := id hR
    refine ⟨_, rfl, p, _, dx, _, _, rfl, h1, T.Reel.cl, T.n_Reel_place, fs_place _ _, rfl, _, rfl, ?_⟩
    rw [dec_int]
    refine iteB (fun e => ?_) (fun e => ?_)
    · exact k1 (by have := beq_iff_eq.mp e; omega)
    obtain ⟨k, ek⟩ : ∃ k, R.at_ = k + 1 := by
      cases h : R.at_ with
      | zero => rw [h] at e; cases e
      | succ k => exact ⟨k, rfl⟩
    have hlt : k < R.xs.length := by have := h3.a; omega
    have ev : ((R.at_ : Nat) : Int) - 1 = (k : Int) := by omega
    refine ⟨_, rfl, p, _, dx, _, _, rfl, h1, T.Reel.cl, T.n_Reel_place, fs_place _ _, _, _, rfl, rfl, dx, _, h1, fs_few _ _, ?_⟩
    rw [ev]
    have npl := hR.ne
    have g2 : upd H p (.ins T.Reel.C dx ((R.mv k).fs l)) l = some (.lst (R.xs.map itm)) := by rw [upd_ne npl.symm]; exact h2
    refine ⟨_, rfl, p, _, dx, _, _, rfl, upd_same, T.Reel.cl, T.n_Reel_stuff, fs_stuff (R.mv k) l, _, rfl, p, _, dx, _, _, rfl, upd_same, T.Reel.cl, T.n_Reel_place, fs_place (R.mv k) l, l, _, _, _, rfl, rfl, SqL.of g2, at_of (j := k) rfl (by rw [List.getElem?_map, List.getElem?_eq_getElem hlt]; rfl), ?_⟩
    exact k2 k _ ek (List.getElem?_eq_getElem hlt) _ ⟨⟨dx, upd_same⟩, g2, h3.mv (Nat.le_of_lt hlt)⟩ But1.upd
def sp_Reel_at (C : Addr) : Sp := fun vs H Q _ => ∃ (p l : Addr) (R : Rl), vs = [.ref p] ∧ RlAt C H p l R ∧ Q (.int (R.at_ : Nat)) H
theorem ok_Reel_at (T : Txt K mg) : FnOk P w K mg base (L2.CX P w) 1 T.Reel_at.a T.Reel_at.d ["self"] (sp_Reel_at T.Reel.C) := by
  refine T.Reel_at.F.okX sc_Reel_at (fun vs H Q E h => ?_) (fun cdv A outer s0 H vs Q E hr h => ?_)
  · obtain ⟨p, l, R, rfl, _⟩ := h
    rfl
  · obtain ⟨p, l, R, rfl, hR, k⟩ := h
    refine ⟨_, (pss_one (ps_ret (pe_fld (pv 0) rfl))), ?_⟩
    obtain ⟨⟨dx, h1⟩, h2, h3⟩ := id hR
    exact ⟨_, rfl, p, _, dx, _, _, rfl, h1, T.Reel.cl, T.n_Reel_place, fs_place _ _, k⟩
def sp_Reel_content (C : Addr) : Sp := fun vs H Q _ => ∃ (p l : Addr) (R : Rl), vs = [.ref p] ∧ RlAt C H p l R ∧ ∀ q, H q = none → Q (.ref q) (upd H q (.lst (R.xs.map itm)))
theorem ok_Reel_content (T : Txt K mg) : FnOk P w K mg base (L2.CX P w) 1 T.Reel_content.a T.Reel_content.d ["self"] (sp_Reel_content T.Reel.C) := by
  refine T.Reel_content.F.okX sc_Reel_content (fun vs H Q E h => ?_) (fun cdv A outer s0 H vs Q E hr h => ?_)
  · obtain ⟨p, l, R, rfl, _⟩ := h
    rfl
  · obtain ⟨p, l, R, rfl, hR, k⟩ := h
    refine ⟨_, (pss_one (ps_ret (pe_callTy call_list_of (by rfl) T.z_list (by decide +kernel) (pa_cons (pe_fld (pv 0) rfl) pa_nil)))), ?_⟩
    obtain ⟨⟨dx, h1⟩, h2, h3⟩ := id hR
    exact ⟨_, rfl, p, _, dx, _, _, rfl, h1, T.Reel.cl, T.n_Reel_stuff, fs_stuff _ _, l, _, rfl, .inl (SqL.of h2), k⟩
def sp_Reel_tear (K : PySem.W.Frag) (C CN : Addr) : Sp := fun vs H Q E => ∃ (p l : Addr) (R : Rl) (x : V) (n : String), vs = [.ref p, x] ∧ RlAt C H p l R ∧ Pl K H x n ∧ (isWhole x 0 (R.xs.length : Nat) = false → E (.ref CN) none H) ∧
  ∀ k : Nat, x = .int k → k ≤ R.xs.length → ∀ l' H', H l' = none → RlAt C H' p l' (R.tear k) → But1 p H H' → Q .non H'
theorem ok_Reel_tear (T : Txt K mg) : FnOk P w K mg base (L2.CX P w) 3 T.Reel_tear.a T.Reel_tear.d ["self", "at"] (sp_Reel_tear K T.Reel.C T.BadNumber.C) := by
  refine T.Reel_tear.F.okX sc_Reel_tear (fun vs H Q E h => ?_) (fun cdv A outer s0 H vs Q E hr h => ?_)
  · obtain ⟨p, l, R, x, n, rfl, _⟩ := h
    rfl
  · obtain ⟨p, l, R, x, n, rfl, hR, hp, k1, k2⟩ := h
    refine ⟨_, (pss_cons (ps_expr (pe_call (ok_look_number T) (hr.mono (by decide)) (by rfl) T.look_number.g T.look_number.F.kp T.look_number.b .nil (passes_call (takes_of rfl rfl rfl rfl) (fun _ _ _ _ h => h)) (pa_cons (pv 1) (pa_cons pe_int (pa_cons (pe_callB call_len_seq (by rfl) T.z_len PySem.boot_len (pa_cons (pe_fld (pv 0) rfl) pa_nil)) pa_nil)))))
    (pss_cons (ps_fld (pv 0) (pe_slice sl_list (pe_fld (pv 0) rfl) po_none (po_some (pv 1))) rfl)
    (pss_one (ps_fld (pv 0) pe_int rfl)))), ?_⟩
    obtain ⟨⟨dx, h1⟩, h2, h3⟩ := id hR
    refine ⟨_, rfl, _, rfl, p, _, dx, _, _, rfl, h1, T.Reel.cl, T.n_Reel_stuff, fs_stuff _ _, _, _, rfl, .inl (SqL.of h2), x, n, 0, _, rfl, hp, fun e => ?_, fun e => k1 (by rw [← e, List.length_map])⟩
    rw [List.length_map] at e
    obtain ⟨k, rfl, hk⟩ : ∃ k : Nat, x = .int k ∧ k ≤ R.xs.length := by
      cases x with
      | int i =>
        have : (decide (0 ≤ i) && decide (i ≤ (R.xs.length : Nat))) = true := e
        simp only [Bool.and_eq_true, decide_eq_true_eq] at this
        exact ⟨i.toNat, by congr 1; omega, by omega⟩
      | _ => cases e
    refine ⟨_, rfl, p, _, dx, _, _, rfl, h1, T.Reel.cl, T.n_Reel_stuff, fs_stuff _ _, _, rfl, _, rfl, l, _, rfl, SqL.of h2, fun q nq => ?_⟩
    have ec : cutV (R.xs.map itm) none (some (k : Int)) = (R.xs.take k).map itm := by
      show sl (R.xs.map itm) none (some (k : Int)) = _
      rw [sl_to, List.map_take]
    rw [ec]
    have npq : p ≠ q := ne_of_none h1 nq
    refine ⟨_, rfl, p, _, dx, _, rfl, (by rw [upd_ne npq]; exact h1), T.Reel.cl, T.n_Reel_stuff, fs_few _ _, ?_⟩
    refine ⟨_, rfl, p, _, dx, _, rfl, upd_same, T.Reel.cl, T.n_Reel_place, fs_few R q, ?_⟩
    exact k2 k rfl hk q _ nq ⟨⟨dx, upd_same⟩, by rw [upd_ne npq.symm, upd_ne npq.symm, upd_same]; rfl, h3.tear k⟩ ((But1.of_same (same_new nq)).trans (But1.upd.trans But1.upd))
end
end R
set_option maxRecDepth 100000
set_option maxHeartbeats 4000000
namespace R
open PySem PySem.Spec PyProof.Rows L2 RZ
open PySem.W (Datum)
theorem skF_zero (mk : Bool) (ys : List (Option (List Nat))) : skF mk ys 0 = (0, 0) := by cases ys <;> rfl
theorem skF_nil (mk : Bool) (n : Nat) : skF mk [] n = (0, 0) := by cases n <;> rfl
theorem skF_stop (r : List (Option (List Nat))) (n : Nat) : skF false (none :: r) (n + 1) = (1, 0) := by
  show (if (none : Option (List Nat)) = none ∧ false = false then (1, 0) else _) = _
  rw [if_pos ⟨rfl, rfl⟩]
theorem skF_go {mk : Bool} {o : Option (List Nat)} (r : List (Option (List Nat))) (n c : Nat) (h : ¬ (o = none ∧ mk = false)) (hc : (if mk = false ∨ o = none then 1 else 0) = c) : skF mk (o :: r) (n + 1) = ((skF mk r (n + 1 - c)).1 + 1, (skF mk r (n + 1 - c)).2 + c) := by
  show (if o = none ∧ mk = false then _ else _) = _
  rw [if_neg h]
  dsimp only
  rw [hc]
/-- what lies ahead of the tape's head, on or back -/
def dirL (fw : Bool) (xs : List (Option (List Nat))) (a : Nat) : List (Option (List Nat)) := if fw = true then xs.drop a else (xs.take a).reverse
def dirP (fw : Bool) (a m : Nat) : Nat := if fw = true then a + m else a - m
theorem dirL_len (fw : Bool) (xs : List (Option (List Nat))) {a : Nat} (h : a ≤ xs.length) : (dirL fw xs a).length = if fw = true then xs.length - a else a := by
  unfold dirL
  cases fw with
  | true => rw [if_pos rfl, if_pos rfl, List.length_drop]
  | false => rw [if_neg Bool.false_ne_true, if_neg Bool.false_ne_true, List.length_reverse, List.length_take]; omega
theorem dirL_fw (xs : List (Option (List Nat))) (a m : Nat) : (dirL true xs a)[m]? = xs[a + m]? := by
  unfold dirL
  rw [if_pos rfl, List.getElem?_drop]
theorem dirL_bw (xs : List (Option (List Nat))) {a m k : Nat} (h : a ≤ xs.length) (e : a - m = k + 1) : (dirL false xs a)[m]? = xs[k]? := by
  unfold dirL
  rw [if_neg Bool.false_ne_true, List.getElem?_reverse (by rw [List.length_take]; omega), List.length_take, List.getElem?_take, if_pos (by omega)]
  congr 1
  omega
theorem drop_of {α : Type} {ys : List α} {m : Nat} {o : α} (h : ys[m]? = some o) : ys.drop m = o :: ys.drop (m + 1) := by
  obtain ⟨h1, h2⟩ := List.getElem?_eq_some_iff.mp h
  rw [List.drop_eq_getElem_cons h1, h2]
/-- how far the loop has come -/
def SkI (mk : Bool) (ys : List (Option (List Nat))) (need m d : Nat) : Prop := m ≤ ys.length ∧ d ≤ need ∧ skF mk ys need = (m + (skF mk (ys.drop m) (need - d)).1, d + (skF mk (ys.drop m) (need - d)).2)
theorem SkI.start (mk : Bool) (ys : List (Option (List Nat))) (need : Nat) : SkI mk ys need 0 0 := ⟨Nat.zero_le _, Nat.zero_le _, by
  rw [List.drop_zero, Nat.sub_zero, Nat.zero_add, Nat.zero_add]⟩
theorem SkI.full {mk : Bool} {ys : List (Option (List Nat))} {need m d : Nat} (h : SkI mk ys need m d) (e : need ≤ d) : skF mk ys need = (m, d) := by
  obtain ⟨h1, h2, h3⟩ := h
  rw [show need - d = 0 by omega, skF_zero] at h3
  exact h3
theorem SkI.end_ {mk : Bool} {ys : List (Option (List Nat))} {need m d : Nat} (h : SkI mk ys need m d) (e : m = ys.length) : skF mk ys need = (m, d) := by
  obtain ⟨h1, h2, h3⟩ := h
  rw [e, List.drop_length, skF_nil] at h3
  rw [h3, e]
  rfl
theorem SkI.stop {ys : List (Option (List Nat))} {need m d : Nat} (h : SkI false ys need m d) (l : d < need) (e : ys[m]? = some none) : skF false ys need = (m + 1, d) := by
  obtain ⟨h1, h2, h3⟩ := h
  obtain ⟨n, en⟩ : ∃ n, need - d = n + 1 := ⟨need - d - 1, by omega⟩
  rw [drop_of e, en, skF_stop] at h3
  exact h3
theorem SkI.go {mk : Bool} {ys : List (Option (List Nat))} {need m d c : Nat} {o : Option (List Nat)} (h : SkI mk ys need m d) (l : d < need) (e : ys[m]? = some o) (ho : ¬ (o = none ∧ mk = false)) (hc : (if mk = false ∨ o = none then 1 else 0) = c) : SkI mk ys need (m + 1) (d + c) := by
  obtain ⟨h1, h2, h3⟩ := h
  obtain ⟨n, en⟩ : ∃ n, need - d = n + 1 := ⟨need - d - 1, by omega⟩
  have hc1 : c ≤ 1 := by rw [← hc]; split <;> omega
  rw [drop_of e, en, skF_go _ _ c ho hc] at h3
  refine ⟨(List.getElem?_eq_some_iff.mp e).1, by omega, ?_⟩
  rw [h3, show need - (d + c) = n + 1 - c by omega]
  congr 1
  · show m + (_ + 1) = m + 1 + _
    omega
  · show d + (_ + c) = d + c + _
    omega
theorem abs_nat (i : Int) : (if i < 0 then -i else i) = ((i.natAbs : Nat) : Int) := by split <;> omega
section
variable {P : Program} {w : World} {K : PySem.W.Frag} {mg : Str → Option Value} {base : Heap}
def spSkip (mk : Bool) (K : PySem.W.Frag) (C CN : Addr) : Sp := fun vs H Q E => ∃ (p l : Addr) (R : Rl) (x : V) (n : String), vs = [.ref p, x] ∧ RlAt C H p l R ∧ Pl K H x n ∧ (isWhole x (-5000) 5000 = false → E (.ref CN) none H) ∧
  ∀ i, x = .int i → -5000 ≤ i → i ≤ 5000 → ∀ m d, skF mk (dirL (decide (0 < i)) R.xs R.at_) i.natAbs = (m, d) → ∀ H', RlAt C H' p l (R.mv (dirP (decide (0 < i)) R.at_ m)) → But1 p H H' → Q (.int (d : Nat)) H'
theorem ok_Reel_skip (T : Txt K mg) : FnOk P w K mg base (L2.CX P w) 2 T.Reel_skip.a T.Reel_skip.d ["self", "many"] (spSkip false K T.Reel.C T.BadNumber.C) := by
  refine T.Reel_skip.F.okX sc_Reel_skip (fun vs H Q E h => ?_) (fun cdv A outer s0 H vs Q E hr h => ?_)
  · obtain ⟨p, l, R, x, n, rfl, _⟩ := h
    rfl
  · obtain ⟨p, l, R, x, n, rfl, hR, hp, k1, k2⟩ := h
    refine ⟨_, (pss_cons (ps_if (pt_not (pt_val (pe_call (ok_is_whole T) (hr.mono (by decide)) (by rfl) T.is_whole.g T.is_whole.F.kp T.is_whole.b .nil (passes_call (takes_of rfl rfl rfl rfl) (fun _ _ _ _ h => h)) (pa_cons (pv 1) (pa_cons (pe_un un_neg (pe_glob (v := .int 5000) rfl T.MOST_LONG.g ⟨_, rfl⟩)) (pa_cons (pe_glob (v := .int 5000) rfl T.MOST_LONG.g ⟨_, rfl⟩) pa_nil))))))
      (pss_one (ps_raise rfl (takes_of rfl rfl rfl rfl) (pmk_own PySem.F.excBase_ValueError T.BadNumber.x T.BadNumber.g T.BadNumber.k (raises_own T.BadNumber.b T.BadNumber.t) (by exact rfl))))
      pss_nil)
    (pss_cons (ps_set (i := 2) sc_Reel_skip.nd rfl (.inl rfl) pe_int)
    (pss_cons (ps_while (passes_of rfl) (pt_cmpR op_lt (pv 2) (pe_callB call_abs (by rfl) T.z_abs (by decide +kernel) (pa_cons (pv 1) pa_nil)) (nomark _))
      (pss_cons (ps_if (pt_cmpR op_eq (pe_fld (pv 0) rfl) (pe_ifExp (pt_cmpR op_gt (pv 1) pe_int (nomark _)) (pe_callB call_len_seq (by rfl) T.z_len PySem.boot_len (pa_cons (pe_fld (pv 0) rfl) pa_nil)) pe_int) (nomark _))
        (pss_one (ps_ret (pv 2)))
        pss_nil)
      (pss_cons (ps_if (pt_cmpR op_isN (pe_ifExp (pt_cmpR op_gt (pv 1) pe_int (nomark _)) (pe_meth0 (pv 0) T.Reel.cl T.Reel_read.m (ok_Reel_read T) (hr.mono (by decide)) T.Reel_read.b .nil (passes_call (takes_of rfl rfl rfl rfl) (fun _ _ _ _ h => h))) (pe_meth0 (pv 0) T.Reel.cl T.Reel_read_back.m (ok_Reel_read_back T) (hr.mono (by decide)) T.Reel_read_back.b .nil (passes_call (takes_of rfl rfl rfl rfl) (fun _ _ _ _ h => h)))) pe_non (nomark _))
        (pss_one (ps_ret (pv 2)))
        pss_nil)
      (pss_one (ps_aug (i := 2) sc_Reel_skip.nd rfl (.inl rfl) pe_int ip_add)))))
    (pss_one (ps_ret (pv 2)))))), ?_⟩
    obtain ⟨⟨dx, h1⟩, h2, h3⟩ := id hR
    refine ⟨_, rfl, _, rfl, x, n, -5000, 5000, rfl, hp, _, rfl, iteNB (fun e => k1 e) (fun e => ?_)⟩
    obtain ⟨i, rfl, hi1, hi2⟩ : ∃ i, x = .int i ∧ -5000 ≤ i ∧ i ≤ 5000 := by
      cases x with
      | int i =>
        have : (decide (-5000 ≤ i) && decide (i ≤ 5000)) = true := e
        simp only [Bool.and_eq_true, decide_eq_true_eq] at this
        exact ⟨i, rfl, this.1, this.2⟩
      | _ => cases e
    have kk : ∀ m d, skF false (dirL (decide (0 < i)) R.xs R.at_) i.natAbs = (m, d) → ∀ H', RlAt T.Reel.C H' p l (R.mv (dirP (decide (0 < i)) R.at_ m)) → But1 p H H' → Q (.int (d : Nat)) H' := k2 i rfl hi1 hi2
    have hlen := dirL_len (decide (0 < i)) R.xs h3.a
    generalize hfw : decide (0 < i) = fw at kk hlen
    have hbw : ∀ {A B : Prop}, (fw = true → A) → (fw = false → B) → if decide (i > 0) = true then A else B := fun {A B} a b => by
      rw [show decide (i > 0) = fw from hfw]
      exact iteB a b
    refine ⟨fun μ σ H' => ∃ m d : Nat, σ = [some (.ref p), some (.int i), some (.int (d : Nat))] ∧ RlAt T.Reel.C H' p l (R.mv (dirP fw R.at_ m)) ∧ But1 p H H' ∧ SkI false (dirL fw R.xs R.at_) i.natAbs m d ∧ μ = (dirL fw R.xs R.at_).length - m,
      ⟨_, 0, 0, rfl, ?_, fun b o hb _ => hb, SkI.start _ _ _, rfl⟩, fun μ σ H' w0 => ?_⟩
    · have : dirP fw R.at_ 0 = R.at_ := by cases fw <;> rfl
      rw [this]; exact hR
    obtain ⟨m, d, rfl, hR1, b1, hI, rfl⟩ := w0
    refine ⟨_, rfl, _, rfl, _, rfl, _, _, rfl, rfl, _, rfl, ?_⟩
    rw [abs_nat]
    refine iteD (fun e1 => ?_) (fun e1 => ?_)
    · have e1' : d < i.natAbs := by omega
      refine ⟨fun σ' H2 => ∃ μ' , μ' < (dirL fw R.xs R.at_).length - m ∧ ∃ m d : Nat, σ' = [some (.ref p), some (.int i), some (.int (d : Nat))] ∧ RlAt T.Reel.C H2 p l (R.mv (dirP fw R.at_ m)) ∧ But1 p H H2 ∧ SkI false (dirL fw R.xs R.at_) i.natAbs m d ∧ μ' = (dirL fw R.xs R.at_).length - m, fun σ' H2 h => h, ?_⟩
      obtain ⟨⟨dx1, g1⟩, g2, g3⟩ := id hR1
      have ha := h3.a
      have hm := hI.1
      have atEnd : ∀ b : Bool, (b = true ↔ m = (dirL fw R.xs R.at_).length) → ∀ {A B : Prop}, (m = (dirL fw R.xs R.at_).length → A) → (m < (dirL fw R.xs R.at_).length → B) → if b = true then A else B := fun b hb {A B} a c => iteB (fun e => a (hb.mp e)) (fun e => c (by
        have : ¬ m = (dirL fw R.xs R.at_).length := fun h => by rw [hb.mpr h] at e; cases e
        omega))
      refine ⟨_, rfl, p, _, dx1, _, _, rfl, g1, T.Reel.cl, T.n_Reel_place, fs_place _ _, _, rfl, _, _, rfl, rfl, _, rfl, hbw (fun ef => ?_) (fun ef => ?_)⟩
      · subst ef
        rw [if_pos rfl] at hlen
        refine ⟨_, rfl, p, _, dx1, _, _, rfl, g1, T.Reel.cl, T.n_Reel_stuff, fs_stuff _ _, _, _, rfl, .inl (SqL.of g2), rfl, _, rfl, ?_⟩
        rw [dec_int, List.length_map]
        refine atEnd _ ?_ (fun e2 => ?_) (fun e2 => ?_)
        · rw [beq_iff_eq]
          show ((R.at_ + m : Nat) : Int) = (R.xs.length : Nat) ↔ _
          omega
        · exact ⟨_, rfl, kk m d (hI.end_ e2) _ hR1 b1⟩
        · obtain ⟨o, ho⟩ : ∃ o, (dirL true R.xs R.at_)[m]? = some o := ⟨_, List.getElem?_eq_getElem e2⟩
          have ho2 := ho
          rw [dirL_fw] at ho2
          refine ⟨_, rfl, _, _, rfl, rfl, _, rfl, hbw (fun _ => ?_) (fun ef => nomatch ef)⟩
          refine ⟨_, rfl, p, dx1, _, rfl, g1, rfl, p, l, _, rfl, hR1, fun e3 => absurd (show R.at_ + m = R.xs.length from e3) (by omega), fun o' ho' H2 hR2 b2 => ?_⟩
          have eo : o' = o := Option.some.inj ((show R.xs[R.at_ + m]? = some o' from ho').symm.trans ho2)
          subst eo
          have hR2' : RlAt T.Reel.C H2 p l (R.mv (dirP true R.at_ (m + 1))) := hR2
          cases o' with
          | none => exact ⟨rfl, _, rfl, iteT ⟨_, rfl, kk (m + 1) d (hI.stop e1' ho) _ hR2' (b1.trans b2)⟩⟩
          | some z => exact ⟨rfl, _, rfl, iteF ⟨_, rfl, _, _, rfl, rfl, _, by omega, m + 1, d + 1, rfl, hR2', b1.trans b2, hI.go e1' ho (fun h => nomatch h.1) rfl, rfl⟩⟩
      · subst ef
        rw [if_neg Bool.false_ne_true] at hlen
        refine ⟨rfl, _, rfl, ?_⟩
        rw [dec_int]
        refine atEnd _ ?_ (fun e2 => ?_) (fun e2 => ?_)
        · rw [beq_iff_eq]
          show ((R.at_ - m : Nat) : Int) = 0 ↔ _
          omega
        · exact ⟨_, rfl, kk m d (hI.end_ e2) _ hR1 b1⟩
        · obtain ⟨o, ho⟩ : ∃ o, (dirL false R.xs R.at_)[m]? = some o := ⟨_, List.getElem?_eq_getElem e2⟩
          refine ⟨_, rfl, _, _, rfl, rfl, _, rfl, hbw (fun ef => nomatch ef) (fun _ => ?_)⟩
          refine ⟨_, rfl, p, dx1, _, rfl, g1, rfl, p, l, _, rfl, hR1, fun e3 => absurd (show R.at_ - m = 0 from e3) (by omega), fun k o' hk ho' H2 hR2 b2 => ?_⟩
          have hk' : R.at_ - m = k + 1 := hk
          have eo : o' = o := by
            have h5 := dirL_bw R.xs ha hk'
            rw [ho] at h5
            exact Option.some.inj ((show R.xs[k]? = some o' from ho').symm.trans h5.symm)
          subst eo
          have hR2' : RlAt T.Reel.C H2 p l (R.mv (dirP false R.at_ (m + 1))) := by
            have : dirP false R.at_ (m + 1) = k := by show R.at_ - (m + 1) = k; omega
            rw [this]; exact hR2
          cases o' with
          | none => exact ⟨rfl, _, rfl, iteT ⟨_, rfl, kk (m + 1) d (hI.stop e1' ho) _ hR2' (b1.trans b2)⟩⟩
          | some z => exact ⟨rfl, _, rfl, iteF ⟨_, rfl, _, _, rfl, rfl, _, by omega, m + 1, d + 1, rfl, hR2', b1.trans b2, hI.go e1' ho (fun h => nomatch h.1) rfl, rfl⟩⟩
    · exact ⟨_, rfl, kk m d (hI.full (by omega)) _ hR1 b1⟩
theorem ok_Reel_skip_marks (T : Txt K mg) : FnOk P w K mg base (L2.CX P w) 2 T.Reel_skip_marks.a T.Reel_skip_marks.d ["self", "many"] (spSkip true K T.Reel.C T.BadNumber.C) := by
  refine T.Reel_skip_marks.F.okX sc_Reel_skip_marks (fun vs H Q E h => ?_) (fun cdv A outer s0 H vs Q E hr h => ?_)
  · obtain ⟨p, l, R, x, n, rfl, _⟩ := h
    rfl
  · obtain ⟨p, l, R, x, n, rfl, hR, hp, k1, k2⟩ := h
    refine ⟨_, (pss_cons (ps_if (pt_not (pt_val (pe_call (ok_is_whole T) (hr.mono (by decide)) (by rfl) T.is_whole.g T.is_whole.F.kp T.is_whole.b .nil (passes_call (takes_of rfl rfl rfl rfl) (fun _ _ _ _ h => h)) (pa_cons (pv 1) (pa_cons (pe_un un_neg (pe_glob (v := .int 5000) rfl T.MOST_LONG.g ⟨_, rfl⟩)) (pa_cons (pe_glob (v := .int 5000) rfl T.MOST_LONG.g ⟨_, rfl⟩) pa_nil))))))
      (pss_one (ps_raise rfl (takes_of rfl rfl rfl rfl) (pmk_own PySem.F.excBase_ValueError T.BadNumber.x T.BadNumber.g T.BadNumber.k (raises_own T.BadNumber.b T.BadNumber.t) (by exact rfl))))
      pss_nil)
    (pss_cons (ps_set (i := 2) sc_Reel_skip_marks.nd rfl (.inl rfl) pe_int)
    (pss_cons (ps_while (passes_of rfl) (pt_cmpR op_lt (pv 2) (pe_callB call_abs (by rfl) T.z_abs (by decide +kernel) (pa_cons (pv 1) pa_nil)) (nomark _))
      (pss_cons (ps_if (pt_cmpR op_eq (pe_fld (pv 0) rfl) (pe_ifExp (pt_cmpR op_gt (pv 1) pe_int (nomark _)) (pe_callB call_len_seq (by rfl) T.z_len PySem.boot_len (pa_cons (pe_fld (pv 0) rfl) pa_nil)) pe_int) (nomark _))
        (pss_one (ps_ret (pv 2)))
        pss_nil)
      (pss_one (ps_if (pt_cmpR op_isN (pe_ifExp (pt_cmpR op_gt (pv 1) pe_int (nomark _)) (pe_meth0 (pv 0) T.Reel.cl T.Reel_read.m (ok_Reel_read T) (hr.mono (by decide)) T.Reel_read.b .nil (passes_call (takes_of rfl rfl rfl rfl) (fun _ _ _ _ h => h))) (pe_meth0 (pv 0) T.Reel.cl T.Reel_read_back.m (ok_Reel_read_back T) (hr.mono (by decide)) T.Reel_read_back.b .nil (passes_call (takes_of rfl rfl rfl rfl) (fun _ _ _ _ h => h)))) pe_non (nomark _))
        (pss_one (ps_aug (i := 2) sc_Reel_skip_marks.nd rfl (.inl rfl) pe_int ip_add))
        pss_nil))))
    (pss_one (ps_ret (pv 2)))))), ?_⟩
    obtain ⟨⟨dx, h1⟩, h2, h3⟩ := id hR
    refine ⟨_, rfl, _, rfl, x, n, -5000, 5000, rfl, hp, _, rfl, iteNB (fun e => k1 e) (fun e => ?_)⟩
    obtain ⟨i, rfl, hi1, hi2⟩ : ∃ i, x = .int i ∧ -5000 ≤ i ∧ i ≤ 5000 := by
      cases x with
      | int i =>
        have : (decide (-5000 ≤ i) && decide (i ≤ 5000)) = true := e
        simp only [Bool.and_eq_true, decide_eq_true_eq] at this
        exact ⟨i, rfl, this.1, this.2⟩
      | _ => cases e
    have kk : ∀ m d, skF true (dirL (decide (0 < i)) R.xs R.at_) i.natAbs = (m, d) → ∀ H', RlAt T.Reel.C H' p l (R.mv (dirP (decide (0 < i)) R.at_ m)) → But1 p H H' → Q (.int (d : Nat)) H' := k2 i rfl hi1 hi2
    have hlen := dirL_len (decide (0 < i)) R.xs h3.a
    generalize hfw : decide (0 < i) = fw at kk hlen
    have hbw : ∀ {A B : Prop}, (fw = true → A) → (fw = false → B) → if decide (i > 0) = true then A else B := fun {A B} a b => by
      rw [show decide (i > 0) = fw from hfw]
      exact iteB a b
    refine ⟨fun μ σ H' => ∃ m d : Nat, σ = [some (.ref p), some (.int i), some (.int (d : Nat))] ∧ RlAt T.Reel.C H' p l (R.mv (dirP fw R.at_ m)) ∧ But1 p H H' ∧ SkI true (dirL fw R.xs R.at_) i.natAbs m d ∧ μ = (dirL fw R.xs R.at_).length - m,
      ⟨_, 0, 0, rfl, ?_, fun b o hb _ => hb, SkI.start _ _ _, rfl⟩, fun μ σ H' w0 => ?_⟩
    · have : dirP fw R.at_ 0 = R.at_ := by cases fw <;> rfl
      rw [this]; exact hR
    obtain ⟨m, d, rfl, hR1, b1, hI, rfl⟩ := w0
    refine ⟨_, rfl, _, rfl, _, rfl, _, _, rfl, rfl, _, rfl, ?_⟩
    rw [abs_nat]
    refine iteD (fun e1 => ?_) (fun e1 => ?_)
    · have e1' : d < i.natAbs := by omega
      refine ⟨fun σ' H2 => ∃ μ' , μ' < (dirL fw R.xs R.at_).length - m ∧ ∃ m d : Nat, σ' = [some (.ref p), some (.int i), some (.int (d : Nat))] ∧ RlAt T.Reel.C H2 p l (R.mv (dirP fw R.at_ m)) ∧ But1 p H H2 ∧ SkI true (dirL fw R.xs R.at_) i.natAbs m d ∧ μ' = (dirL fw R.xs R.at_).length - m, fun σ' H2 h => h, ?_⟩
      obtain ⟨⟨dx1, g1⟩, g2, g3⟩ := id hR1
      have ha := h3.a
      have hm := hI.1
      have atEnd : ∀ b : Bool, (b = true ↔ m = (dirL fw R.xs R.at_).length) → ∀ {A B : Prop}, (m = (dirL fw R.xs R.at_).length → A) → (m < (dirL fw R.xs R.at_).length → B) → if b = true then A else B := fun b hb {A B} a c => iteB (fun e => a (hb.mp e)) (fun e => c (by
        have : ¬ m = (dirL fw R.xs R.at_).length := fun h => by rw [hb.mpr h] at e; cases e
        omega))
      refine ⟨_, rfl, p, _, dx1, _, _, rfl, g1, T.Reel.cl, T.n_Reel_place, fs_place _ _, _, rfl, _, _, rfl, rfl, _, rfl, hbw (fun ef => ?_) (fun ef => ?_)⟩
      · subst ef
        rw [if_pos rfl] at hlen
        refine ⟨_, rfl, p, _, dx1, _, _, rfl, g1, T.Reel.cl, T.n_Reel_stuff, fs_stuff _ _, _, _, rfl, .inl (SqL.of g2), rfl, _, rfl, ?_⟩
        rw [dec_int, List.length_map]
        refine atEnd _ ?_ (fun e2 => ?_) (fun e2 => ?_)
        · rw [beq_iff_eq]
          show ((R.at_ + m : Nat) : Int) = (R.xs.length : Nat) ↔ _
          omega
        · exact ⟨_, rfl, kk m d (hI.end_ e2) _ hR1 b1⟩
        · obtain ⟨o, ho⟩ : ∃ o, (dirL true R.xs R.at_)[m]? = some o := ⟨_, List.getElem?_eq_getElem e2⟩
          have ho2 := ho
          rw [dirL_fw] at ho2
          refine ⟨_, rfl, _, _, rfl, rfl, _, rfl, hbw (fun _ => ?_) (fun ef => nomatch ef)⟩
          refine ⟨_, rfl, p, dx1, _, rfl, g1, rfl, p, l, _, rfl, hR1, fun e3 => absurd (show R.at_ + m = R.xs.length from e3) (by omega), fun o' ho' H2 hR2 b2 => ?_⟩
          have eo : o' = o := Option.some.inj ((show R.xs[R.at_ + m]? = some o' from ho').symm.trans ho2)
          subst eo
          have hR2' : RlAt T.Reel.C H2 p l (R.mv (dirP true R.at_ (m + 1))) := hR2
          cases o' with
          | none => exact ⟨rfl, _, rfl, iteT ⟨_, rfl, _, _, rfl, rfl, _, by omega, m + 1, d + 1, rfl, hR2', b1.trans b2, hI.go e1' ho (fun h => nomatch h.2) rfl, rfl⟩⟩
          | some z => exact ⟨rfl, _, rfl, iteF ⟨_, by omega, m + 1, d + 0, rfl, hR2', b1.trans b2, hI.go e1' ho (fun h => nomatch h.1) rfl, rfl⟩⟩
      · subst ef
        rw [if_neg Bool.false_ne_true] at hlen
        refine ⟨rfl, _, rfl, ?_⟩
        rw [dec_int]
        refine atEnd _ ?_ (fun e2 => ?_) (fun e2 => ?_)
        · rw [beq_iff_eq]
          show ((R.at_ - m : Nat) : Int) = 0 ↔ _
          omega
        · exact ⟨_, rfl, kk m d (hI.end_ e2) _ hR1 b1⟩
        · obtain ⟨o, ho⟩ : ∃ o, (dirL false R.xs R.at_)[m]? = some o := ⟨_, List.getElem?_eq_getElem e2⟩
          refine ⟨_, rfl, _, _, rfl, rfl, _, rfl, hbw (fun ef => nomatch ef) (fun _ => ?_)⟩
          refine ⟨_, rfl, p, dx1, _, rfl, g1, rfl, p, l, _, rfl, hR1, fun e3 => absurd (show R.at_ - m = 0 from e3) (by omega), fun k o' hk ho' H2 hR2 b2 => ?_⟩
          have hk' : R.at_ - m = k + 1 := hk
          have eo : o' = o := by
            have h5 := dirL_bw R.xs ha hk'
            rw [ho] at h5
            exact Option.some.inj ((show R.xs[k]? = some o' from ho').symm.trans h5.symm)
          subst eo
          have hR2' : RlAt T.Reel.C H2 p l (R.mv (dirP false R.at_ (m + 1))) := by
            have : dirP false R.at_ (m + 1) = k := by show R.at_ - (m + 1) = k; omega
            rw [this]; exact hR2
          cases o' with
          | none => exact ⟨rfl, _, rfl, iteT ⟨_, rfl, _, _, rfl, rfl, _, by omega, m + 1, d + 1, rfl, hR2', b1.trans b2, hI.go e1' ho (fun h => nomatch h.2) rfl, rfl⟩⟩
          | some z => exact ⟨rfl, _, rfl, iteF ⟨_, by omega, m + 1, d + 0, rfl, hR2', b1.trans b2, hI.go e1' ho (fun h => nomatch h.1) rfl, rfl⟩⟩
    · exact ⟨_, rfl, kk m d (hI.full (by omega)) _ hR1 b1⟩
end
end R
set_option maxRecDepth 100000
set_option maxHeartbeats 8000000
namespace R
open PySem PySem.Spec PyProof.Rows L2 RZ
open PySem.W (Datum)
def told : V := .str (S [116, 111, 108, 100])
def word (j : Nat) : V := .str (S (W14.getD j []))
section
variable {P : Program} {w : World} {K : PySem.W.Frag} {mg : Str → Option Value} {base : Heap}
/-- a reel that is made, or why not -/
def sp__law_made (K : PySem.W.Frag) : Sp := fun vs H Q _ => ∃ (sv nv : V) (n1 n2 : String), vs = [sv, nv] ∧ Pl K H sv n1 ∧ Sz sv ∧ Pl K H nv n2 ∧
  ((isName sv 6 = false ∧ ∀ H', Same H H' → Q (word 1) H') ∨ (isName sv 6 = true ∧ isWhole nv 150 5000 = false ∧ ∀ H', Same H H' → Q (word 0) H'))
theorem ok__law_made (T : Txt K mg) : FnOk P w K mg base (L2.CX P w) 5 T._law_made.a T._law_made.d ["_law_serial", "_law_long"] (sp__law_made K) := by
  refine T._law_made.F.okX sc__law_made (fun vs H Q E h => ?_) (fun cdv A outer s0 H vs Q E hr h => ?_)
  · obtain ⟨sv, nv, n1, n2, rfl, _⟩ := h
    rfl
  · obtain ⟨sv, nv, n1, n2, rfl, h1, hz, h2, k⟩ := h
    refine ⟨_, (pss_cons (ps_set (i := 2) sc__law_made.nd rfl (.inl rfl) pe_non)
    (pss_cons (ps_try_keep (i := 3) rfl rfl sc__law_made.nd rfl rfl ⟨rfl, by decide, .inl T.ReelError.g⟩ rfl (fun W pn xe tk _ => (pss_one (ps_expr (pe_makeKS (T.Reel.mks T.Reel___init__.m) (ok_Reel___init__ T) (hr.mono (by decide)) (by rfl) T.Reel.g T.kb_Reel___init___length tk (pa_cons (pv 0) pa_nil) (pk_cons (pv 1) pk_nil))))) (fun a pn => (pss_one (ps_set (i := 2) sc__law_made.nd rfl (.inl rfl) (pv 3)))))
    (pss_one (ps_ret (pe_ifExp (pt_cmpR op_isN (pv 2) pe_non (nomark _)) (pe_strS (l := [116, 111, 108, 100]) (by decide +kernel)) (pe_call (ok__law_refusal T) (hr.mono (by decide)) (by rfl) T._law_refusal.g T._law_refusal.F.kp T._law_refusal.b .nil passL (pa_cons (pv 2) pa_nil))))))), ?_⟩
    refine ⟨_, rfl, _, rfl, rfl, rfl, fun x dx nx ndx ndp => ?_⟩
    have s3 : Same H (upd (upd H dx (.own x)) x (.ins T.Reel.C dx [])) := (same_new ndx).trans (same_new (by rw [upd_ne ndp.symm]; exact nx))
    refine ⟨x, dx, sv, nv, n1, n2, rfl, upd_same, h1.same s3, hz, h2.same s3, fun no H1 s1 => ?_, fun yes no H1 s1 => ?_, fun s n es en hs hn1 hn2 => ?_⟩
    · rcases k with ⟨_, k⟩ | ⟨y, _⟩
      · exact ⟨_, rfl, rfl, (kind_BadName T).e, fun a na => ⟨_, rfl, fun _ => ⟨_, rfl, rfl, _, rfl, iteF ⟨_, rfl, a, _, 1, rfl, upd_same, kind_BadName T, fun H9 s9 => k _ (((s3.trans s1).trans (same_new na)).trans s9)⟩⟩⟩⟩
      · rw [y] at no; cases no
    · rcases k with ⟨y, _⟩ | ⟨_, _, k⟩
      · rw [y] at yes; cases yes
      · exact ⟨_, rfl, rfl, (kind_BadNumber T).e, fun a na => ⟨_, rfl, fun _ => ⟨_, rfl, rfl, _, rfl, iteF ⟨_, rfl, a, _, 0, rfl, upd_same, kind_BadNumber T, fun H9 s9 => k _ (((s3.trans s1).trans (same_new na)).trans s9)⟩⟩⟩⟩
    · exfalso
      subst es en
      rcases k with ⟨y, _⟩ | ⟨_, y, _⟩
      · rw [isName_S, hs] at y; cases y
      · have : (decide (150 ≤ n) && decide (n ≤ 5000)) = false := y
        rw [decide_eq_true hn1, decide_eq_true hn2] at this
        cases this
def toI : V → Int
  | .int i => i
  | _ => 0
def toL : V → List Nat
  | .str z => z.cps.toList
  | _ => []
/-- what a turn does to a reel: its refusal (by place in the row of refusals), or the reel behind it -/
def act (R : Rl) : Nat → V → Nat ⊕ Rl
  | 0, x => if isBlk x = false then .inl 1 else if R.rg = false then .inl 3 else if R.ln + 400 < R.used + cst (some (toL x)) then .inl 6 else .inr (R.put (some (toL x)))
  | 1, _ => if R.rg = false then .inl 3 else if R.ln + 400 < R.used + 4 then .inl 6 else .inr (R.put none)
  | 2, _ => if R.at_ = R.xs.length then .inl 4 else .inr (R.mv (R.at_ + 1))
  | 3, _ => if R.at_ = 0 then .inl 5 else .inr (R.mv (R.at_ - 1))
  | 4, x => if isWhole x (-5000) 5000 = false then .inl 0 else .inr (R.mv (dirP (decide (0 < toI x)) R.at_ (skF false (dirL (decide (0 < toI x)) R.xs R.at_) (toI x).natAbs).1))
  | 5, x => if isWhole x (-5000) 5000 = false then .inl 0 else .inr (R.mv (dirP (decide (0 < toI x)) R.at_ (skF true (dirL (decide (0 < toI x)) R.xs R.at_) (toI x).natAbs).1))
  | _, x => if isWhole x 0 (R.xs.length : Nat) = false then .inl 0 else .inr (R.tear (toI x).toNat)
def sp__law_does (T : Txt K mg) : Sp := fun vs H Q E => ∃ (p l : Addr) (R : Rl) (kd : Nat) (x : V) (n : String), vs = [.ref p, .int kd, x] ∧ kd < 7 ∧ RlAt T.Reel.C H p l R ∧ Pl K H x n ∧ Sz x ∧
  (∀ j D, act R kd x = .inl j → IsKind T D j → ∀ H', Same H H' → E (.ref D) none H') ∧
  (∀ R', act R kd x = .inr R' → ∀ v l' H', RlAt T.Reel.C H' p l' R' → But1 p H H' → (l' = l ∨ H l' = none) → Q v H')
theorem ok__law_does (T : Txt K mg) : FnOk P w K mg base (L2.CX P w) 5 T._law_does.a T._law_does.d ["_law_reel", "_law_kind", "_law_thing"] (sp__law_does T) := by
  refine T._law_does.F.okX sc__law_does (fun vs H Q E h => ?_) (fun cdv A outer s0 H vs Q E hr h => ?_)
  · obtain ⟨p, l, R, kd, x, n, rfl, _⟩ := h
    rfl
  · obtain ⟨p, l, R, kd, x, n, rfl, hk, hR, hp, hz, kE, kQ⟩ := h
    refine ⟨_, (pss_cons (ps_if (pt_cmpR op_eq (pv 1) pe_int (nomark _))
      (pss_one (ps_ret (pe_meth (pv 0) T.Reel.cl T.Reel_write.m (ok_Reel_write T) (hr.mono (by decide)) T.Reel_write.b .nil (passes_call (takes_of rfl rfl rfl rfl) (fun _ _ _ _ h => h)) (pa_cons (pv 2) pa_nil))))
      pss_nil)
    (pss_cons (ps_if (pt_cmpR op_eq (pv 1) pe_int (nomark _))
      (pss_one (ps_ret (pe_meth0 (pv 0) T.Reel.cl T.Reel_write_mark.m (ok_Reel_write_mark T) (hr.mono (by decide)) T.Reel_write_mark.b .nil (passes_call (takes_of rfl rfl rfl rfl) (fun _ _ _ _ h => h)))))
      pss_nil)
    (pss_cons (ps_if (pt_cmpR op_eq (pv 1) pe_int (nomark _))
      (pss_one (ps_ret (pe_meth0 (pv 0) T.Reel.cl T.Reel_read.m (ok_Reel_read T) (hr.mono (by decide)) T.Reel_read.b .nil (passes_call (takes_of rfl rfl rfl rfl) (fun _ _ _ _ h => h)))))
      pss_nil)
    (pss_cons (ps_if (pt_cmpR op_eq (pv 1) pe_int (nomark _))
      (pss_one (ps_ret (pe_meth0 (pv 0) T.Reel.cl T.Reel_read_back.m (ok_Reel_read_back T) (hr.mono (by decide)) T.Reel_read_back.b .nil (passes_call (takes_of rfl rfl rfl rfl) (fun _ _ _ _ h => h)))))
      pss_nil)
    (pss_cons (ps_if (pt_cmpR op_eq (pv 1) pe_int (nomark _))
      (pss_one (ps_ret (pe_meth (pv 0) T.Reel.cl T.Reel_skip.m (ok_Reel_skip T) (hr.mono (by decide)) T.Reel_skip.b .nil (passes_call (takes_of rfl rfl rfl rfl) (fun _ _ _ _ h => h)) (pa_cons (pv 2) pa_nil))))
      pss_nil)
    (pss_one (ps_ret (pe_ifExp (pt_cmpR op_eq (pv 1) pe_int (nomark _)) (pe_meth (pv 0) T.Reel.cl T.Reel_skip_marks.m (ok_Reel_skip_marks T) (hr.mono (by decide)) T.Reel_skip_marks.b .nil (passes_call (takes_of rfl rfl rfl rfl) (fun _ _ _ _ h => h)) (pa_cons (pv 2) pa_nil)) (pe_meth (pv 0) T.Reel.cl T.Reel_tear.m (ok_Reel_tear T) (hr.mono (by decide)) T.Reel_tear.b .nil (passes_call (takes_of rfl rfl rfl rfl) (fun _ _ _ _ h => h)) (pa_cons (pv 2) pa_nil)))))))))), ?_⟩
    obtain ⟨⟨dx, h1⟩, h2, h3⟩ := id hR
    match kd, hk with
    | 0, _ =>
      refine ⟨_, rfl, rfl, _, rfl, iteT ⟨_, rfl, p, dx, _, rfl, h1, rfl, _, rfl, p, l, R, x, n, rfl, hR, hp, hz, fun no H1 s1 => ?_, fun y no H1 s1 => ?_, fun s es hs hg hu H1 s1 => ?_, fun s es hs hg hu l' H1 nl hR1 b1 => ?_⟩⟩
      · exact kE 1 _ (by show (if isBlk x = false then _ else _) = _; rw [if_pos no]) (kind_BadName T) _ s1
      · exact kE 3 _ (by show (if isBlk x = false then _ else _) = _; rw [if_neg (by rw [y]; decide), if_pos no]) (kind_NoRing T) _ s1
      · subst es
        exact kE 6 _ (by
          show (if isBlk (.str (S s)) = false then _ else if R.rg = false then _ else if R.ln + 400 < R.used + cst (some (S s).cps.toList) then _ else _) = _
          rw [isBlk_S, S_cps, if_neg (by rw [hs]; decide), if_neg (by rw [hg]; decide), if_pos hu]) (kind_TooLong T) _ s1
      · subst es
        exact kQ _ (by
          show (if isBlk (.str (S s)) = false then _ else if R.rg = false then _ else if R.ln + 400 < R.used + cst (some (S s).cps.toList) then _ else Sum.inr (R.put (some (S s).cps.toList))) = Sum.inr (R.put (some s))
          rw [isBlk_S, S_cps, if_neg (by rw [hs]; decide), if_neg (by rw [hg]; decide), if_neg (by omega)]) _ l' _ hR1 b1 (.inr nl)
    | 1, _ =>
      refine ⟨_, rfl, rfl, _, rfl, iteF ⟨_, rfl, rfl, _, rfl, iteT ⟨_, rfl, p, dx, _, rfl, h1, rfl, p, l, R, rfl, hR, fun no => ?_, fun hg hu H1 s1 => ?_, fun hg hu l' H1 nl hR1 b1 => ?_⟩⟩⟩
      · exact kE 3 _ (by show (if R.rg = false then _ else _) = _; rw [if_pos no]) (kind_NoRing T) _ (Same.refl _)
      · exact kE 6 _ (by show (if R.rg = false then _ else if R.ln + 400 < R.used + 4 then _ else _) = _; rw [if_neg (by rw [hg]; decide), if_pos hu]) (kind_TooLong T) _ s1
      · exact kQ _ (by show (if R.rg = false then _ else if R.ln + 400 < R.used + 4 then _ else _) = _; rw [if_neg (by rw [hg]; decide), if_neg (by omega)]) _ l' _ hR1 b1 (.inr nl)
    | 2, _ =>
      refine ⟨_, rfl, rfl, _, rfl, iteF ⟨_, rfl, rfl, _, rfl, iteF ⟨_, rfl, rfl, _, rfl, iteT ⟨_, rfl, p, dx, _, rfl, h1, rfl, p, l, R, rfl, hR, fun e => ?_, fun o ho H1 hR1 b1 => ?_⟩⟩⟩⟩
      · exact kE 4 _ (by show (if R.at_ = R.xs.length then _ else _) = _; rw [if_pos e]) (kind_AtEnd T) _ (Same.refl _)
      · have := (List.getElem?_eq_some_iff.mp ho).1
        exact kQ _ (by show (if R.at_ = R.xs.length then _ else _) = _; rw [if_neg (by omega)]) _ l _ hR1 b1 (.inl rfl)
    | 3, _ =>
      refine ⟨_, rfl, rfl, _, rfl, iteF ⟨_, rfl, rfl, _, rfl, iteF ⟨_, rfl, rfl, _, rfl, iteF ⟨_, rfl, rfl, _, rfl, iteT ⟨_, rfl, p, dx, _, rfl, h1, rfl, p, l, R, rfl, hR, fun e => ?_, fun k o ek ho H1 hR1 b1 => ?_⟩⟩⟩⟩⟩
      · exact kE 5 _ (by show (if R.at_ = 0 then _ else _) = _; rw [if_pos e]) (kind_AtStart T) _ (Same.refl _)
      · exact kQ _ (by show (if R.at_ = 0 then _ else Sum.inr (R.mv (R.at_ - 1))) = _; rw [if_neg (by omega), show R.at_ - 1 = k by omega]) _ l _ hR1 b1 (.inl rfl)
    | 4, _ =>
      refine ⟨_, rfl, rfl, _, rfl, iteF ⟨_, rfl, rfl, _, rfl, iteF ⟨_, rfl, rfl, _, rfl, iteF ⟨_, rfl, rfl, _, rfl, iteF ⟨_, rfl, rfl, _, rfl, iteT ⟨_, rfl, p, dx, _, rfl, h1, rfl, _, rfl, p, l, R, x, n, rfl, hR, hp, fun no => ?_, fun i ei hi1 hi2 m d hmd H1 hR1 b1 => ?_⟩⟩⟩⟩⟩⟩
      · exact kE 0 _ (by show (if isWhole x (-5000) 5000 = false then _ else _) = _; rw [if_pos no]) (kind_BadNumber T) _ (Same.refl _)
      · subst ei
        refine kQ _ ?_ _ l _ hR1 b1 (.inl rfl)
        show (if isWhole (.int i) (-5000) 5000 = false then _ else Sum.inr (R.mv (dirP (decide (0 < i)) R.at_ (skF false (dirL (decide (0 < i)) R.xs R.at_) i.natAbs).1))) = _
        rw [if_neg (by show ¬ ((decide (-5000 ≤ i) && decide (i ≤ 5000)) = false); rw [decide_eq_true hi1, decide_eq_true hi2]; decide), hmd]
    | 5, _ =>
      refine ⟨_, rfl, rfl, _, rfl, iteF ⟨_, rfl, rfl, _, rfl, iteF ⟨_, rfl, rfl, _, rfl, iteF ⟨_, rfl, rfl, _, rfl, iteF ⟨_, rfl, rfl, _, rfl, iteF ⟨_, rfl, rfl, _, rfl, iteT ⟨_, rfl, p, dx, _, rfl, h1, rfl, _, rfl, p, l, R, x, n, rfl, hR, hp, fun no => ?_, fun i ei hi1 hi2 m d hmd H1 hR1 b1 => ?_⟩⟩⟩⟩⟩⟩⟩
      · exact kE 0 _ (by show (if isWhole x (-5000) 5000 = false then _ else _) = _; rw [if_pos no]) (kind_BadNumber T) _ (Same.refl _)
      · subst ei
        refine kQ _ ?_ _ l _ hR1 b1 (.inl rfl)
        show (if isWhole (.int i) (-5000) 5000 = false then _ else Sum.inr (R.mv (dirP (decide (0 < i)) R.at_ (skF true (dirL (decide (0 < i)) R.xs R.at_) i.natAbs).1))) = _
        rw [if_neg (by show ¬ ((decide (-5000 ≤ i) && decide (i ≤ 5000)) = false); rw [decide_eq_true hi1, decide_eq_true hi2]; decide), hmd]
    | 6, _ =>
      refine ⟨_, rfl, rfl, _, rfl, iteF ⟨_, rfl, rfl, _, rfl, iteF ⟨_, rfl, rfl, _, rfl, iteF ⟨_, rfl, rfl, _, rfl, iteF ⟨_, rfl, rfl, _, rfl, iteF ⟨_, rfl, rfl, _, rfl, iteF ⟨_, rfl, p, dx, _, rfl, h1, rfl, _, rfl, p, l, R, x, n, rfl, hR, hp, fun no => ?_, fun k ek hk2 l' H1 nl hR1 b1 => ?_⟩⟩⟩⟩⟩⟩⟩
      · exact kE 0 _ (by show (if isWhole x 0 (R.xs.length : Nat) = false then _ else _) = _; rw [if_pos no]) (kind_BadNumber T) _ (Same.refl _)
      · subst ek
        refine kQ _ ?_ _ l' _ hR1 b1 (.inr nl)
        show (if isWhole (.int (k : Int)) 0 (R.xs.length : Nat) = false then _ else Sum.inr (R.tear ((k : Int)).toNat)) = _
        rw [if_neg (by show ¬ ((decide (0 ≤ (k : Int)) && decide ((k : Int) ≤ (R.xs.length : Nat))) = false); rw [decide_eq_true (by omega), decide_eq_true (by omega)]; decide), Int.toNat_natCast]
    | n + 7, h => exact absurd h (by omega)
def sp__law_asked (K : PySem.W.Frag) (C : Addr) : Sp := fun vs H Q _ => ∃ (p l : Addr) (R : Rl) (kd : Nat) (x : V) (n : String), vs = [.ref p, .int kd, x] ∧ kd < 7 ∧ RlAt C H p l R ∧ Pl K H x n ∧ Sz x ∧
  (∀ j, act R kd x = .inl j → ∀ H', Same H H' → Q (word j) H') ∧
  (∀ R', act R kd x = .inr R' → ∀ l' H', RlAt C H' p l' R' → But1 p H H' → (l' = l ∨ H l' = none) → Q told H')
theorem ok__law_asked (T : Txt K mg) : FnOk P w K mg base (L2.CX P w) 6 T._law_asked.a T._law_asked.d ["_law_reel", "_law_kind", "_law_thing"] (sp__law_asked K T.Reel.C) := by
  refine T._law_asked.F.okX sc__law_asked (fun vs H Q E h => ?_) (fun cdv A outer s0 H vs Q E hr h => ?_)
  · obtain ⟨p, l, R, kd, x, n, rfl, _⟩ := h
    rfl
  · obtain ⟨p, l, R, kd, x, n, rfl, hk, hR, hp, hz, kE, kQ⟩ := h
    refine ⟨_, (pss_cons (ps_set (i := 3) sc__law_asked.nd rfl (.inl rfl) pe_non)
    (pss_cons (ps_try_keep (i := 4) rfl rfl sc__law_asked.nd rfl rfl ⟨rfl, by decide, .inl T.ReelError.g⟩ rfl (fun W pn xe tk _ => (pss_one (ps_expr (pe_callS (ok__law_does T) (hr.mono (by decide)) (by rfl) T._law_does.g T._law_does.F.kp T._law_does.b (fun σ => passAt tk σ) (pa_cons (pv 0) (pa_cons (pv 1) (pa_cons (pv 2) pa_nil))))))) (fun a pn => (pss_one (ps_set (i := 3) sc__law_asked.nd rfl (.inl rfl) (pv 4)))))
    (pss_one (ps_ret (pe_ifExp (pt_cmpR op_isN (pv 3) pe_non (nomark _)) (pe_strS (l := [116, 111, 108, 100]) (by decide +kernel)) (pe_call (ok__law_refusal T) (hr.mono (by decide)) (by rfl) T._law_refusal.g T._law_refusal.F.kp T._law_refusal.b .nil passL (pa_cons (pv 3) pa_nil))))))), ?_⟩
    refine ⟨_, rfl, _, rfl, _, rfl, p, l, R, kd, x, n, rfl, hk, hR, hp, hz, fun j D ej hD H1 s1 => ?_, fun R' eR v l' H1 hR1 b1 hl => ?_⟩
    · exact ⟨_, rfl, rfl, hD.e, fun a na => ⟨_, rfl, fun _ => ⟨_, rfl, rfl, _, rfl, iteF ⟨_, rfl, a, _, j, rfl, upd_same, hD, fun H9 s9 => kE j ej _ ((s1.trans (same_new na)).trans s9)⟩⟩⟩⟩
    · exact ⟨_, rfl, rfl, _, rfl, iteT (kQ R' eR l' _ hR1 b1 hl)⟩
end
end R
set_option maxRecDepth 100000
set_option maxHeartbeats 8000000
set_option pp.maxSteps 1500
set_option pp.deepTerms false
namespace R
open PySem PySem.Spec PyProof.Rows L2 RZ
open PySem.W (Datum)
def itmD : Option (List Nat) → PyData
  | none => .none
  | some l => .str (S l)
theorem dp_itm {K : PySem.W.Frag} {H : Hp} : ∀ xs : List (Option (List Nat)), DpAll K H (xs.map itm) (xs.map itmD)
  | [] => .nil
  | none :: r => .cons .non (dp_itm r)
  | some l :: r => .cons (.str _) (dp_itm r)
theorem plain_itm : ∀ xs : List (Option (List Nat)), PyData.plainAll (xs.map itmD) = true
  | [] => rfl
  | none :: r => plain_itm r
  | some l :: r => plain_itm r
theorem depthAll_itm : ∀ xs : List (Option (List Nat)), PyData.depthAll (xs.map itmD) ≤ 1
  | [] => by decide
  | none :: r => Nat.max_le.mpr ⟨by decide, depthAll_itm r⟩
  | some l :: r => Nat.max_le.mpr ⟨Nat.zero_le _, depthAll_itm r⟩
theorem depth_itm (xs : List (Option (List Nat))) : (PyData.list (xs.map itmD)).depth ≤ 60 := by
  have := depthAll_itm xs
  show PyData.depthAll (xs.map itmD) + 1 ≤ 60
  omega
theorem town_but1 {H H' : Hp} {t r p : Addr} (h : Town H t r) (k : But1 p H H') (n1 : p ≠ t) (n2 : p ≠ r) : Town H' t r := by
  obtain ⟨c, ns, g1, g2, g3⟩ := h
  exact ⟨c, ns, k _ _ g1 n1.symm, k _ _ g2 n2.symm, g3⟩
theorem rEqP_itm {K : PySem.W.Frag} {H : Hp} {a b : Addr} {xs : List (Option (List Nat))} {Q : VK} (ha : SqL K H a (xs.map itm)) (hb : SqL K H b (xs.map itm)) (q : Q (.bl true) H) : rEqP K (.ref a) (.ref b) H Q :=
  ⟨_, _, .lst ha (dp_itm xs), .lst hb (dp_itm xs), plain_itm xs, plain_itm xs, depth_itm xs, by rw [PySem.SeqAt.eqv_refl_plain _ (show (PyData.list (xs.map itmD)).plain = true from plain_itm xs)]; exact q⟩
theorem rNeP_itm {K : PySem.W.Frag} {H : Hp} {a b : Addr} {xs : List (Option (List Nat))} {Q : VK} (ha : SqL K H a (xs.map itm)) (hb : SqL K H b (xs.map itm)) (q : Q (.bl false) H) : rNeP K (.ref a) (.ref b) H Q :=
  ⟨_, _, .lst ha (dp_itm xs), .lst hb (dp_itm xs), plain_itm xs, plain_itm xs, depth_itm xs, by rw [PySem.SeqAt.eqv_refl_plain _ (show (PyData.list (xs.map itmD)).plain = true from plain_itm xs)]; exact q⟩
theorem sz_str {l : List Nat} (h : l.length < 16777216) : Sz (.str (S l)) := by
  show (S l).length < 16777216
  rw [S_len]
  exact h
theorem asked_j {a : Nat ⊕ Rl} {j j0 : Nat} (h : a = .inl j0) (e : a = .inl j) : j = j0 := by
  rw [h] at e
  cases e
  rfl
theorem asked_R {a : Nat ⊕ Rl} {j0 : Nat} {R : Rl} (h : a = .inl j0) (e : a = .inr R) : False := by
  rw [h] at e
  cases e
theorem asked_L {a : Nat ⊕ Rl} {j : Nat} {R : Rl} (h : a = .inr R) (e : a = .inl j) : False := by
  rw [h] at e
  cases e
theorem asked_r {a : Nat ⊕ Rl} {R R0 : Rl} (h : a = .inr R0) (e : a = .inr R) : R = R0 := by
  rw [h] at e
  cases e
  rfl
theorem act0 {R : Rl} {x : V} (h : isBlk x = false) : act R 0 x = .inl 1 := if_pos h
theorem act4 {R : Rl} {x : V} (h : isWhole x (-5000) 5000 = false) : act R 4 x = .inl 0 := if_pos h
theorem act5 {R : Rl} {x : V} (h : isWhole x (-5000) 5000 = false) : act R 5 x = .inl 0 := if_pos h
theorem act6 {R : Rl} {x : V} (h : isWhole x 0 (R.xs.length : Nat) = false) : act R 6 x = .inl 0 := if_pos h
theorem ys_blk {n : Nat} (h1 : 1 ≤ n) (h2 : n ≤ 99) : blkL (List.replicate n 121) = true := by
  unfold blkL
  rw [List.length_replicate, decide_eq_true h1, decide_eq_true h2, Bool.true_and, Bool.true_and]
  refine List.all_eq_true.mpr fun c hc => ?_
  rw [List.eq_of_mem_replicate hc]
  rfl
theorem put_used {R : Rl} (h : R.at_ ≤ R.xs.length) (o : Option (List Nat)) : (R.put o).used = R.used + cst o := by
  show (((R.xs.take R.at_ ++ [o]).take (R.at_ + 1)).map cst).sum = _
  rw [List.take_of_length_le (by rw [List.length_append, List.length_take]; show _ + 1 ≤ _; omega), List.map_append, List.sum_append]
  show _ + (cst o + 0) = _
  unfold Rl.used
  omega
theorem put_len {R : Rl} (h : R.at_ = R.xs.length) (o : Option (List Nat)) : (R.put o).at_ = (R.put o).xs.length := by
  show R.at_ + 1 = (R.xs.take R.at_ ++ [o]).length
  rw [List.length_append, List.length_take]
  show _ = _ + 1
  omega
def Mid2 (C : Addr) : TS := fun D σ H => ∃ (p l q : Addr) (R R0 : Rl) (o0 o1 o2 o3 o5 o7 : Option V), σ = [o0, o1, o2, o3, some (.ref p), o5, some (.ref q), o7] ∧ RlAt C H p l R ∧ H q = some (.lst (R0.xs.map itm)) ∧ R0.xs.length ≤ 1350 ∧
  (R.xs.length = R0.xs.length ∨ R.xs.length = R0.xs.length + 1) ∧ ∀ H', D.rt (.bl true) H'
section
variable {P : Program} {w : World} {K : PySem.W.Frag} {mg : Str → Option Value} {base : Heap}
def spLaw (K : PySem.W.Frag) : Sp := fun vs H Q _ => ∃ (a : Addr) (ns : List Int), vs = [.ref a] ∧ SqL K H a (ns.map V.int) ∧ ns.length ≤ 63 ∧ ∀ H', Q (.bl true) H'
theorem ok_law (T : Txt K mg) : FnOk P w K mg base (L2.CX P w) 7 T.law.a T.law.d ["_law_script"] (spLaw K) := by
  refine T.law.F.okX sc_law (fun vs H Q E h => ?_) (fun cdv A outer s0 H0 vs Q E hr h => ?_)
  · obtain ⟨a, ns, rfl, _⟩ := h
    rfl
  · obtain ⟨a, ns0, rfl, hS, hlen, kk⟩ := h
    refine ⟨_, (pss_cons (ps_set (i := 1) sc_law.nd rfl (.inl rfl) (pe_call (ok__law_town T) (hr.mono (by decide)) (by rfl) T._law_town.g T._law_town.F.kp T._law_town.b .nil passL (pa_cons (pv 0) pa_nil)))
    (pss_cons (ps_for (passes_of rfl) rfl
      (pi_list (pe_lst (pa_cons (pe_strS (l := []) (by decide +kernel)) (pa_cons (pe_strS (l := [65, 66, 67, 68, 69, 70, 71]) (by decide +kernel)) (pa_cons (pe_strS (l := [97]) (by decide +kernel)) (pa_cons (pe_strS (l := [65, 45]) (by decide +kernel)) (pa_cons pe_non (pa_cons pe_int (pa_cons (pe_lst (pa_cons (pe_strS (l := [65]) (by decide +kernel)) pa_nil)) (pa_cons (pe_strS (l := [65, 32]) (by decide +kernel)) pa_nil)))))))))) (pg_name (i := 2) sc_law.nd rfl (.inl rfl))
      (pss_one (ps_if (pt_cmpR op_neS (pe_call (ok__law_made T) (hr.mono (by decide)) (by rfl) T._law_made.g T._law_made.F.kp T._law_made.b .nil passL (pa_cons (pv 2) (pa_cons pe_int pa_nil))) (pe_strS (l := [110, 97, 109, 101]) (by decide +kernel)) (nomark _))
        (pss_one (ps_ret pe_bl))
        pss_nil)))
    (pss_cons (ps_for (passes_of rfl) rfl
      (pi_list (pe_lst (pa_cons pe_int (pa_cons pe_int (pa_cons pe_bl (pa_cons pe_non (pa_cons (pe_strS (l := [50, 48, 48]) (by decide +kernel)) pa_nil))))))) (pg_name (i := 2) sc_law.nd rfl (.inl rfl))
      (pss_one (ps_if (pt_cmpR op_neS (pe_call (ok__law_made T) (hr.mono (by decide)) (by rfl) T._law_made.g T._law_made.F.kp T._law_made.b .nil passL (pa_cons (pe_strS (l := [65, 66, 67, 49, 50, 51]) (by decide +kernel)) (pa_cons (pv 2) pa_nil))) (pe_strS (l := [110, 117, 109, 98, 101, 114]) (by decide +kernel)) (nomark _))
        (pss_one (ps_ret pe_bl))
        pss_nil)))
    (pss_cons (ps_set (i := 3) sc_law.nd rfl (.inl rfl) (pe_op op_add pe_int (pe_call (ok__law_draw T) (hr.mono (by decide)) (by rfl) T._law_draw.g T._law_draw.F.kp T._law_draw.b .nil passL (pa_cons (pv 1) (pa_cons pe_int pa_nil)))))
    (pss_cons (ps_set (i := 4) sc_law.nd rfl (.inl rfl) (pe_makeK (T.Reel.mks T.Reel___init__.m) (ok_Reel___init__ T) (hr.mono (by decide)) (by rfl) T.Reel.g T.kb_Reel___init___length passL (pa_cons (pe_strS (l := [65, 66, 67, 49, 50, 51]) (by decide +kernel)) pa_nil) (pk_cons (pv 3) pk_nil)))
    (pss_cons (ps_for (passes_of rfl) rfl
      (pi_list (pe_lst (pa_cons (pe_strS (l := []) (by decide +kernel)) (pa_cons (pe_op op_mulS (pe_strS (l := [120]) (by decide +kernel)) pe_int) (pa_cons pe_non (pa_cons pe_int (pa_cons (pe_lst (pa_cons (pe_strS (l := [120]) (by decide +kernel)) pa_nil)) pa_nil))))))) (pg_name (i := 2) sc_law.nd rfl (.inl rfl))
      (pss_one (ps_if (pt_cmpR op_neS (pe_call (ok__law_asked T) (hr.mono (by decide)) (by rfl) T._law_asked.g T._law_asked.F.kp T._law_asked.b .nil passL (pa_cons (pv 4) (pa_cons pe_int (pa_cons (pv 2) pa_nil)))) (pe_strS (l := [110, 97, 109, 101]) (by decide +kernel)) (nomark _))
        (pss_one (ps_ret pe_bl))
        pss_nil)))
    (pss_cons (ps_for (passes_of rfl) rfl
      (pi_list (pe_lst (pa_cons pe_int (pa_cons (pe_op op_sub pe_int pe_int) (pa_cons pe_bl (pa_cons pe_non (pa_cons (pe_strS (l := [49]) (by decide +kernel)) pa_nil))))))) (pg_name (i := 2) sc_law.nd rfl (.inl rfl))
      (pss_one (ps_if (PW.pt (pw_or (pt_cmpR op_neS (pe_call (ok__law_asked T) (hr.mono (by decide)) (by rfl) T._law_asked.g T._law_asked.F.kp T._law_asked.b .nil passL (pa_cons (pv 4) (pa_cons pe_int (pa_cons (pv 2) pa_nil)))) (pe_strS (l := [110, 117, 109, 98, 101, 114]) (by decide +kernel)) (nomark _)) (pw_or1 (pt_cmpR op_neS (pe_call (ok__law_asked T) (hr.mono (by decide)) (by rfl) T._law_asked.g T._law_asked.F.kp T._law_asked.b .nil passL (pa_cons (pv 4) (pa_cons pe_int (pa_cons (pv 2) pa_nil)))) (pe_strS (l := [110, 117, 109, 98, 101, 114]) (by decide +kernel)) (nomark _)))))
        (pss_one (ps_ret pe_bl))
        pss_nil)))
    (pss_cons (ps_if (PW.pt (pw_or (pt_cmpR op_neS (pe_call (ok__law_asked T) (hr.mono (by decide)) (by rfl) T._law_asked.g T._law_asked.F.kp T._law_asked.b .nil passL (pa_cons (pv 4) (pa_cons pe_int (pa_cons pe_int pa_nil)))) (pe_strS (l := [101, 110, 100]) (by decide +kernel)) (nomark _)) (pw_or (pt_cmpR op_neS (pe_call (ok__law_asked T) (hr.mono (by decide)) (by rfl) T._law_asked.g T._law_asked.F.kp T._law_asked.b .nil passL (pa_cons (pv 4) (pa_cons pe_int (pa_cons pe_int pa_nil)))) (pe_strS (l := [115, 116, 97, 114, 116]) (by decide +kernel)) (nomark _)) (pw_or1 (pt_cmpR (op_neP hr.units) (pe_meth0 (pv 4) T.Reel.cl T.Reel_content.m (ok_Reel_content T) (hr.mono (by decide)) T.Reel_content.b .nil passL) (pe_lst pa_nil) (nomark _))))))
      (pss_one (ps_ret pe_bl))
      pss_nil)
    (pss_cons (ps_expr (pe_meth (pv 4) T.Reel.cl T.Reel_ring.m (ok_Reel_ring T) (hr.mono (by decide)) T.Reel_ring.b .nil passL (pa_cons pe_bl pa_nil)))
    (pss_cons (ps_if (PW.pt (pw_or (pt_cmpR op_neS (pe_call (ok__law_asked T) (hr.mono (by decide)) (by rfl) T._law_asked.g T._law_asked.F.kp T._law_asked.b .nil passL (pa_cons (pv 4) (pa_cons pe_int (pa_cons (pe_strS (l := [120]) (by decide +kernel)) pa_nil)))) (pe_strS (l := [114, 105, 110, 103]) (by decide +kernel)) (nomark _)) (pw_or (pt_cmpR op_neS (pe_call (ok__law_asked T) (hr.mono (by decide)) (by rfl) T._law_asked.g T._law_asked.F.kp T._law_asked.b .nil passL (pa_cons (pv 4) (pa_cons pe_int (pa_cons pe_int pa_nil)))) (pe_strS (l := [114, 105, 110, 103]) (by decide +kernel)) (nomark _)) (pw_or1 (pt_cmpR op_neS (pe_call (ok__law_asked T) (hr.mono (by decide)) (by rfl) T._law_asked.g T._law_asked.F.kp T._law_asked.b .nil passL (pa_cons (pv 4) (pa_cons pe_int (pa_cons (pe_strS (l := []) (by decide +kernel)) pa_nil)))) (pe_strS (l := [110, 97, 109, 101]) (by decide +kernel)) (nomark _))))))
      (pss_one (ps_ret pe_bl))
      pss_nil)
    (pss_cons (ps_expr (pe_meth (pv 4) T.Reel.cl T.Reel_ring.m (ok_Reel_ring T) (hr.mono (by decide)) T.Reel_ring.b .nil passL (pa_cons pe_bl pa_nil)))
    (pss_cons (ps_set (i := 5) sc_law.nd rfl (.inl rfl) (pe_call (ok__law_pick T) (hr.mono (by decide)) (by rfl) T._law_pick.g T._law_pick.F.kp T._law_pick.b .nil passL (pa_cons (pv 1) (pa_cons (pe_lst (pa_cons pe_int (pa_cons pe_int (pa_cons pe_int pa_nil)))) pa_nil))))
    (pss_cons (ps_while (passes_of rfl) (pt_cmpR op_le (pe_op op_add (pe_op op_add (pe_meth0 (pv 4) T.Reel.cl T.Reel_used.m (ok_Reel_used T) (hr.mono (by decide)) T.Reel_used.b .nil passL) (pv 5)) pe_int) (pe_op op_add (pv 3) pe_int) (nomark _))
      (pss_one (ps_expr (pe_meth (pv 4) T.Reel.cl T.Reel_write.m (ok_Reel_write T) (hr.mono (by decide)) T.Reel_write.b .nil passL (pa_cons (pe_op op_mulS (pe_strS (l := [121]) (by decide +kernel)) (pv 5)) pa_nil)))))
    (pss_cons (ps_set (i := 6) sc_law.nd rfl (.inl rfl) (pe_meth0 (pv 4) T.Reel.cl T.Reel_content.m (ok_Reel_content T) (hr.mono (by decide)) T.Reel_content.b .nil passL))
    (pss_cons (ps_if (PW.pt (pw_or (pt_cmpR op_neS (pe_call (ok__law_asked T) (hr.mono (by decide)) (by rfl) T._law_asked.g T._law_asked.F.kp T._law_asked.b .nil passL (pa_cons (pv 4) (pa_cons pe_int (pa_cons (pe_op op_mulS (pe_strS (l := [121]) (by decide +kernel)) (pv 5)) pa_nil)))) (pe_strS (l := [108, 111, 110, 103]) (by decide +kernel)) (nomark _)) (pw_or (pt_cmpR (op_neP hr.units) (pe_meth0 (pv 4) T.Reel.cl T.Reel_content.m (ok_Reel_content T) (hr.mono (by decide)) T.Reel_content.b .nil passL) (pv 6) (nomark _)) (pw_or1 (pt_cmpR op_notBl (pe_meth0 (pv 4) T.Reel.cl T.Reel_is_near_end.m (ok_Reel_is_near_end T) (hr.mono (by decide)) T.Reel_is_near_end.b .nil passL) pe_bl (nomark _))))))
      (pss_one (ps_ret pe_bl))
      pss_nil)
    (pss_cons (ps_set (i := 7) sc_law.nd rfl (.inl rfl) (pe_ifExp (pt_cmpR op_le (pe_op op_add (pe_meth0 (pv 4) T.Reel.cl T.Reel_used.m (ok_Reel_used T) (hr.mono (by decide)) T.Reel_used.b .nil passL) pe_int) (pe_op op_add (pv 3) pe_int) (nomark _)) (pe_strS (l := [116, 111, 108, 100]) (by decide +kernel)) (pe_strS (l := [108, 111, 110, 103]) (by decide +kernel))))
    (pss_cons (ps_if (pt_cmpR op_neS (pe_call (ok__law_asked T) (hr.mono (by decide)) (by rfl) T._law_asked.g T._law_asked.F.kp T._law_asked.b .nil passL (pa_cons (pv 4) (pa_cons pe_int (pa_cons pe_int pa_nil)))) (pv 7) (nomark _))
      (pss_one (ps_ret pe_bl))
      pss_nil)
    (PSs.mid (t' := Mid2 T.Reel.C) (pss_cons (ps_for (passes_of rfl) rfl
      (pi_list (pe_lst (pa_cons (pe_op op_add (pe_callB call_len_seq (by rfl) T.z_len PySem.boot_len (pa_cons (pe_meth0 (pv 4) T.Reel.cl T.Reel_content.m (ok_Reel_content T) (hr.mono (by decide)) T.Reel_content.b .nil passL) pa_nil)) pe_int) (pa_cons (pe_op op_sub pe_int pe_int) (pa_cons pe_bl (pa_cons pe_non pa_nil)))))) (pg_name (i := 2) sc_law.nd rfl (.inl rfl))
      (pss_one (ps_if (pt_cmpR op_neS (pe_call (ok__law_asked T) (hr.mono (by decide)) (by rfl) T._law_asked.g T._law_asked.F.kp T._law_asked.b .nil passL (pa_cons (pv 4) (pa_cons pe_int (pa_cons (pv 2) pa_nil)))) (pe_strS (l := [110, 117, 109, 98, 101, 114]) (by decide +kernel)) (nomark _))
        (pss_one (ps_ret pe_bl))
        pss_nil)))
    (pss_one (ps_ret (pe_and (pe_cmpR op_in_seq (pe_op op_sub (pe_callB call_len_seq (by rfl) T.z_len PySem.boot_len (pa_cons (pe_meth0 (pv 4) T.Reel.cl T.Reel_content.m (ok_Reel_content T) (hr.mono (by decide)) T.Reel_content.b .nil passL) pa_nil)) (pe_callB call_len_seq (by rfl) T.z_len PySem.boot_len (pa_cons (pv 6) pa_nil))) (pe_tup (pa_cons pe_int (pa_cons pe_int pa_nil))) (by rfl)) (pe_and (pe_cmpR op_eqS (pe_call (ok__law_asked T) (hr.mono (by decide)) (by rfl) T._law_asked.g T._law_asked.F.kp T._law_asked.b .nil passL (pa_cons (pv 4) (pa_cons pe_int (pa_cons pe_int pa_nil)))) (pe_strS (l := [116, 111, 108, 100]) (by decide +kernel)) (nomark _)) (pe_one (pe_cmpR (op_eqP hr.units) (pe_meth0 (pv 4) T.Reel.cl T.Reel_content.m (ok_Reel_content T) (hr.mono (by decide)) T.Reel_content.b .nil passL) (pe_lst pa_nil) (nomark _)))))))) ?m1)))))))))))))))))), ?_⟩
    case m1 =>
      rintro D σ H ⟨p, l, q, R, R0, o0, o1, o2, o3, o5, o7, rfl, hR, hq, hq0, hl, kD⟩
      obtain ⟨⟨dx, h1⟩, h2, h3⟩ := id hR
      have hn := h3.n
      refine ⟨_, rfl, p, dx, _, rfl, h1, rfl, p, l, R, rfl, hR, fun c nc => ⟨c, _, rfl, .inl (SqL.of upd_same), _, _, rfl, rfl, _, _, rfl, rfl, sz (show 4 ≤ 16777216 by decide), fun pl npl => ?_⟩⟩
      have s1 := (same_new (o := .lst (R.xs.map itm)) nc).trans (same_new (o := .lst [.int (((R.xs.map itm).length : Nat) + 1), .int (0 - 1), .bl true, .non]) npl)
      refine ⟨pl, rfl, ⟨_, SqL.of upd_same⟩, for_it (walk_list (xs := [.int (((R.xs.map itm).length : Nat) + 1), .int (0 - 1), .bl true, .non])) (fun i σ H' => Same (upd (upd H c (.lst (R.xs.map itm))) pl (.lst [.int (((R.xs.map itm).length : Nat) + 1), .int (0 - 1), .bl true, .non])) H' ∧ ∃ o2, σ = [o0, o1, o2, o3, some (.ref p), o5, some (.ref q), o7]) ⟨Same.refl _, _, rfl⟩ (fun i σ H' _ h => SqL.of (h.1 _ _ upd_same)) ?_ ?_⟩
      · rintro i x σ H5 H6 hi ⟨s5, o2', rfl⟩ ⟨rfl, hx⟩
        obtain ⟨⟨n, hp⟩, hz, hno⟩ : (∃ n, Pl K H6 x n) ∧ Sz x ∧ isWhole x 0 (R.xs.length : Nat) = false := by
          have := List.mem_of_getElem? hx
          simp only [List.mem_cons, List.not_mem_nil, or_false] at this
          rcases this with rfl | rfl | rfl | rfl
          · refine ⟨⟨_, .int _⟩, trivial, ?_⟩
            show (decide (0 ≤ (((R.xs.map itm).length : Nat) : Int) + 1) && decide ((((R.xs.map itm).length : Nat) : Int) + 1 ≤ (R.xs.length : Nat))) = false
            rw [List.length_map, decide_eq_false (show ¬ ((R.xs.length : Nat) : Int) + 1 ≤ (R.xs.length : Nat) by omega), Bool.and_false]
          · exact ⟨⟨_, .int _⟩, trivial, rfl⟩
          · exact ⟨⟨_, .bl _⟩, trivial, rfl⟩
          · exact ⟨⟨_, .non⟩, trivial, rfl⟩
        refine ⟨_, rfl, _, rfl, p, l, R, 6, x, n, rfl, by decide, hR.same (s1.trans s5), hp, hz, fun j ej H7 s7 => ?_, fun R' eR => (asked_R (j0 := 0) (act6 hno) eR).elim⟩
        obtain rfl : j = 0 := asked_j (act6 hno) ej
        exact ⟨_, _, rfl, rfl, _, rfl, iteN (c := ([110, 117, 109, 98, 101, 114] : List Nat) = [110, 117, 109, 98, 101, 114]) (fun h => absurd rfl h) (fun _ => ⟨s5.trans s7, _, rfl⟩)⟩
      · rintro σ H5 ⟨s5, o2', rfl⟩
        have s15 := s1.trans s5
        have hR5 := hR.same s15
        have g1 := s15 _ _ h1
        refine ⟨_, rfl, p, dx, _, rfl, g1, rfl, p, l, R, rfl, hR5, fun c6 nc6 => ⟨c6, _, rfl, .inl (SqL.of upd_same), _, rfl, q, _, rfl, .inl (SqL.of (same_new nc6 _ _ (s15 _ _ hq))), _, _, rfl, rfl, sz (by decide), fun pt npt => ?_⟩⟩
        have s6 := (same_new (o := .lst (R.xs.map itm)) nc6).trans (same_new (o := .tup [.int 0, .int 1]) npt)
        refine ⟨pt, _, rfl, .inr (SqT.of upd_same), rfl, rfl, _, rfl, ?_⟩
        have ev : inV (V.int ((((R.xs.map itm).length : Nat) : Int) - (((R0.xs.map itm).length : Nat) : Int))) [.int 0, .int 1] = true := by
          rw [List.length_map, List.length_map]
          rcases hl with h | h
          · rw [show ((R.xs.length : Nat) : Int) - ((R0.xs.length : Nat) : Int) = 0 by omega]; rfl
          · rw [show ((R.xs.length : Nat) : Int) - ((R0.xs.length : Nat) : Int) = 1 by omega]; rfl
        dsimp only
        rw [ev]
        refine iteT ?_
        have act6y : act R 6 (.int 0) = .inr (R.tear 0) := by
          show (if isWhole (.int 0) 0 (R.xs.length : Nat) = false then (.inl 0 : Nat ⊕ Rl) else .inr (R.tear (0 : Int).toNat)) = .inr (R.tear 0)
          rw [if_neg]
          · rfl
          · show ¬ ((decide ((0 : Int) ≤ 0) && decide ((0 : Int) ≤ (R.xs.length : Nat))) = false)
            rw [decide_eq_true (show (0 : Int) ≤ (R.xs.length : Nat) by omega)]
            decide
        refine ⟨_, rfl, p, l, R, 6, .int 0, "int", rfl, by decide, hR5.same s6, .int 0, trivial, fun j e => (by rw [act6y] at e; cases e), fun R' eR l' H7 hR7 b7 _ => ?_⟩
        rw [act6y] at eR
        cases eR
        refine ⟨_, _, rfl, rfl, _, rfl, iteT ?_⟩
        obtain ⟨⟨dx7, f1⟩, f2, f3⟩ := id hR7
        refine ⟨_, rfl, p, dx7, _, rfl, f1, rfl, p, l', _, rfl, hR7, fun c8 nc8 => ⟨sz (by decide), fun c9 nc9 => ?_⟩⟩
        exact rEqP_itm (xs := []) (SqL.of (same_new nc9 _ _ upd_same)) (SqL.of upd_same) (kD _)
    -- the town; serials that are none
    refine ⟨_, rfl, a, ns0, rfl, hS, hlen, fun t r H1 s1 nt nr T1 => ?_⟩
    refine ⟨sz (by decide), fun c nc => ⟨sz (show 8 ≤ 16777216 by decide), fun pl npl => ?_⟩⟩
    have u1 := same_new (o := .lst [.str (S [65])]) nc
    have u2 := same_new (o := .lst [.str (S []), .str (S [65, 66, 67, 68, 69, 70, 71]), .str (S [97]), .str (S [65, 45]), .non, .int 5, .ref c, .str (S [65, 32])]) npl
    obtain ⟨H2, e2⟩ : ∃ G, G = upd (upd H1 c (.lst [.str (S [65])])) pl (.lst [.str (S []), .str (S [65, 66, 67, 68, 69, 70, 71]), .str (S [97]), .str (S [65, 45]), .non, .int 5, .ref c, .str (S [65, 32])]) := ⟨_, rfl⟩
    rw [← e2] at u2 ⊢
    have T2 := (T1.same u1).same u2
    have hpl : H2 pl = some (.lst [.str (S []), .str (S [65, 66, 67, 68, 69, 70, 71]), .str (S [97]), .str (S [65, 45]), .non, .int 5, .ref c, .str (S [65, 32])]) := by rw [e2]; exact upd_same
    have hc := u2 _ _ upd_same
    refine ⟨pl, rfl, ⟨_, SqL.of hpl⟩, for_it (walk_list (xs := [.str (S []), .str (S [65, 66, 67, 68, 69, 70, 71]), .str (S [97]), .str (S [65, 45]), .non, .int 5, .ref c, .str (S [65, 32])])) (fun i σ H' => Same H2 H' ∧ ∃ o2, σ = [some (.ref a), some (.ref t), o2, none, none, none, none, none]) ⟨Same.refl _, _, rfl⟩ (fun i σ H' _ h => SqL.of (h.1 _ _ hpl)) ?_ ?_⟩
    · rintro i x σ H5 H6 hi ⟨s5, o2', rfl⟩ ⟨rfl, hx⟩
      obtain ⟨⟨n, hp⟩, hz, hno⟩ : (∃ n, Pl K H6 x n) ∧ Sz x ∧ isName x 6 = false := by
        have := List.mem_of_getElem? hx
        simp only [List.mem_cons, List.not_mem_nil, or_false] at this
        rcases this with rfl | rfl | rfl | rfl | rfl | rfl | rfl | rfl
        · exact ⟨⟨_, .str _⟩, sz_str (by decide), by decide +kernel⟩
        · exact ⟨⟨_, .str _⟩, sz_str (by decide), by decide +kernel⟩
        · exact ⟨⟨_, .str _⟩, sz_str (by decide), by decide +kernel⟩
        · exact ⟨⟨_, .str _⟩, sz_str (by decide), by decide +kernel⟩
        · exact ⟨⟨_, .non⟩, trivial, rfl⟩
        · exact ⟨⟨_, .int _⟩, trivial, rfl⟩
        · exact ⟨⟨_, .lst (SqL.of (s5 _ _ hc))⟩, trivial, rfl⟩
        · exact ⟨⟨_, .str _⟩, sz_str (by decide), by decide +kernel⟩
      exact ⟨_, rfl, x, .int 0, n, "int", rfl, hp, hz, .int 0, .inl ⟨hno, fun H7 s7 => ⟨_, _, rfl, rfl, _, rfl, iteN (c := ([110, 97, 109, 101] : List Nat) = [110, 97, 109, 101]) (fun h => absurd rfl h) (fun _ => ⟨s5.trans s7, _, rfl⟩)⟩⟩⟩
    rintro σ H3 ⟨s3, o2, rfl⟩
    have T3 := T2.same s3
    -- lengths that are none
    refine ⟨sz (by decide), fun pl3 npl3 => ⟨pl3, rfl, ⟨_, SqL.of upd_same⟩, for_it (walk_list (xs := [.int 149, .int 5001, .bl true, .non, .str (S [50, 48, 48])])) (fun i σ H' => Same (upd H3 pl3 (.lst [.int 149, .int 5001, .bl true, .non, .str (S [50, 48, 48])])) H' ∧ ∃ o2, σ = [some (.ref a), some (.ref t), o2, none, none, none, none, none]) ⟨Same.refl _, _, rfl⟩ (fun i σ H' _ h => SqL.of (h.1 _ _ upd_same)) ?_ ?_⟩⟩
    · rintro i x σ H5 H6 hi ⟨s5, o2', rfl⟩ ⟨rfl, hx⟩
      obtain ⟨⟨n, hp⟩, hno⟩ : (∃ n, Pl K H6 x n) ∧ isWhole x 150 5000 = false := by
        have := List.mem_of_getElem? hx
        simp only [List.mem_cons, List.not_mem_nil, or_false] at this
        rcases this with rfl | rfl | rfl | rfl | rfl
        · exact ⟨⟨_, .int _⟩, rfl⟩
        · exact ⟨⟨_, .int _⟩, rfl⟩
        · exact ⟨⟨_, .bl _⟩, rfl⟩
        · exact ⟨⟨_, .non⟩, rfl⟩
        · exact ⟨⟨_, .str _⟩, rfl⟩
      exact ⟨_, rfl, .str (S [65, 66, 67, 49, 50, 51]), x, "str", n, rfl, .str _, sz_str (by decide), hp, .inr ⟨by decide +kernel, hno, fun H7 s7 => ⟨_, _, rfl, rfl, _, rfl, iteN (c := ([110, 117, 109, 98, 101, 114] : List Nat) = [110, 117, 109, 98, 101, 114]) (fun h => absurd rfl h) (fun _ => ⟨s5.trans s7, _, rfl⟩)⟩⟩⟩
    rintro σ H4 ⟨s4, o2', rfl⟩
    have T4 := (town_new (o := .lst [.int 149, .int 5001, .bl true, .non, .str (S [50, 48, 48])]) T3 npl3).same s4
    -- the reel
    refine ⟨_, rfl, t, r, 400, rfl, T4, by decide, by decide, fun z H5 z0 z1 b5 T5 => ⟨_, _, rfl, rfl, ?_⟩⟩
    refine ⟨_, rfl, rfl, rfl, fun p dx np ndx ndp => ?_⟩
    have s6 : Same H5 (upd (upd H5 dx (.own p)) p (.ins T.Reel.C dx [])) := (same_new ndx).trans (same_new (by rw [upd_ne ndp.symm]; exact np))
    refine ⟨p, dx, .str (S [65, 66, 67, 49, 50, 51]), .int (150 + z), "str", "int", rfl, upd_same, .str _, sz_str (by decide), .int _, fun no => ?_, fun _ no => ?_, fun s n es en hs hn1 hn2 l H6 nl hR b6 => ⟨rfl, ?_⟩⟩
    · exact absurd no (by decide +kernel)
    · exact absurd (show (decide (150 ≤ 150 + z) && decide (150 + z ≤ 5000)) = false from no) (by rw [decide_eq_true (by omega), decide_eq_true (by omega)]; decide)
    have enn : n = 150 + z := (V.int.inj en).symm
    subst enn
    have np2 := T5.ne np
    have nl2 := (T5.same s6).ne nl
    have T6 : Town H6 t r := town_but1 (T5.same s6) b6 np2.1 np2.2
    obtain ⟨⟨dx6, h1⟩, h2, h3⟩ := id hR
    -- blocks that are none
    refine ⟨120, _, rfl, rfl, by decide, by decide, sz (by decide), fun c7 nc7 => ⟨sz (show 5 ≤ 16777216 by decide), fun pl7 npl7 => ?_⟩⟩
    have v1 := same_new (o := .lst [.str (S [120])]) nc7
    have v2 := same_new (o := .lst [.str (S []), .str (S (List.replicate (100 : Int).toNat 120)), .non, .int 5, .ref c7]) npl7
    obtain ⟨H7, e7⟩ : ∃ G, G = upd (upd H6 c7 (.lst [.str (S [120])])) pl7 (.lst [.str (S []), .str (S (List.replicate (100 : Int).toNat 120)), .non, .int 5, .ref c7]) := ⟨_, rfl⟩
    rw [← e7] at v2 ⊢
    have v12 := v1.trans v2
    have hpl7 : H7 pl7 = some (.lst [.str (S []), .str (S (List.replicate (100 : Int).toNat 120)), .non, .int 5, .ref c7]) := by rw [e7]; exact upd_same
    have hc7 := v2 _ _ upd_same
    refine ⟨pl7, rfl, ⟨_, SqL.of hpl7⟩, for_it (walk_list (xs := [.str (S []), .str (S (List.replicate (100 : Int).toNat 120)), .non, .int 5, .ref c7])) (fun i σ H' => Same H7 H' ∧ ∃ o2, σ = [some (.ref a), some (.ref t), o2, some (.int (150 + z)), some (.ref p), none, none, none]) ⟨Same.refl _, _, rfl⟩ (fun i σ H' _ h => SqL.of (h.1 _ _ hpl7)) ?_ ?_⟩
    · rintro i x σ H8 H9 hi ⟨s8, o2'', rfl⟩ ⟨rfl, hx⟩
      obtain ⟨⟨n, hp⟩, hz, hno⟩ : (∃ n, Pl K H9 x n) ∧ Sz x ∧ isBlk x = false := by
        have := List.mem_of_getElem? hx
        simp only [List.mem_cons, List.not_mem_nil, or_false] at this
        rcases this with rfl | rfl | rfl | rfl | rfl
        · exact ⟨⟨_, .str _⟩, sz_str (by decide), by decide +kernel⟩
        · exact ⟨⟨_, .str _⟩, sz_str (by decide), by decide +kernel⟩
        · exact ⟨⟨_, .non⟩, trivial, rfl⟩
        · exact ⟨⟨_, .int _⟩, trivial, rfl⟩
        · exact ⟨⟨_, .lst (SqL.of (s8 _ _ hc7))⟩, trivial, rfl⟩
      refine ⟨_, rfl, _, rfl, p, l, _, 0, x, n, rfl, by decide, hR.same (v12.trans s8), hp, hz, fun j ej H10 s10 => ?_, fun R' eR => (asked_R (j0 := 1) (act0 hno) eR).elim⟩
      obtain rfl : j = 1 := asked_j (act0 hno) ej
      exact ⟨_, _, rfl, rfl, _, rfl, iteN (c := ([110, 97, 109, 101] : List Nat) = [110, 97, 109, 101]) (fun h => absurd rfl h) (fun _ => ⟨s8.trans s10, _, rfl⟩)⟩
    rintro σ H8 ⟨s8, o28, rfl⟩
    have s68 := v12.trans s8
    have hR8 := hR.same s68
    have T8 := T6.same s68
    -- numbers that are none
    refine ⟨_, _, rfl, rfl, sz (show 5 ≤ 16777216 by decide), fun pl9 npl9 => ?_⟩
    have w1 := same_new (o := .lst [.int 5001, .int (0 - 5001), .bl true, .non, .str (S [49])]) npl9
    refine ⟨pl9, rfl, ⟨_, SqL.of upd_same⟩, for_it (walk_list (xs := [.int 5001, .int (0 - 5001), .bl true, .non, .str (S [49])])) (fun i σ H' => Same (upd H8 pl9 (.lst [.int 5001, .int (0 - 5001), .bl true, .non, .str (S [49])])) H' ∧ ∃ o2, σ = [some (.ref a), some (.ref t), o2, some (.int (150 + z)), some (.ref p), none, none, none]) ⟨Same.refl _, _, rfl⟩ (fun i σ H' _ h => SqL.of (h.1 _ _ upd_same)) ?_ ?_⟩
    · rintro i x σ H9 H10 hi ⟨s9, o29, rfl⟩ ⟨rfl, hx⟩
      obtain ⟨n, hfree, hz, hno⟩ : ∃ n, (∀ H, Pl K H x n) ∧ Sz x ∧ isWhole x (-5000) 5000 = false := by
        have := List.mem_of_getElem? hx
        simp only [List.mem_cons, List.not_mem_nil, or_false] at this
        rcases this with rfl | rfl | rfl | rfl | rfl
        · exact ⟨_, fun _ => .int _, trivial, rfl⟩
        · exact ⟨_, fun _ => .int _, trivial, rfl⟩
        · exact ⟨_, fun _ => .bl _, trivial, rfl⟩
        · exact ⟨_, fun _ => .non, trivial, rfl⟩
        · exact ⟨_, fun _ => .str _, sz_str (by decide), rfl⟩
      refine ⟨_, rfl, _, rfl, p, l, _, 4, x, n, rfl, by decide, hR8.same (w1.trans s9), hfree _, hz, fun j ej H11 s11 => ?_, fun R' eR => (asked_R (j0 := 0) (act4 hno) eR).elim⟩
      obtain rfl : j = 0 := asked_j (act4 hno) ej
      refine ⟨_, _, rfl, rfl, _, rfl, iteN (c := ([110, 117, 109, 98, 101, 114] : List Nat) = [110, 117, 109, 98, 101, 114]) (fun h => absurd rfl h) (fun _ => ?_)⟩
      refine ⟨_, rfl, _, rfl, p, l, _, 5, x, n, rfl, by decide, hR8.same ((w1.trans s9).trans s11), hfree _, hz, fun j ej H12 s12 => ?_, fun R' eR => (asked_R (j0 := 0) (act5 hno) eR).elim⟩
      obtain rfl : j = 0 := asked_j (act5 hno) ej
      exact ⟨_, _, rfl, rfl, _, rfl, iteN (c := ([110, 117, 109, 98, 101, 114] : List Nat) = [110, 117, 109, 98, 101, 114]) (fun h => absurd rfl h) (fun _ => ⟨(s9.trans s11).trans s12, _, rfl⟩)⟩
    rintro σ H9 ⟨s9, o29, rfl⟩
    have s89 := w1.trans s9
    have hR9 := hR8.same s89
    have T9 := T8.same s89
    -- at both ends
    refine ⟨_, rfl, p, l, _, 2, .int 0, "int", rfl, by decide, hR9, .int 0, trivial, fun j ej H10 s10 => ?_, fun R' eR => (asked_R (j0 := 4) rfl eR).elim⟩
    obtain rfl : j = 4 := asked_j rfl ej
    refine ⟨_, _, rfl, rfl, _, rfl, iteN (c := ([101, 110, 100] : List Nat) = [101, 110, 100]) (fun h => absurd rfl h) (fun _ => ?_)⟩
    have hR10 := hR9.same s10
    refine ⟨_, rfl, p, l, _, 3, .int 0, "int", rfl, by decide, hR10, .int 0, trivial, fun j ej H11 s11 => ?_, fun R' eR => (asked_R (j0 := 5) rfl eR).elim⟩
    obtain rfl : j = 5 := asked_j rfl ej
    refine ⟨_, _, rfl, rfl, _, rfl, iteN (c := ([115, 116, 97, 114, 116] : List Nat) = [115, 116, 97, 114, 116]) (fun h => absurd rfl h) (fun _ => ?_)⟩
    have hR11 := hR10.same s11
    have T11 := (T9.same s10).same s11
    obtain ⟨⟨dx11, f1⟩, f2, f3⟩ := id hR11
    refine ⟨_, rfl, p, dx11, _, rfl, f1, rfl, p, l, _, rfl, hR11, fun c12 nc12 => ⟨sz (by decide), fun c13 nc13 => ?_⟩⟩
    refine rNeP_itm (xs := []) (SqL.of (same_new nc13 _ _ upd_same)) (SqL.of upd_same) ⟨_, rfl, iteF ?_⟩
    have x1 := (same_new (o := .lst ([].map itm)) nc12).trans (same_new (o := .lst []) nc13)
    have hR13 := hR11.same x1
    have T13 := T11.same x1
    -- the ring is out
    refine ⟨_, rfl, p, dx11, _, rfl, x1 _ _ f1, rfl, p, l, _, false, rfl, hR13, fun H14 hR14 b14 => ?_⟩
    have T14 := hR13.town T13 b14
    refine ⟨_, rfl, p, l, _, 0, .str (S [120]), "str", rfl, by decide, hR14, .str _, sz_str (by decide), fun j ej H15 s15 => ?_, fun R' eR => (asked_R (j0 := 3) rfl eR).elim⟩
    obtain rfl : j = 3 := asked_j rfl ej
    refine ⟨_, _, rfl, rfl, _, rfl, iteN (c := ([114, 105, 110, 103] : List Nat) = [114, 105, 110, 103]) (fun h => absurd rfl h) (fun _ => ?_)⟩
    have hR15 := hR14.same s15
    refine ⟨_, rfl, p, l, _, 1, .int 0, "int", rfl, by decide, hR15, .int 0, trivial, fun j ej H16 s16 => ?_, fun R' eR => (asked_R (j0 := 3) rfl eR).elim⟩
    obtain rfl : j = 3 := asked_j rfl ej
    refine ⟨_, _, rfl, rfl, _, rfl, iteN (c := ([114, 105, 110, 103] : List Nat) = [114, 105, 110, 103]) (fun h => absurd rfl h) (fun _ => ?_)⟩
    have hR16 := hR15.same s16
    refine ⟨_, rfl, p, l, _, 0, .str (S []), "str", rfl, by decide, hR16, .str _, sz_str (by decide), fun j ej H17 s17 => ?_, fun R' eR => (asked_R (j0 := 1) rfl eR).elim⟩
    obtain rfl : j = 1 := asked_j rfl ej
    refine ⟨_, _, rfl, rfl, _, rfl, iteN (c := ([110, 97, 109, 101] : List Nat) = [110, 97, 109, 101]) (fun h => absurd rfl h) (fun _ => ?_)⟩
    have hR17 := hR16.same s17
    have T17 := ((T14.same s15).same s16).same s17
    obtain ⟨⟨dx17, g1⟩, g2, g3⟩ := id hR17
    refine ⟨_, rfl, p, dx17, _, rfl, g1, rfl, p, l, _, true, rfl, hR17, fun H18 hR18 b18 => ?_⟩
    have T18 := hR17.town T17 b18
    -- how long the blocks are
    refine ⟨_, rfl, sz (by decide), fun c19 nc19 => ?_⟩
    have n19 := T18.ne nc19
    refine ⟨t, r, c19, _, rfl, town_new T18 nc19, SqL.of upd_same, n19.1, n19.2, by decide, by decide, fun j v H19 hj b19 T19 => ?_⟩
    obtain ⟨e, rfl, he1, he2⟩ : ∃ e : Nat, v = .int e ∧ 1 ≤ e ∧ e ≤ 99 := by
      have := List.mem_of_getElem? hj
      simp only [List.mem_cons, List.not_mem_nil, or_false] at this
      rcases this with rfl | rfl | rfl
      · exact ⟨99, rfl, by decide, by decide⟩
      · exact ⟨50, rfl, by decide, by decide⟩
      · exact ⟨1, rfl, by decide, by decide⟩
    have hR19 := (hR18.same (same_new nc19)).but2 b19 (town_new T18 nc19) nl2.1 nl2.2
    have hys := ys_blk he1 he2
    have hcs : cst (some (List.replicate e 121)) = (e : Int) + 3 := by
      show ((List.replicate e 121).length : Int) + 3 = _
      rw [List.length_replicate]
    have etn : ((e : Nat) : Int).toNat = e := Int.toNat_natCast e
    refine ⟨fun μ σ H' => ∃ (l : Addr) (R : Rl), σ = [some (.ref a), some (.ref t), o29, some (.int (150 + z)), some (.ref p), some (.int (e : Nat)), none, none] ∧ RlAt T.Reel.C H' p l R ∧ R.ln = 150 + z ∧ R.rg = true ∧ R.at_ = R.xs.length ∧ μ = (R.ln + 400 - R.used).toNat, ⟨_, l, _, rfl, hR19, rfl, rfl, rfl, rfl⟩, fun μ σ H' w0 => ?_⟩
    obtain ⟨l20, R, rfl, hR20, hln, hrg, hat, rfl⟩ := w0
    obtain ⟨⟨dx20, k1⟩, k2, k3⟩ := id hR20
    refine ⟨_, rfl, p, dx20, _, rfl, k1, rfl, p, l20, R, rfl, hR20, fun H21 s21 => ⟨_, rfl, _, _, rfl, rfl, _, _, rfl, rfl, _, rfl, _, _, rfl, rfl, _, _, rfl, rfl, _, rfl, iteD (fun e1 => ?_) (fun e1 => ?_)⟩⟩
    · have e1' : R.used + (e : Int) + 3 ≤ R.ln + 400 := by rw [hln]; exact e1
      have hR21 := hR20.same s21
      refine ⟨fun σ' H2 => ∃ μ', μ' < (R.ln + 400 - R.used).toNat ∧ ∃ (l : Addr) (R : Rl), σ' = [some (.ref a), some (.ref t), o29, some (.int (150 + z)), some (.ref p), some (.int (e : Nat)), none, none] ∧ RlAt T.Reel.C H2 p l R ∧ R.ln = 150 + z ∧ R.rg = true ∧ R.at_ = R.xs.length ∧ μ' = (R.ln + 400 - R.used).toNat, fun σ' H2 h => h, ?_⟩
      refine ⟨_, rfl, p, dx20, _, rfl, s21 _ _ k1, rfl, _, rfl, 121, _, rfl, rfl, by omega, by omega, p, l20, R, _, "str", rfl, hR21, .str _, sz_str (by rw [List.length_replicate]; omega), fun no => ?_, fun _ no => absurd (hrg.symm.trans no) (by decide), fun s es _ _ no => ?_, fun s es hs _ _ l' H22 nl' hR22 b22 => ?_⟩
      · rw [etn, isBlk_S, hys] at no; cases no
      · have := S_inj.mp (V.str.inj es)
        rw [etn] at this
        subst this
        rw [hcs] at no
        omega
      · have := S_inj.mp (V.str.inj es)
        rw [etn] at this
        subst this
        have pu := put_used k3.a (some (List.replicate e 121))
        rw [hcs] at pu
        exact ⟨_, (by rw [show (R.put (some (List.replicate e 121))).ln = R.ln from rfl, pu]; omega), l', _, rfl, hR22, hln, hrg, put_len hat _, rfl⟩
    · have e1' : R.ln + 400 < R.used + (e : Int) + 3 := by rw [hln]; exact Int.not_le.mp e1
      have hR21 := hR20.same s21
      -- what stands there
      refine ⟨_, rfl, p, dx20, _, rfl, s21 _ _ k1, rfl, p, l20, R, rfl, hR21, fun q nq => ?_⟩
      have y1 := same_new (o := .lst (R.xs.map itm)) nq
      have hR22 := hR21.same y1
      have actl : act R 0 (.str (S (List.replicate ((e : Nat) : Int).toNat 121))) = .inl 6 := by
        show (if isBlk (.str (S _)) = false then _ else if R.rg = false then _ else if R.ln + 400 < R.used + cst (some (S _).cps.toList) then _ else _) = _
        rw [isBlk_S, S_cps, etn, hys, if_neg (by decide), if_neg (by rw [hrg]; decide), if_pos (by rw [hcs]; omega)]
      refine ⟨_, rfl, _, rfl, 121, _, rfl, rfl, by omega, by omega, p, l20, R, 0, _, "str", rfl, by decide, hR22, .str _, sz_str (by rw [List.length_replicate]; omega), fun j ej H23 s23 => ?_, fun R' eR => (asked_R (j0 := 6) actl eR).elim⟩
      obtain rfl : j = 6 := asked_j actl ej
      refine ⟨_, _, rfl, rfl, _, rfl, iteN (c := ([108, 111, 110, 103] : List Nat) = [108, 111, 110, 103]) (fun h => absurd rfl h) (fun _ => ?_)⟩
      have hR23 := hR22.same s23
      have hq23 := s23 _ _ upd_same
      have m1 := s23 _ _ (y1 _ _ (s21 _ _ k1))
      refine ⟨_, rfl, p, dx20, _, rfl, m1, rfl, p, l20, R, rfl, hR23, fun c24 nc24 => ⟨_, rfl, ?_⟩⟩
      have y2 := same_new (o := .lst (R.xs.map itm)) nc24
      refine rNeP_itm (SqL.of upd_same) (SqL.of (y2 _ _ hq23)) ⟨_, rfl, iteF ?_⟩
      have hR24 := hR23.same y2
      refine ⟨_, rfl, p, dx20, _, rfl, y2 _ _ m1, rfl, p, l20, R, rfl, hR24, fun H25 s25 => ⟨_, _, rfl, rfl, _, rfl, ?_⟩⟩
      rw [decide_eq_true (show R.ln ≤ R.used by omega)]
      refine iteF ?_
      have hR25 := hR24.same s25
      have m2 := s25 _ _ (y2 _ _ m1)
      have hq25 := s25 _ _ (y2 _ _ hq23)
      -- a mark
      refine ⟨_, rfl, p, dx20, _, rfl, m2, rfl, p, l20, R, rfl, hR25, fun H26 s26 => ⟨_, _, rfl, rfl, _, rfl, _, _, rfl, rfl, _, _, rfl, rfl, _, rfl, iteD (fun e2 => ?_) (fun e2 => ?_)⟩⟩
      · have e2' : R.used + 4 ≤ R.ln + 400 := by rw [hln]; exact e2
        have acty : act R 1 (.int 0) = .inr (R.put none) := by
          show (if R.rg = false then _ else if R.ln + 400 < R.used + 4 then _ else _) = _
          rw [if_neg (by rw [hrg]; decide), if_neg (by omega)]
        refine ⟨_, rfl, p, l20, R, 1, .int 0, "int", rfl, by decide, hR25.same s26, .int 0, trivial, fun j ej => (asked_L acty ej).elim, fun R' eR l' H27 hR27 b27 _ => ?_⟩
        obtain rfl : R' = R.put none := asked_r acty eR
        refine ⟨_, rfl, _, _, rfl, rfl, _, rfl, iteN (c := ([116, 111, 108, 100] : List Nat) = [116, 111, 108, 100]) (fun h => absurd rfl h) (fun _ => ?_)⟩
        have hqp : q ≠ p := ne_of hq25 m2 (by intro z; cases z)
        exact ⟨p, l', q, _, R, _, _, _, _, _, _, rfl, hR27, b27 _ _ (s26 _ _ hq25) hqp, k3.n, .inr (by
          have := put_len hat none
          have h4 : (R.put none).at_ = R.at_ + 1 := rfl
          omega), kk⟩
      · have e2' : R.ln + 400 < R.used + 4 := by rw [hln]; exact Int.not_le.mp e2
        have actn : act R 1 (.int 0) = .inl 6 := by
          show (if R.rg = false then _ else if R.ln + 400 < R.used + 4 then _ else _) = _
          rw [if_neg (by rw [hrg]; decide), if_pos e2']
        refine ⟨_, rfl, p, l20, R, 1, .int 0, "int", rfl, by decide, hR25.same s26, .int 0, trivial, fun j ej H27 s27 => ?_, fun R' eR => (asked_R (j0 := 6) actn eR).elim⟩
        obtain rfl : j = 6 := asked_j actn ej
        refine ⟨_, rfl, _, _, rfl, rfl, _, rfl, iteN (c := ([108, 111, 110, 103] : List Nat) = [108, 111, 110, 103]) (fun h => absurd rfl h) (fun _ => ?_)⟩
        exact ⟨p, l20, q, R, R, _, _, _, _, _, _, rfl, (hR25.same s26).same s27, s27 _ _ (s26 _ _ hq25), k3.n, .inl rfl, kk⟩
end
end R
set_option maxRecDepth 100000
set_option maxHeartbeats 8000000
namespace R
open PySem PySem.Spec PyProof.Rows L2 RZ
theorem lit_65_66_67_68_69_70_71_72_73_74_75_76_77_78_79_80_81_82_83_84_85_86_87_88_89_90_48_49_50_51_52_53_54_55_56_57 : ("ABCDEFGHIJKLMNOPQRSTUVWXYZ0123456789" : Str) = S [65, 66, 67, 68, 69, 70, 71, 72, 73, 74, 75, 76, 77, 78, 79, 80, 81, 82, 83, 84, 85, 86, 87, 88, 89, 90, 48, 49, 50, 51, 52, 53, 54, 55, 56, 57] := by decide +kernel
theorem txt_mk {K : PySem.W.Frag} {h : Heap} {mg : Str → Option Value} (X : K.In h) (G : h.Ns mainGlobals mg) {C_BadBlock C_BadLabel C_BadReel C_AtEnd C_NoReel C_TooLong C_NoFile C_NoRing C_BadNumber C_BadName C_BadRecord C_Kept C_AtStart C_ReelError C_BadForm C_Reel f__wall f_is_whole f_look_number f_is_name f_look_name f_cost f_is_block f_Reel___init__ f_Reel_ring f_Reel_used f_Reel_is_near_end f_Reel_put f_Reel_write f_Reel_write_mark f_Reel_read f_Reel_read_back f_Reel_rewind f_Reel_skip f_Reel_skip_marks f_Reel_at f_Reel_content f_Reel_tear f_Reel_called f__law_town f__law_draw f__law_pick f__law_refusal f__law_made f__law_does f__law_asked f_law : Addr} {od__wall an__wall od_is_whole an_is_whole od_look_number an_look_number od_is_name an_is_name od_look_name an_look_name od_cost an_cost od_is_block an_is_block od_Reel___init__ an_Reel___init__ od_Reel_ring an_Reel_ring od_Reel_used an_Reel_used od_Reel_is_near_end an_Reel_is_near_end od_Reel_put an_Reel_put od_Reel_write an_Reel_write od_Reel_write_mark an_Reel_write_mark od_Reel_read an_Reel_read od_Reel_read_back an_Reel_read_back od_Reel_rewind an_Reel_rewind od_Reel_skip an_Reel_skip od_Reel_skip_marks an_Reel_skip_marks od_Reel_at an_Reel_at od_Reel_content an_Reel_content od_Reel_tear an_Reel_tear od_Reel_called an_Reel_called od__law_town an__law_town od__law_draw an__law_draw od__law_pick an__law_pick od__law_refusal an__law_refusal od__law_made an__law_made od__law_does an__law_does od__law_asked an__law_asked od_law an_law : Option Addr} {oc__wall kV__wall dc__wall pm__wall cd__wall ct__wall oc_is_whole kV_is_whole dc_is_whole pm_is_whole cd_is_whole ct_is_whole oc_look_number kV_look_number dc_look_number pm_look_number cd_look_number ct_look_number oc_is_name kV_is_name dc_is_name pm_is_name cd_is_name ct_is_name oc_look_name kV_look_name dc_look_name pm_look_name cd_look_name ct_look_name oc_cost kV_cost dc_cost pm_cost cd_cost ct_cost oc_is_block kV_is_block dc_is_block pm_is_block cd_is_block ct_is_block oc_Reel___init__ kV_Reel___init__ dc_Reel___init__ pm_Reel___init__ cd_Reel___init__ ct_Reel___init__ oc_Reel_ring kV_Reel_ring dc_Reel_ring pm_Reel_ring cd_Reel_ring ct_Reel_ring oc_Reel_used kV_Reel_used dc_Reel_used pm_Reel_used cd_Reel_used ct_Reel_used oc_Reel_is_near_end kV_Reel_is_near_end dc_Reel_is_near_end pm_Reel_is_near_end cd_Reel_is_near_end ct_Reel_is_near_end oc_Reel_put kV_Reel_put dc_Reel_put pm_Reel_put cd_Reel_put ct_Reel_put oc_Reel_write kV_Reel_write dc_Reel_write pm_Reel_write cd_Reel_write ct_Reel_write oc_Reel_write_mark kV_Reel_write_mark dc_Reel_write_mark pm_Reel_write_mark cd_Reel_write_mark ct_Reel_write_mark oc_Reel_read kV_Reel_read dc_Reel_read pm_Reel_read cd_Reel_read ct_Reel_read oc_Reel_read_back kV_Reel_read_back dc_Reel_read_back pm_Reel_read_back cd_Reel_read_back ct_Reel_read_back oc_Reel_rewind kV_Reel_rewind dc_Reel_rewind pm_Reel_rewind cd_Reel_rewind ct_Reel_rewind oc_Reel_skip kV_Reel_skip dc_Reel_skip pm_Reel_skip cd_Reel_skip ct_Reel_skip oc_Reel_skip_marks kV_Reel_skip_marks dc_Reel_skip_marks pm_Reel_skip_marks cd_Reel_skip_marks ct_Reel_skip_marks oc_Reel_at kV_Reel_at dc_Reel_at pm_Reel_at cd_Reel_at ct_Reel_at oc_Reel_content kV_Reel_content dc_Reel_content pm_Reel_content cd_Reel_content ct_Reel_content oc_Reel_tear kV_Reel_tear dc_Reel_tear pm_Reel_tear cd_Reel_tear ct_Reel_tear oc_Reel_called kV_Reel_called dc_Reel_called pm_Reel_called cd_Reel_called ct_Reel_called oc__law_town kV__law_town dc__law_town pm__law_town cd__law_town ct__law_town oc__law_draw kV__law_draw dc__law_draw pm__law_draw cd__law_draw ct__law_draw oc__law_pick kV__law_pick dc__law_pick pm__law_pick cd__law_pick ct__law_pick oc__law_refusal kV__law_refusal dc__law_refusal pm__law_refusal cd__law_refusal ct__law_refusal oc__law_made kV__law_made dc__law_made pm__law_made cd__law_made ct__law_made oc__law_does kV__law_does dc__law_does pm__law_does cd__law_does ct__law_does oc__law_asked kV__law_asked dc__law_asked pm__law_asked cd__law_asked ct__law_asked oc_law kV_law dc_law pm_law cd_law ct_law : Value} {sl__wall sl_is_whole sl_look_number sl_is_name sl_look_name sl_cost sl_is_block sl_Reel___init__ sl_Reel_ring sl_Reel_used sl_Reel_is_near_end sl_Reel_put sl_Reel_write sl_Reel_write_mark sl_Reel_read sl_Reel_read_back sl_Reel_rewind sl_Reel_skip sl_Reel_skip_marks sl_Reel_at sl_Reel_content sl_Reel_tear sl_Reel_called sl__law_town sl__law_draw sl__law_pick sl__law_refusal sl__law_made sl__law_does sl__law_asked sl_law : Array (Option Value)} {tk_GAP tk_MARK_LONG tk_MOST_BLOCK tk_MOST_LONG tk_SIGNS tk_SPARE : Tok}
    (g_BadBlock : PySem.W.nsIn K mainGlobals "BadBlock" = some (some (.ref C_BadBlock)))
    (x_BadBlock : PySem.W.excIn K C_BadBlock [.type "ValueError", .type "Exception", .type "BaseException", .type "object"] "ValueError.__new__" = true)
    (k_BadBlock : PySem.W.keepIn K (.ref C_BadBlock) = true)
    (b_BadBlock : PySem.W.subIn K (.ref C_BadBlock) (.type "BaseException") = some true)
    (t_BadBlock : PySem.W.typeIn K (.ref C_BadBlock) = some (.type "type"))
    (g_BadLabel : PySem.W.nsIn K mainGlobals "BadLabel" = some (some (.ref C_BadLabel)))
    (x_BadLabel : PySem.W.excIn K C_BadLabel [.type "ValueError", .type "Exception", .type "BaseException", .type "object"] "ValueError.__new__" = true)
    (k_BadLabel : PySem.W.keepIn K (.ref C_BadLabel) = true)
    (b_BadLabel : PySem.W.subIn K (.ref C_BadLabel) (.type "BaseException") = some true)
    (t_BadLabel : PySem.W.typeIn K (.ref C_BadLabel) = some (.type "type"))
    (g_BadReel : PySem.W.nsIn K mainGlobals "BadReel" = some (some (.ref C_BadReel)))
    (x_BadReel : PySem.W.excIn K C_BadReel [.type "ValueError", .type "Exception", .type "BaseException", .type "object"] "ValueError.__new__" = true)
    (k_BadReel : PySem.W.keepIn K (.ref C_BadReel) = true)
    (b_BadReel : PySem.W.subIn K (.ref C_BadReel) (.type "BaseException") = some true)
    (t_BadReel : PySem.W.typeIn K (.ref C_BadReel) = some (.type "type"))
    (g_AtEnd : PySem.W.nsIn K mainGlobals "AtEnd" = some (some (.ref C_AtEnd)))
    (x_AtEnd : PySem.W.excIn K C_AtEnd [.type "ValueError", .type "Exception", .type "BaseException", .type "object"] "ValueError.__new__" = true)
    (k_AtEnd : PySem.W.keepIn K (.ref C_AtEnd) = true)
    (b_AtEnd : PySem.W.subIn K (.ref C_AtEnd) (.type "BaseException") = some true)
    (t_AtEnd : PySem.W.typeIn K (.ref C_AtEnd) = some (.type "type"))
    (g_NoReel : PySem.W.nsIn K mainGlobals "NoReel" = some (some (.ref C_NoReel)))
    (x_NoReel : PySem.W.excIn K C_NoReel [.type "ValueError", .type "Exception", .type "BaseException", .type "object"] "ValueError.__new__" = true)
    (k_NoReel : PySem.W.keepIn K (.ref C_NoReel) = true)
    (b_NoReel : PySem.W.subIn K (.ref C_NoReel) (.type "BaseException") = some true)
    (t_NoReel : PySem.W.typeIn K (.ref C_NoReel) = some (.type "type"))
    (g_TooLong : PySem.W.nsIn K mainGlobals "TooLong" = some (some (.ref C_TooLong)))
    (x_TooLong : PySem.W.excIn K C_TooLong [.type "ValueError", .type "Exception", .type "BaseException", .type "object"] "ValueError.__new__" = true)
    (k_TooLong : PySem.W.keepIn K (.ref C_TooLong) = true)
    (b_TooLong : PySem.W.subIn K (.ref C_TooLong) (.type "BaseException") = some true)
    (t_TooLong : PySem.W.typeIn K (.ref C_TooLong) = some (.type "type"))
    (g_NoFile : PySem.W.nsIn K mainGlobals "NoFile" = some (some (.ref C_NoFile)))
    (g_NoRing : PySem.W.nsIn K mainGlobals "NoRing" = some (some (.ref C_NoRing)))
    (x_NoRing : PySem.W.excIn K C_NoRing [.type "ValueError", .type "Exception", .type "BaseException", .type "object"] "ValueError.__new__" = true)
    (k_NoRing : PySem.W.keepIn K (.ref C_NoRing) = true)
    (b_NoRing : PySem.W.subIn K (.ref C_NoRing) (.type "BaseException") = some true)
    (t_NoRing : PySem.W.typeIn K (.ref C_NoRing) = some (.type "type"))
    (g_BadNumber : PySem.W.nsIn K mainGlobals "BadNumber" = some (some (.ref C_BadNumber)))
    (x_BadNumber : PySem.W.excIn K C_BadNumber [.type "ValueError", .type "Exception", .type "BaseException", .type "object"] "ValueError.__new__" = true)
    (k_BadNumber : PySem.W.keepIn K (.ref C_BadNumber) = true)
    (b_BadNumber : PySem.W.subIn K (.ref C_BadNumber) (.type "BaseException") = some true)
    (t_BadNumber : PySem.W.typeIn K (.ref C_BadNumber) = some (.type "type"))
    (g_BadName : PySem.W.nsIn K mainGlobals "BadName" = some (some (.ref C_BadName)))
    (x_BadName : PySem.W.excIn K C_BadName [.type "ValueError", .type "Exception", .type "BaseException", .type "object"] "ValueError.__new__" = true)
    (k_BadName : PySem.W.keepIn K (.ref C_BadName) = true)
    (b_BadName : PySem.W.subIn K (.ref C_BadName) (.type "BaseException") = some true)
    (t_BadName : PySem.W.typeIn K (.ref C_BadName) = some (.type "type"))
    (g_BadRecord : PySem.W.nsIn K mainGlobals "BadRecord" = some (some (.ref C_BadRecord)))
    (x_BadRecord : PySem.W.excIn K C_BadRecord [.type "ValueError", .type "Exception", .type "BaseException", .type "object"] "ValueError.__new__" = true)
    (k_BadRecord : PySem.W.keepIn K (.ref C_BadRecord) = true)
    (b_BadRecord : PySem.W.subIn K (.ref C_BadRecord) (.type "BaseException") = some true)
    (t_BadRecord : PySem.W.typeIn K (.ref C_BadRecord) = some (.type "type"))
    (g_Kept : PySem.W.nsIn K mainGlobals "Kept" = some (some (.ref C_Kept)))
    (g_AtStart : PySem.W.nsIn K mainGlobals "AtStart" = some (some (.ref C_AtStart)))
    (x_AtStart : PySem.W.excIn K C_AtStart [.type "ValueError", .type "Exception", .type "BaseException", .type "object"] "ValueError.__new__" = true)
    (k_AtStart : PySem.W.keepIn K (.ref C_AtStart) = true)
    (b_AtStart : PySem.W.subIn K (.ref C_AtStart) (.type "BaseException") = some true)
    (t_AtStart : PySem.W.typeIn K (.ref C_AtStart) = some (.type "type"))
    (g_ReelError : PySem.W.nsIn K mainGlobals "ReelError" = some (some (.ref C_ReelError)))
    (x_ReelError : PySem.W.excIn K C_ReelError [.type "ValueError", .type "Exception", .type "BaseException", .type "object"] "ValueError.__new__" = true)
    (k_ReelError : PySem.W.keepIn K (.ref C_ReelError) = true)
    (b_ReelError : PySem.W.subIn K (.ref C_ReelError) (.type "BaseException") = some true)
    (t_ReelError : PySem.W.typeIn K (.ref C_ReelError) = some (.type "type"))
    (g_BadForm : PySem.W.nsIn K mainGlobals "BadForm" = some (some (.ref C_BadForm)))
    (x_BadForm : PySem.W.excIn K C_BadForm [.type "ValueError", .type "Exception", .type "BaseException", .type "object"] "ValueError.__new__" = true)
    (k_BadForm : PySem.W.keepIn K (.ref C_BadForm) = true)
    (b_BadForm : PySem.W.subIn K (.ref C_BadForm) (.type "BaseException") = some true)
    (t_BadForm : PySem.W.typeIn K (.ref C_BadForm) = some (.type "type"))
    (g_Reel : PySem.W.nsIn K mainGlobals "Reel" = some (some (.ref C_Reel)))
    (pg_Reel : PySem.W.plainGet K C_Reel Str.empty = true)
    (hd_Reel : PySem.W.hasDictIn K C_Reel = true)
    (po_Reel : PySem.W.plainOver K C_Reel = true)
    (sa_Reel : PySem.W.findIn K (.ref C_Reel) "__setattr__" = some (some (.builtin "object.__setattr__")))
    (mk_Reel : PySem.W.makesIn K C_Reel = true)
    (kc_Reel : PySem.W.keepIn K (.ref C_Reel) = true)
    (a__wall : PySem.W.nsIn K mainGlobals "_wall" = some (some (.ref f__wall)))
    (l__wall : K.lookup f__wall = some ⟨oc__wall, od__wall, .func (PySem.W.fnOf "_wall" "_wall" (defArgs s__wall) (defBody s__wall) (defScope s__wall) .none kV__wall dc__wall pm__wall an__wall cd__wall ct__wall), sl__wall⟩)
    (c__wall : PySem.W.codeIn K cd__wall "_wall" = true)
    (k__wall : PySem.W.keepIn K (.ref f__wall) = true)
    (a_is_whole : PySem.W.nsIn K mainGlobals "is_whole" = some (some (.ref f_is_whole)))
    (l_is_whole : K.lookup f_is_whole = some ⟨oc_is_whole, od_is_whole, .func (PySem.W.fnOf "is_whole" "is_whole" (defArgs s_is_whole) (defBody s_is_whole) (defScope s_is_whole) .none kV_is_whole dc_is_whole pm_is_whole an_is_whole cd_is_whole ct_is_whole), sl_is_whole⟩)
    (c_is_whole : PySem.W.codeIn K cd_is_whole "is_whole" = true)
    (k_is_whole : PySem.W.keepIn K (.ref f_is_whole) = true)
    (a_look_number : PySem.W.nsIn K mainGlobals "look_number" = some (some (.ref f_look_number)))
    (l_look_number : K.lookup f_look_number = some ⟨oc_look_number, od_look_number, .func (PySem.W.fnOf "look_number" "look_number" (defArgs s_look_number) (defBody s_look_number) (defScope s_look_number) .none kV_look_number dc_look_number pm_look_number an_look_number cd_look_number ct_look_number), sl_look_number⟩)
    (c_look_number : PySem.W.codeIn K cd_look_number "look_number" = true)
    (k_look_number : PySem.W.keepIn K (.ref f_look_number) = true)
    (a_is_name : PySem.W.nsIn K mainGlobals "is_name" = some (some (.ref f_is_name)))
    (l_is_name : K.lookup f_is_name = some ⟨oc_is_name, od_is_name, .func (PySem.W.fnOf "is_name" "is_name" (defArgs s_is_name) (defBody s_is_name) (defScope s_is_name) .none kV_is_name dc_is_name pm_is_name an_is_name cd_is_name ct_is_name), sl_is_name⟩)
    (c_is_name : PySem.W.codeIn K cd_is_name "is_name" = true)
    (k_is_name : PySem.W.keepIn K (.ref f_is_name) = true)
    (a_look_name : PySem.W.nsIn K mainGlobals "look_name" = some (some (.ref f_look_name)))
    (l_look_name : K.lookup f_look_name = some ⟨oc_look_name, od_look_name, .func (PySem.W.fnOf "look_name" "look_name" (defArgs s_look_name) (defBody s_look_name) (defScope s_look_name) .none kV_look_name dc_look_name pm_look_name an_look_name cd_look_name ct_look_name), sl_look_name⟩)
    (c_look_name : PySem.W.codeIn K cd_look_name "look_name" = true)
    (k_look_name : PySem.W.keepIn K (.ref f_look_name) = true)
    (a_cost : PySem.W.nsIn K mainGlobals "cost" = some (some (.ref f_cost)))
    (l_cost : K.lookup f_cost = some ⟨oc_cost, od_cost, .func (PySem.W.fnOf "cost" "cost" (defArgs s_cost) (defBody s_cost) (defScope s_cost) .none kV_cost dc_cost pm_cost an_cost cd_cost ct_cost), sl_cost⟩)
    (c_cost : PySem.W.codeIn K cd_cost "cost" = true)
    (k_cost : PySem.W.keepIn K (.ref f_cost) = true)
    (a_is_block : PySem.W.nsIn K mainGlobals "is_block" = some (some (.ref f_is_block)))
    (l_is_block : K.lookup f_is_block = some ⟨oc_is_block, od_is_block, .func (PySem.W.fnOf "is_block" "is_block" (defArgs s_is_block) (defBody s_is_block) (defScope s_is_block) .none kV_is_block dc_is_block pm_is_block an_is_block cd_is_block ct_is_block), sl_is_block⟩)
    (c_is_block : PySem.W.codeIn K cd_is_block "is_block" = true)
    (k_is_block : PySem.W.keepIn K (.ref f_is_block) = true)
    (a_Reel___init__ : PySem.W.findIn K (.ref C_Reel) "__init__" = some (some (.ref f_Reel___init__)))
    (i_Reel___init__ : PySem.W.isFn K (.ref f_Reel___init__) = true)
    (l_Reel___init__ : K.lookup f_Reel___init__ = some ⟨oc_Reel___init__, od_Reel___init__, .func (PySem.W.fnOf "__init__" "Reel.__init__" (defArgs s_Reel___init__) (defBody s_Reel___init__) (defScope s_Reel___init__) .none kV_Reel___init__ dc_Reel___init__ pm_Reel___init__ an_Reel___init__ cd_Reel___init__ ct_Reel___init__), sl_Reel___init__⟩)
    (c_Reel___init__ : PySem.W.codeIn K cd_Reel___init__ "Reel.__init__" = true)
    (k_Reel___init__ : PySem.W.keepIn K (.ref f_Reel___init__) = true)
    (a_Reel_ring : PySem.W.findIn K (.ref C_Reel) "ring" = some (some (.ref f_Reel_ring)))
    (i_Reel_ring : PySem.W.isFn K (.ref f_Reel_ring) = true)
    (l_Reel_ring : K.lookup f_Reel_ring = some ⟨oc_Reel_ring, od_Reel_ring, .func (PySem.W.fnOf "ring" "Reel.ring" (defArgs s_Reel_ring) (defBody s_Reel_ring) (defScope s_Reel_ring) .none kV_Reel_ring dc_Reel_ring pm_Reel_ring an_Reel_ring cd_Reel_ring ct_Reel_ring), sl_Reel_ring⟩)
    (c_Reel_ring : PySem.W.codeIn K cd_Reel_ring "Reel.ring" = true)
    (k_Reel_ring : PySem.W.keepIn K (.ref f_Reel_ring) = true)
    (a_Reel_used : PySem.W.findIn K (.ref C_Reel) "used" = some (some (.ref f_Reel_used)))
    (i_Reel_used : PySem.W.isFn K (.ref f_Reel_used) = true)
    (l_Reel_used : K.lookup f_Reel_used = some ⟨oc_Reel_used, od_Reel_used, .func (PySem.W.fnOf "used" "Reel.used" (defArgs s_Reel_used) (defBody s_Reel_used) (defScope s_Reel_used) .none kV_Reel_used dc_Reel_used pm_Reel_used an_Reel_used cd_Reel_used ct_Reel_used), sl_Reel_used⟩)
    (c_Reel_used : PySem.W.codeIn K cd_Reel_used "Reel.used" = true)
    (k_Reel_used : PySem.W.keepIn K (.ref f_Reel_used) = true)
    (a_Reel_is_near_end : PySem.W.findIn K (.ref C_Reel) "is_near_end" = some (some (.ref f_Reel_is_near_end)))
    (i_Reel_is_near_end : PySem.W.isFn K (.ref f_Reel_is_near_end) = true)
    (l_Reel_is_near_end : K.lookup f_Reel_is_near_end = some ⟨oc_Reel_is_near_end, od_Reel_is_near_end, .func (PySem.W.fnOf "is_near_end" "Reel.is_near_end" (defArgs s_Reel_is_near_end) (defBody s_Reel_is_near_end) (defScope s_Reel_is_near_end) .none kV_Reel_is_near_end dc_Reel_is_near_end pm_Reel_is_near_end an_Reel_is_near_end cd_Reel_is_near_end ct_Reel_is_near_end), sl_Reel_is_near_end⟩)
    (c_Reel_is_near_end : PySem.W.codeIn K cd_Reel_is_near_end "Reel.is_near_end" = true)
    (k_Reel_is_near_end : PySem.W.keepIn K (.ref f_Reel_is_near_end) = true)
    (a_Reel_put : PySem.W.findIn K (.ref C_Reel) "put" = some (some (.ref f_Reel_put)))
    (i_Reel_put : PySem.W.isFn K (.ref f_Reel_put) = true)
    (l_Reel_put : K.lookup f_Reel_put = some ⟨oc_Reel_put, od_Reel_put, .func (PySem.W.fnOf "put" "Reel.put" (defArgs s_Reel_put) (defBody s_Reel_put) (defScope s_Reel_put) .none kV_Reel_put dc_Reel_put pm_Reel_put an_Reel_put cd_Reel_put ct_Reel_put), sl_Reel_put⟩)
    (c_Reel_put : PySem.W.codeIn K cd_Reel_put "Reel.put" = true)
    (k_Reel_put : PySem.W.keepIn K (.ref f_Reel_put) = true)
    (a_Reel_write : PySem.W.findIn K (.ref C_Reel) "write" = some (some (.ref f_Reel_write)))
    (i_Reel_write : PySem.W.isFn K (.ref f_Reel_write) = true)
    (l_Reel_write : K.lookup f_Reel_write = some ⟨oc_Reel_write, od_Reel_write, .func (PySem.W.fnOf "write" "Reel.write" (defArgs s_Reel_write) (defBody s_Reel_write) (defScope s_Reel_write) .none kV_Reel_write dc_Reel_write pm_Reel_write an_Reel_write cd_Reel_write ct_Reel_write), sl_Reel_write⟩)
    (c_Reel_write : PySem.W.codeIn K cd_Reel_write "Reel.write" = true)
    (k_Reel_write : PySem.W.keepIn K (.ref f_Reel_write) = true)
    (a_Reel_write_mark : PySem.W.findIn K (.ref C_Reel) "write_mark" = some (some (.ref f_Reel_write_mark)))
    (i_Reel_write_mark : PySem.W.isFn K (.ref f_Reel_write_mark) = true)
    (l_Reel_write_mark : K.lookup f_Reel_write_mark = some ⟨oc_Reel_write_mark, od_Reel_write_mark, .func (PySem.W.fnOf "write_mark" "Reel.write_mark" (defArgs s_Reel_write_mark) (defBody s_Reel_write_mark) (defScope s_Reel_write_mark) .none kV_Reel_write_mark dc_Reel_write_mark pm_Reel_write_mark an_Reel_write_mark cd_Reel_write_mark ct_Reel_write_mark), sl_Reel_write_mark⟩)
    (c_Reel_write_mark : PySem.W.codeIn K cd_Reel_write_mark "Reel.write_mark" = true)
    (k_Reel_write_mark : PySem.W.keepIn K (.ref f_Reel_write_mark) = true)
    (a_Reel_read : PySem.W.findIn K (.ref C_Reel) "read" = some (some (.ref f_Reel_read)))
    (i_Reel_read : PySem.W.isFn K (.ref f_Reel_read) = true)
    (l_Reel_read : K.lookup f_Reel_read = some ⟨oc_Reel_read, od_Reel_read, .func (PySem.W.fnOf "read" "Reel.read" (defArgs s_Reel_read) (defBody s_Reel_read) (defScope s_Reel_read) .none kV_Reel_read dc_Reel_read pm_Reel_read an_Reel_read cd_Reel_read ct_Reel_read), sl_Reel_read⟩)
    (c_Reel_read : PySem.W.codeIn K cd_Reel_read "Reel.read" = true)
    (k_Reel_read : PySem.W.keepIn K (.ref f_Reel_read) = true)
    (a_Reel_read_back : PySem.W.findIn K (.ref C_Reel) "read_back" = some (some (.ref f_Reel_read_back)))
    (i_Reel_read_back : PySem.W.isFn K (.ref f_Reel_read_back) = true)
    (l_Reel_read_back : K.lookup f_Reel_read_back = some ⟨oc_Reel_read_back, od_Reel_read_back, .func (PySem.W.fnOf "read_back" "Reel.read_back" (defArgs s_Reel_read_back) (defBody s_Reel_read_back) (defScope s_Reel_read_back) .none kV_Reel_read_back dc_Reel_read_back pm_Reel_read_back an_Reel_read_back cd_Reel_read_back ct_Reel_read_back), sl_Reel_read_back⟩)
    (c_Reel_read_back : PySem.W.codeIn K cd_Reel_read_back "Reel.read_back" = true)
    (k_Reel_read_back : PySem.W.keepIn K (.ref f_Reel_read_back) = true)
    (a_Reel_rewind : PySem.W.findIn K (.ref C_Reel) "rewind" = some (some (.ref f_Reel_rewind)))
    (i_Reel_rewind : PySem.W.isFn K (.ref f_Reel_rewind) = true)
    (l_Reel_rewind : K.lookup f_Reel_rewind = some ⟨oc_Reel_rewind, od_Reel_rewind, .func (PySem.W.fnOf "rewind" "Reel.rewind" (defArgs s_Reel_rewind) (defBody s_Reel_rewind) (defScope s_Reel_rewind) .none kV_Reel_rewind dc_Reel_rewind pm_Reel_rewind an_Reel_rewind cd_Reel_rewind ct_Reel_rewind), sl_Reel_rewind⟩)
    (c_Reel_rewind : PySem.W.codeIn K cd_Reel_rewind "Reel.rewind" = true)
    (k_Reel_rewind : PySem.W.keepIn K (.ref f_Reel_rewind) = true)
    (a_Reel_skip : PySem.W.findIn K (.ref C_Reel) "skip" = some (some (.ref f_Reel_skip)))
    (i_Reel_skip : PySem.W.isFn K (.ref f_Reel_skip) = true)
    (l_Reel_skip : K.lookup f_Reel_skip = some ⟨oc_Reel_skip, od_Reel_skip, .func (PySem.W.fnOf "skip" "Reel.skip" (defArgs s_Reel_skip) (defBody s_Reel_skip) (defScope s_Reel_skip) .none kV_Reel_skip dc_Reel_skip pm_Reel_skip an_Reel_skip cd_Reel_skip ct_Reel_skip), sl_Reel_skip⟩)
    (c_Reel_skip : PySem.W.codeIn K cd_Reel_skip "Reel.skip" = true)
    (k_Reel_skip : PySem.W.keepIn K (.ref f_Reel_skip) = true)
    (a_Reel_skip_marks : PySem.W.findIn K (.ref C_Reel) "skip_marks" = some (some (.ref f_Reel_skip_marks)))
    (i_Reel_skip_marks : PySem.W.isFn K (.ref f_Reel_skip_marks) = true)
    (l_Reel_skip_marks : K.lookup f_Reel_skip_marks = some ⟨oc_Reel_skip_marks, od_Reel_skip_marks, .func (PySem.W.fnOf "skip_marks" "Reel.skip_marks" (defArgs s_Reel_skip_marks) (defBody s_Reel_skip_marks) (defScope s_Reel_skip_marks) .none kV_Reel_skip_marks dc_Reel_skip_marks pm_Reel_skip_marks an_Reel_skip_marks cd_Reel_skip_marks ct_Reel_skip_marks), sl_Reel_skip_marks⟩)
    (c_Reel_skip_marks : PySem.W.codeIn K cd_Reel_skip_marks "Reel.skip_marks" = true)
    (k_Reel_skip_marks : PySem.W.keepIn K (.ref f_Reel_skip_marks) = true)
    (a_Reel_at : PySem.W.findIn K (.ref C_Reel) "at" = some (some (.ref f_Reel_at)))
    (i_Reel_at : PySem.W.isFn K (.ref f_Reel_at) = true)
    (l_Reel_at : K.lookup f_Reel_at = some ⟨oc_Reel_at, od_Reel_at, .func (PySem.W.fnOf "at" "Reel.at" (defArgs s_Reel_at) (defBody s_Reel_at) (defScope s_Reel_at) .none kV_Reel_at dc_Reel_at pm_Reel_at an_Reel_at cd_Reel_at ct_Reel_at), sl_Reel_at⟩)
    (c_Reel_at : PySem.W.codeIn K cd_Reel_at "Reel.at" = true)
    (k_Reel_at : PySem.W.keepIn K (.ref f_Reel_at) = true)
    (a_Reel_content : PySem.W.findIn K (.ref C_Reel) "content" = some (some (.ref f_Reel_content)))
    (i_Reel_content : PySem.W.isFn K (.ref f_Reel_content) = true)
    (l_Reel_content : K.lookup f_Reel_content = some ⟨oc_Reel_content, od_Reel_content, .func (PySem.W.fnOf "content" "Reel.content" (defArgs s_Reel_content) (defBody s_Reel_content) (defScope s_Reel_content) .none kV_Reel_content dc_Reel_content pm_Reel_content an_Reel_content cd_Reel_content ct_Reel_content), sl_Reel_content⟩)
    (c_Reel_content : PySem.W.codeIn K cd_Reel_content "Reel.content" = true)
    (k_Reel_content : PySem.W.keepIn K (.ref f_Reel_content) = true)
    (a_Reel_tear : PySem.W.findIn K (.ref C_Reel) "tear" = some (some (.ref f_Reel_tear)))
    (i_Reel_tear : PySem.W.isFn K (.ref f_Reel_tear) = true)
    (l_Reel_tear : K.lookup f_Reel_tear = some ⟨oc_Reel_tear, od_Reel_tear, .func (PySem.W.fnOf "tear" "Reel.tear" (defArgs s_Reel_tear) (defBody s_Reel_tear) (defScope s_Reel_tear) .none kV_Reel_tear dc_Reel_tear pm_Reel_tear an_Reel_tear cd_Reel_tear ct_Reel_tear), sl_Reel_tear⟩)
    (c_Reel_tear : PySem.W.codeIn K cd_Reel_tear "Reel.tear" = true)
    (k_Reel_tear : PySem.W.keepIn K (.ref f_Reel_tear) = true)
    (a_Reel_called : PySem.W.findIn K (.ref C_Reel) "called" = some (some (.ref f_Reel_called)))
    (i_Reel_called : PySem.W.isFn K (.ref f_Reel_called) = true)
    (l_Reel_called : K.lookup f_Reel_called = some ⟨oc_Reel_called, od_Reel_called, .func (PySem.W.fnOf "called" "Reel.called" (defArgs s_Reel_called) (defBody s_Reel_called) (defScope s_Reel_called) .none kV_Reel_called dc_Reel_called pm_Reel_called an_Reel_called cd_Reel_called ct_Reel_called), sl_Reel_called⟩)
    (c_Reel_called : PySem.W.codeIn K cd_Reel_called "Reel.called" = true)
    (k_Reel_called : PySem.W.keepIn K (.ref f_Reel_called) = true)
    (a__law_town : PySem.W.nsIn K mainGlobals "_law_town" = some (some (.ref f__law_town)))
    (l__law_town : K.lookup f__law_town = some ⟨oc__law_town, od__law_town, .func (PySem.W.fnOf "_law_town" "_law_town" (defArgs s__law_town) (defBody s__law_town) (defScope s__law_town) .none kV__law_town dc__law_town pm__law_town an__law_town cd__law_town ct__law_town), sl__law_town⟩)
    (c__law_town : PySem.W.codeIn K cd__law_town "_law_town" = true)
    (k__law_town : PySem.W.keepIn K (.ref f__law_town) = true)
    (a__law_draw : PySem.W.nsIn K mainGlobals "_law_draw" = some (some (.ref f__law_draw)))
    (l__law_draw : K.lookup f__law_draw = some ⟨oc__law_draw, od__law_draw, .func (PySem.W.fnOf "_law_draw" "_law_draw" (defArgs s__law_draw) (defBody s__law_draw) (defScope s__law_draw) .none kV__law_draw dc__law_draw pm__law_draw an__law_draw cd__law_draw ct__law_draw), sl__law_draw⟩)
    (c__law_draw : PySem.W.codeIn K cd__law_draw "_law_draw" = true)
    (k__law_draw : PySem.W.keepIn K (.ref f__law_draw) = true)
    (a__law_pick : PySem.W.nsIn K mainGlobals "_law_pick" = some (some (.ref f__law_pick)))
    (l__law_pick : K.lookup f__law_pick = some ⟨oc__law_pick, od__law_pick, .func (PySem.W.fnOf "_law_pick" "_law_pick" (defArgs s__law_pick) (defBody s__law_pick) (defScope s__law_pick) .none kV__law_pick dc__law_pick pm__law_pick an__law_pick cd__law_pick ct__law_pick), sl__law_pick⟩)
    (c__law_pick : PySem.W.codeIn K cd__law_pick "_law_pick" = true)
    (k__law_pick : PySem.W.keepIn K (.ref f__law_pick) = true)
    (a__law_refusal : PySem.W.nsIn K mainGlobals "_law_refusal" = some (some (.ref f__law_refusal)))
    (l__law_refusal : K.lookup f__law_refusal = some ⟨oc__law_refusal, od__law_refusal, .func (PySem.W.fnOf "_law_refusal" "_law_refusal" (defArgs s__law_refusal) (defBody s__law_refusal) (defScope s__law_refusal) .none kV__law_refusal dc__law_refusal pm__law_refusal an__law_refusal cd__law_refusal ct__law_refusal), sl__law_refusal⟩)
    (c__law_refusal : PySem.W.codeIn K cd__law_refusal "_law_refusal" = true)
    (k__law_refusal : PySem.W.keepIn K (.ref f__law_refusal) = true)
    (a__law_made : PySem.W.nsIn K mainGlobals "_law_made" = some (some (.ref f__law_made)))
    (l__law_made : K.lookup f__law_made = some ⟨oc__law_made, od__law_made, .func (PySem.W.fnOf "_law_made" "_law_made" (defArgs s__law_made) (defBody s__law_made) (defScope s__law_made) .none kV__law_made dc__law_made pm__law_made an__law_made cd__law_made ct__law_made), sl__law_made⟩)
    (c__law_made : PySem.W.codeIn K cd__law_made "_law_made" = true)
    (k__law_made : PySem.W.keepIn K (.ref f__law_made) = true)
    (a__law_does : PySem.W.nsIn K mainGlobals "_law_does" = some (some (.ref f__law_does)))
    (l__law_does : K.lookup f__law_does = some ⟨oc__law_does, od__law_does, .func (PySem.W.fnOf "_law_does" "_law_does" (defArgs s__law_does) (defBody s__law_does) (defScope s__law_does) .none kV__law_does dc__law_does pm__law_does an__law_does cd__law_does ct__law_does), sl__law_does⟩)
    (c__law_does : PySem.W.codeIn K cd__law_does "_law_does" = true)
    (k__law_does : PySem.W.keepIn K (.ref f__law_does) = true)
    (a__law_asked : PySem.W.nsIn K mainGlobals "_law_asked" = some (some (.ref f__law_asked)))
    (l__law_asked : K.lookup f__law_asked = some ⟨oc__law_asked, od__law_asked, .func (PySem.W.fnOf "_law_asked" "_law_asked" (defArgs s__law_asked) (defBody s__law_asked) (defScope s__law_asked) .none kV__law_asked dc__law_asked pm__law_asked an__law_asked cd__law_asked ct__law_asked), sl__law_asked⟩)
    (c__law_asked : PySem.W.codeIn K cd__law_asked "_law_asked" = true)
    (k__law_asked : PySem.W.keepIn K (.ref f__law_asked) = true)
    (a_law : PySem.W.nsIn K mainGlobals "law" = some (some (.ref f_law)))
    (l_law : K.lookup f_law = some ⟨oc_law, od_law, .func (PySem.W.fnOf "law" "law" (defArgs s_law) (defBody s_law) (defScope s_law) .none kV_law dc_law pm_law an_law cd_law ct_law), sl_law⟩)
    (c_law : PySem.W.codeIn K cd_law "law" = true)
    (k_law : PySem.W.keepIn K (.ref f_law) = true)
    (g_c_SIGNS : PySem.W.nsIn K mainGlobals "SIGNS" = some (some (.str "ABCDEFGHIJKLMNOPQRSTUVWXYZ0123456789" tk_SIGNS)))
    (g_c_GAP : PySem.W.nsIn K mainGlobals "GAP" = some (some (.int 3 tk_GAP)))
    (g_c_MARK_LONG : PySem.W.nsIn K mainGlobals "MARK_LONG" = some (some (.int 4 tk_MARK_LONG)))
    (g_c_SPARE : PySem.W.nsIn K mainGlobals "SPARE" = some (some (.int 400 tk_SPARE)))
    (g_c_MOST_BLOCK : PySem.W.nsIn K mainGlobals "MOST_BLOCK" = some (some (.int 99 tk_MOST_BLOCK)))
    (g_c_MOST_LONG : PySem.W.nsIn K mainGlobals "MOST_LONG" = some (some (.int 5000 tk_MOST_LONG)))
    (z_isinstance : PySem.W.nsIn K mainGlobals "isinstance" = some none)
    (z_int : PySem.W.nsIn K mainGlobals "int" = some none)
    (z_bool : PySem.W.nsIn K mainGlobals "bool" = some none)
    (z_str : PySem.W.nsIn K mainGlobals "str" = some none)
    (z_len : PySem.W.nsIn K mainGlobals "len" = some none)
    (z_all : PySem.W.nsIn K mainGlobals "all" = some none)
    (z_sum : PySem.W.nsIn K mainGlobals "sum" = some none)
    (z_abs : PySem.W.nsIn K mainGlobals "abs" = some none)
    (z_list : PySem.W.nsIn K mainGlobals "list" = some none)
    (z_ValueError : PySem.W.nsIn K mainGlobals "ValueError" = some none)
    (n_Reel_serial : PySem.W.findIn K (.ref C_Reel) "serial" = some none)
    (n_Reel_length : PySem.W.findIn K (.ref C_Reel) "length" = some none)
    (n_Reel_ringed : PySem.W.findIn K (.ref C_Reel) "ringed" = some none)
    (n_Reel_stuff : PySem.W.findIn K (.ref C_Reel) "stuff" = some none)
    (n_Reel_place : PySem.W.findIn K (.ref C_Reel) "place" = some none)
    (hg_BadName : PySem.W.findIn K (.ref C_BadName) "__getattribute__" = some (some (.builtin "BaseException.__getattribute__")))
    (hk_BadName : PySem.W.findIn K (.ref C_BadName) "__getattr__" = some none)
    (hd_BadName : PySem.W.hasDictIn K C_BadName = true)
    (ha_BadName : PySem.W.findIn K (.ref C_BadName) "__class__" = some (some (.builtin "object.__class__")))
    (hm_BadName : PySem.W.mroIn K C_BadName (.type "object") = some true)
    (hn_X : PySem.W.specialIn K (.builtin "object.__class__") "__get__" = some (some (.builtin "getset_descriptor.__get__")))
    (ht_X : PySem.W.takesIn K (.builtin "object.__class__") = some true)
    (rd_X : PySem.W.hasDictIn K C_ReelError = true)
    (ic_ReelError : PySem.W.isClsIn K C_ReelError = true)
    (ic_BadNumber : PySem.W.isClsIn K C_BadNumber = true)
    (ic_BadName : PySem.W.isClsIn K C_BadName = true)
    (ic_BadReel : PySem.W.isClsIn K C_BadReel = true)
    (ic_NoRing : PySem.W.isClsIn K C_NoRing = true)
    (ic_AtEnd : PySem.W.isClsIn K C_AtEnd = true)
    (ic_AtStart : PySem.W.isClsIn K C_AtStart = true)
    (ic_TooLong : PySem.W.isClsIn K C_TooLong = true)
    (ic_BadForm : PySem.W.isClsIn K C_BadForm = true)
    (ic_BadRecord : PySem.W.isClsIn K C_BadRecord = true)
    (ic_BadBlock : PySem.W.isClsIn K C_BadBlock = true)
    (ic_BadLabel : PySem.W.isClsIn K C_BadLabel = true)
    (ic_NoReel : PySem.W.isClsIn K C_NoReel = true)
    (ic_NoFile : PySem.W.isClsIn K C_NoFile = true)
    (t_NoFile : PySem.W.typeIn K (.ref C_NoFile) = some (.type "type"))
    (ic_Kept : PySem.W.isClsIn K C_Kept = true)
    (t_Kept : PySem.W.typeIn K (.ref C_Kept) = some (.type "type"))
    (sv_BadName : PySem.W.subIn K (.ref C_BadName) (.type "ValueError") = some true)
    (sb_BadName_ReelError : PySem.W.subIn K (.ref C_BadName) (.ref C_ReelError) = some true)
    (sb_BadName_BadNumber : PySem.W.subIn K (.ref C_BadName) (.ref C_BadNumber) = some false)
    (sb_BadName_BadName : PySem.W.subIn K (.ref C_BadName) (.ref C_BadName) = some true)
    (sb_BadName_BadReel : PySem.W.subIn K (.ref C_BadName) (.ref C_BadReel) = some false)
    (sb_BadName_NoRing : PySem.W.subIn K (.ref C_BadName) (.ref C_NoRing) = some false)
    (sb_BadName_AtEnd : PySem.W.subIn K (.ref C_BadName) (.ref C_AtEnd) = some false)
    (sb_BadName_AtStart : PySem.W.subIn K (.ref C_BadName) (.ref C_AtStart) = some false)
    (sb_BadName_TooLong : PySem.W.subIn K (.ref C_BadName) (.ref C_TooLong) = some false)
    (sb_BadName_BadForm : PySem.W.subIn K (.ref C_BadName) (.ref C_BadForm) = some false)
    (sb_BadName_BadRecord : PySem.W.subIn K (.ref C_BadName) (.ref C_BadRecord) = some false)
    (sb_BadName_BadBlock : PySem.W.subIn K (.ref C_BadName) (.ref C_BadBlock) = some false)
    (sb_BadName_BadLabel : PySem.W.subIn K (.ref C_BadName) (.ref C_BadLabel) = some false)
    (sb_BadName_NoReel : PySem.W.subIn K (.ref C_BadName) (.ref C_NoReel) = some false)
    (sb_BadName_NoFile : PySem.W.subIn K (.ref C_BadName) (.ref C_NoFile) = some false)
    (sb_BadName_Kept : PySem.W.subIn K (.ref C_BadName) (.ref C_Kept) = some false)
    (hg_BadNumber : PySem.W.findIn K (.ref C_BadNumber) "__getattribute__" = some (some (.builtin "BaseException.__getattribute__")))
    (hk_BadNumber : PySem.W.findIn K (.ref C_BadNumber) "__getattr__" = some none)
    (hd_BadNumber : PySem.W.hasDictIn K C_BadNumber = true)
    (ha_BadNumber : PySem.W.findIn K (.ref C_BadNumber) "__class__" = some (some (.builtin "object.__class__")))
    (hm_BadNumber : PySem.W.mroIn K C_BadNumber (.type "object") = some true)
    (sv_BadNumber : PySem.W.subIn K (.ref C_BadNumber) (.type "ValueError") = some true)
    (sb_BadNumber_ReelError : PySem.W.subIn K (.ref C_BadNumber) (.ref C_ReelError) = some true)
    (sb_BadNumber_BadNumber : PySem.W.subIn K (.ref C_BadNumber) (.ref C_BadNumber) = some true)
    (sb_BadNumber_BadName : PySem.W.subIn K (.ref C_BadNumber) (.ref C_BadName) = some false)
    (sb_BadNumber_BadReel : PySem.W.subIn K (.ref C_BadNumber) (.ref C_BadReel) = some false)
    (sb_BadNumber_NoRing : PySem.W.subIn K (.ref C_BadNumber) (.ref C_NoRing) = some false)
    (sb_BadNumber_AtEnd : PySem.W.subIn K (.ref C_BadNumber) (.ref C_AtEnd) = some false)
    (sb_BadNumber_AtStart : PySem.W.subIn K (.ref C_BadNumber) (.ref C_AtStart) = some false)
    (sb_BadNumber_TooLong : PySem.W.subIn K (.ref C_BadNumber) (.ref C_TooLong) = some false)
    (sb_BadNumber_BadForm : PySem.W.subIn K (.ref C_BadNumber) (.ref C_BadForm) = some false)
    (sb_BadNumber_BadRecord : PySem.W.subIn K (.ref C_BadNumber) (.ref C_BadRecord) = some false)
    (sb_BadNumber_BadBlock : PySem.W.subIn K (.ref C_BadNumber) (.ref C_BadBlock) = some false)
    (sb_BadNumber_BadLabel : PySem.W.subIn K (.ref C_BadNumber) (.ref C_BadLabel) = some false)
    (sb_BadNumber_NoReel : PySem.W.subIn K (.ref C_BadNumber) (.ref C_NoReel) = some false)
    (sb_BadNumber_NoFile : PySem.W.subIn K (.ref C_BadNumber) (.ref C_NoFile) = some false)
    (sb_BadNumber_Kept : PySem.W.subIn K (.ref C_BadNumber) (.ref C_Kept) = some false)
    (hg_NoRing : PySem.W.findIn K (.ref C_NoRing) "__getattribute__" = some (some (.builtin "BaseException.__getattribute__")))
    (hk_NoRing : PySem.W.findIn K (.ref C_NoRing) "__getattr__" = some none)
    (hd_NoRing : PySem.W.hasDictIn K C_NoRing = true)
    (ha_NoRing : PySem.W.findIn K (.ref C_NoRing) "__class__" = some (some (.builtin "object.__class__")))
    (hm_NoRing : PySem.W.mroIn K C_NoRing (.type "object") = some true)
    (sv_NoRing : PySem.W.subIn K (.ref C_NoRing) (.type "ValueError") = some true)
    (sb_NoRing_ReelError : PySem.W.subIn K (.ref C_NoRing) (.ref C_ReelError) = some true)
    (sb_NoRing_BadNumber : PySem.W.subIn K (.ref C_NoRing) (.ref C_BadNumber) = some false)
    (sb_NoRing_BadName : PySem.W.subIn K (.ref C_NoRing) (.ref C_BadName) = some false)
    (sb_NoRing_BadReel : PySem.W.subIn K (.ref C_NoRing) (.ref C_BadReel) = some false)
    (sb_NoRing_NoRing : PySem.W.subIn K (.ref C_NoRing) (.ref C_NoRing) = some true)
    (sb_NoRing_AtEnd : PySem.W.subIn K (.ref C_NoRing) (.ref C_AtEnd) = some false)
    (sb_NoRing_AtStart : PySem.W.subIn K (.ref C_NoRing) (.ref C_AtStart) = some false)
    (sb_NoRing_TooLong : PySem.W.subIn K (.ref C_NoRing) (.ref C_TooLong) = some false)
    (sb_NoRing_BadForm : PySem.W.subIn K (.ref C_NoRing) (.ref C_BadForm) = some false)
    (sb_NoRing_BadRecord : PySem.W.subIn K (.ref C_NoRing) (.ref C_BadRecord) = some false)
    (sb_NoRing_BadBlock : PySem.W.subIn K (.ref C_NoRing) (.ref C_BadBlock) = some false)
    (sb_NoRing_BadLabel : PySem.W.subIn K (.ref C_NoRing) (.ref C_BadLabel) = some false)
    (sb_NoRing_NoReel : PySem.W.subIn K (.ref C_NoRing) (.ref C_NoReel) = some false)
    (sb_NoRing_NoFile : PySem.W.subIn K (.ref C_NoRing) (.ref C_NoFile) = some false)
    (sb_NoRing_Kept : PySem.W.subIn K (.ref C_NoRing) (.ref C_Kept) = some false)
    (hg_AtEnd : PySem.W.findIn K (.ref C_AtEnd) "__getattribute__" = some (some (.builtin "BaseException.__getattribute__")))
    (hk_AtEnd : PySem.W.findIn K (.ref C_AtEnd) "__getattr__" = some none)
    (hd_AtEnd : PySem.W.hasDictIn K C_AtEnd = true)
    (ha_AtEnd : PySem.W.findIn K (.ref C_AtEnd) "__class__" = some (some (.builtin "object.__class__")))
    (hm_AtEnd : PySem.W.mroIn K C_AtEnd (.type "object") = some true)
    (sv_AtEnd : PySem.W.subIn K (.ref C_AtEnd) (.type "ValueError") = some true)
    (sb_AtEnd_ReelError : PySem.W.subIn K (.ref C_AtEnd) (.ref C_ReelError) = some true)
    (sb_AtEnd_BadNumber : PySem.W.subIn K (.ref C_AtEnd) (.ref C_BadNumber) = some false)
    (sb_AtEnd_BadName : PySem.W.subIn K (.ref C_AtEnd) (.ref C_BadName) = some false)
    (sb_AtEnd_BadReel : PySem.W.subIn K (.ref C_AtEnd) (.ref C_BadReel) = some false)
    (sb_AtEnd_NoRing : PySem.W.subIn K (.ref C_AtEnd) (.ref C_NoRing) = some false)
    (sb_AtEnd_AtEnd : PySem.W.subIn K (.ref C_AtEnd) (.ref C_AtEnd) = some true)
    (sb_AtEnd_AtStart : PySem.W.subIn K (.ref C_AtEnd) (.ref C_AtStart) = some false)
    (sb_AtEnd_TooLong : PySem.W.subIn K (.ref C_AtEnd) (.ref C_TooLong) = some false)
    (sb_AtEnd_BadForm : PySem.W.subIn K (.ref C_AtEnd) (.ref C_BadForm) = some false)
    (sb_AtEnd_BadRecord : PySem.W.subIn K (.ref C_AtEnd) (.ref C_BadRecord) = some false)
    (sb_AtEnd_BadBlock : PySem.W.subIn K (.ref C_AtEnd) (.ref C_BadBlock) = some false)
    (sb_AtEnd_BadLabel : PySem.W.subIn K (.ref C_AtEnd) (.ref C_BadLabel) = some false)
    (sb_AtEnd_NoReel : PySem.W.subIn K (.ref C_AtEnd) (.ref C_NoReel) = some false)
    (sb_AtEnd_NoFile : PySem.W.subIn K (.ref C_AtEnd) (.ref C_NoFile) = some false)
    (sb_AtEnd_Kept : PySem.W.subIn K (.ref C_AtEnd) (.ref C_Kept) = some false)
    (hg_AtStart : PySem.W.findIn K (.ref C_AtStart) "__getattribute__" = some (some (.builtin "BaseException.__getattribute__")))
    (hk_AtStart : PySem.W.findIn K (.ref C_AtStart) "__getattr__" = some none)
    (hd_AtStart : PySem.W.hasDictIn K C_AtStart = true)
    (ha_AtStart : PySem.W.findIn K (.ref C_AtStart) "__class__" = some (some (.builtin "object.__class__")))
    (hm_AtStart : PySem.W.mroIn K C_AtStart (.type "object") = some true)
    (sv_AtStart : PySem.W.subIn K (.ref C_AtStart) (.type "ValueError") = some true)
    (sb_AtStart_ReelError : PySem.W.subIn K (.ref C_AtStart) (.ref C_ReelError) = some true)
    (sb_AtStart_BadNumber : PySem.W.subIn K (.ref C_AtStart) (.ref C_BadNumber) = some false)
    (sb_AtStart_BadName : PySem.W.subIn K (.ref C_AtStart) (.ref C_BadName) = some false)
    (sb_AtStart_BadReel : PySem.W.subIn K (.ref C_AtStart) (.ref C_BadReel) = some false)
    (sb_AtStart_NoRing : PySem.W.subIn K (.ref C_AtStart) (.ref C_NoRing) = some false)
    (sb_AtStart_AtEnd : PySem.W.subIn K (.ref C_AtStart) (.ref C_AtEnd) = some false)
    (sb_AtStart_AtStart : PySem.W.subIn K (.ref C_AtStart) (.ref C_AtStart) = some true)
    (sb_AtStart_TooLong : PySem.W.subIn K (.ref C_AtStart) (.ref C_TooLong) = some false)
    (sb_AtStart_BadForm : PySem.W.subIn K (.ref C_AtStart) (.ref C_BadForm) = some false)
    (sb_AtStart_BadRecord : PySem.W.subIn K (.ref C_AtStart) (.ref C_BadRecord) = some false)
    (sb_AtStart_BadBlock : PySem.W.subIn K (.ref C_AtStart) (.ref C_BadBlock) = some false)
    (sb_AtStart_BadLabel : PySem.W.subIn K (.ref C_AtStart) (.ref C_BadLabel) = some false)
    (sb_AtStart_NoReel : PySem.W.subIn K (.ref C_AtStart) (.ref C_NoReel) = some false)
    (sb_AtStart_NoFile : PySem.W.subIn K (.ref C_AtStart) (.ref C_NoFile) = some false)
    (sb_AtStart_Kept : PySem.W.subIn K (.ref C_AtStart) (.ref C_Kept) = some false)
    (hg_TooLong : PySem.W.findIn K (.ref C_TooLong) "__getattribute__" = some (some (.builtin "BaseException.__getattribute__")))
    (hk_TooLong : PySem.W.findIn K (.ref C_TooLong) "__getattr__" = some none)
    (hd_TooLong : PySem.W.hasDictIn K C_TooLong = true)
    (ha_TooLong : PySem.W.findIn K (.ref C_TooLong) "__class__" = some (some (.builtin "object.__class__")))
    (hm_TooLong : PySem.W.mroIn K C_TooLong (.type "object") = some true)
    (sv_TooLong : PySem.W.subIn K (.ref C_TooLong) (.type "ValueError") = some true)
    (sb_TooLong_ReelError : PySem.W.subIn K (.ref C_TooLong) (.ref C_ReelError) = some true)
    (sb_TooLong_BadNumber : PySem.W.subIn K (.ref C_TooLong) (.ref C_BadNumber) = some false)
    (sb_TooLong_BadName : PySem.W.subIn K (.ref C_TooLong) (.ref C_BadName) = some false)
    (sb_TooLong_BadReel : PySem.W.subIn K (.ref C_TooLong) (.ref C_BadReel) = some false)
    (sb_TooLong_NoRing : PySem.W.subIn K (.ref C_TooLong) (.ref C_NoRing) = some false)
    (sb_TooLong_AtEnd : PySem.W.subIn K (.ref C_TooLong) (.ref C_AtEnd) = some false)
    (sb_TooLong_AtStart : PySem.W.subIn K (.ref C_TooLong) (.ref C_AtStart) = some false)
    (sb_TooLong_TooLong : PySem.W.subIn K (.ref C_TooLong) (.ref C_TooLong) = some true)
    (sb_TooLong_BadForm : PySem.W.subIn K (.ref C_TooLong) (.ref C_BadForm) = some false)
    (sb_TooLong_BadRecord : PySem.W.subIn K (.ref C_TooLong) (.ref C_BadRecord) = some false)
    (sb_TooLong_BadBlock : PySem.W.subIn K (.ref C_TooLong) (.ref C_BadBlock) = some false)
    (sb_TooLong_BadLabel : PySem.W.subIn K (.ref C_TooLong) (.ref C_BadLabel) = some false)
    (sb_TooLong_NoReel : PySem.W.subIn K (.ref C_TooLong) (.ref C_NoReel) = some false)
    (sb_TooLong_NoFile : PySem.W.subIn K (.ref C_TooLong) (.ref C_NoFile) = some false)
    (sb_TooLong_Kept : PySem.W.subIn K (.ref C_TooLong) (.ref C_Kept) = some false)
    : ∃ T : Txt K mg, T.law.a = f_law ∧ T.law.d = PySem.W.fnOf "law" "law" (defArgs s_law) (defBody s_law) (defScope s_law) .none kV_law dc_law pm_law an_law cd_law ct_law := by
  have F__wall := fun_mk (st := s__wall) l__wall c__wall k__wall
  have F_is_whole := fun_mk (st := s_is_whole) l_is_whole c_is_whole k_is_whole
  have F_look_number := fun_mk (st := s_look_number) l_look_number c_look_number k_look_number
  have F_is_name := fun_mk (st := s_is_name) l_is_name c_is_name k_is_name
  have F_look_name := fun_mk (st := s_look_name) l_look_name c_look_name k_look_name
  have F_cost := fun_mk (st := s_cost) l_cost c_cost k_cost
  have F_is_block := fun_mk (st := s_is_block) l_is_block c_is_block k_is_block
  have F_Reel___init__ := fun_mk (st := s_Reel___init__) l_Reel___init__ c_Reel___init__ k_Reel___init__
  have F_Reel_ring := fun_mk (st := s_Reel_ring) l_Reel_ring c_Reel_ring k_Reel_ring
  have F_Reel_used := fun_mk (st := s_Reel_used) l_Reel_used c_Reel_used k_Reel_used
  have F_Reel_is_near_end := fun_mk (st := s_Reel_is_near_end) l_Reel_is_near_end c_Reel_is_near_end k_Reel_is_near_end
  have F_Reel_put := fun_mk (st := s_Reel_put) l_Reel_put c_Reel_put k_Reel_put
  have F_Reel_write := fun_mk (st := s_Reel_write) l_Reel_write c_Reel_write k_Reel_write
  have F_Reel_write_mark := fun_mk (st := s_Reel_write_mark) l_Reel_write_mark c_Reel_write_mark k_Reel_write_mark
  have F_Reel_read := fun_mk (st := s_Reel_read) l_Reel_read c_Reel_read k_Reel_read
  have F_Reel_read_back := fun_mk (st := s_Reel_read_back) l_Reel_read_back c_Reel_read_back k_Reel_read_back
  have F_Reel_rewind := fun_mk (st := s_Reel_rewind) l_Reel_rewind c_Reel_rewind k_Reel_rewind
  have F_Reel_skip := fun_mk (st := s_Reel_skip) l_Reel_skip c_Reel_skip k_Reel_skip
  have F_Reel_skip_marks := fun_mk (st := s_Reel_skip_marks) l_Reel_skip_marks c_Reel_skip_marks k_Reel_skip_marks
  have F_Reel_at := fun_mk (st := s_Reel_at) l_Reel_at c_Reel_at k_Reel_at
  have F_Reel_content := fun_mk (st := s_Reel_content) l_Reel_content c_Reel_content k_Reel_content
  have F_Reel_tear := fun_mk (st := s_Reel_tear) l_Reel_tear c_Reel_tear k_Reel_tear
  have F_Reel_called := fun_mk (st := s_Reel_called) l_Reel_called c_Reel_called k_Reel_called
  have F__law_town := fun_mk (st := s__law_town) l__law_town c__law_town k__law_town
  have F__law_draw := fun_mk (st := s__law_draw) l__law_draw c__law_draw k__law_draw
  have F__law_pick := fun_mk (st := s__law_pick) l__law_pick c__law_pick k__law_pick
  have F__law_refusal := fun_mk (st := s__law_refusal) l__law_refusal c__law_refusal k__law_refusal
  have F__law_made := fun_mk (st := s__law_made) l__law_made c__law_made k__law_made
  have F__law_does := fun_mk (st := s__law_does) l__law_does c__law_does k__law_does
  have F__law_asked := fun_mk (st := s__law_asked) l__law_asked c__law_asked k__law_asked
  have F_law := fun_mk (st := s_law) l_law c_law k_law
  exact ⟨{ BadBlock := ⟨C_BadBlock, PySem.W.mg_of X G g_BadBlock, x_BadBlock, k_BadBlock, b_BadBlock, t_BadBlock⟩, BadLabel := ⟨C_BadLabel, PySem.W.mg_of X G g_BadLabel, x_BadLabel, k_BadLabel, b_BadLabel, t_BadLabel⟩, BadReel := ⟨C_BadReel, PySem.W.mg_of X G g_BadReel, x_BadReel, k_BadReel, b_BadReel, t_BadReel⟩, AtEnd := ⟨C_AtEnd, PySem.W.mg_of X G g_AtEnd, x_AtEnd, k_AtEnd, b_AtEnd, t_AtEnd⟩, NoReel := ⟨C_NoReel, PySem.W.mg_of X G g_NoReel, x_NoReel, k_NoReel, b_NoReel, t_NoReel⟩, TooLong := ⟨C_TooLong, PySem.W.mg_of X G g_TooLong, x_TooLong, k_TooLong, b_TooLong, t_TooLong⟩, NoFile := ⟨C_NoFile, PySem.W.mg_of X G g_NoFile⟩, NoRing := ⟨C_NoRing, PySem.W.mg_of X G g_NoRing, x_NoRing, k_NoRing, b_NoRing, t_NoRing⟩, BadNumber := ⟨C_BadNumber, PySem.W.mg_of X G g_BadNumber, x_BadNumber, k_BadNumber, b_BadNumber, t_BadNumber⟩, BadName := ⟨C_BadName, PySem.W.mg_of X G g_BadName, x_BadName, k_BadName, b_BadName, t_BadName⟩, BadRecord := ⟨C_BadRecord, PySem.W.mg_of X G g_BadRecord, x_BadRecord, k_BadRecord, b_BadRecord, t_BadRecord⟩, Kept := ⟨C_Kept, PySem.W.mg_of X G g_Kept⟩, AtStart := ⟨C_AtStart, PySem.W.mg_of X G g_AtStart, x_AtStart, k_AtStart, b_AtStart, t_AtStart⟩, ReelError := ⟨C_ReelError, PySem.W.mg_of X G g_ReelError, x_ReelError, k_ReelError, b_ReelError, t_ReelError⟩, BadForm := ⟨C_BadForm, PySem.W.mg_of X G g_BadForm, x_BadForm, k_BadForm, b_BadForm, t_BadForm⟩, Reel := ⟨C_Reel, PySem.W.mg_of X G g_Reel, ⟨pg_Reel, hd_Reel, po_Reel, sa_Reel⟩, mk_Reel, kc_Reel⟩, _wall := ⟨f__wall, _, F__wall, PySem.W.mg_of X G a__wall, F__wall.binds (ps := ["k"]) fun _ _ _ _ _ _ us hl => match us, hl with | [_], _ => rfl⟩, is_whole := ⟨f_is_whole, _, F_is_whole, PySem.W.mg_of X G a_is_whole, F_is_whole.binds (ps := ["thing", "low", "high"]) fun _ _ _ _ _ _ us hl => match us, hl with | [_, _, _], _ => rfl⟩, look_number := ⟨f_look_number, _, F_look_number, PySem.W.mg_of X G a_look_number, F_look_number.binds (ps := ["thing", "low", "high"]) fun _ _ _ _ _ _ us hl => match us, hl with | [_, _, _], _ => rfl⟩, is_name := ⟨f_is_name, _, F_is_name, PySem.W.mg_of X G a_is_name, F_is_name.binds (ps := ["thing", "most"]) fun _ _ _ _ _ _ us hl => match us, hl with | [_, _], _ => rfl⟩, look_name := ⟨f_look_name, _, F_look_name, PySem.W.mg_of X G a_look_name, F_look_name.binds (ps := ["thing", "most"]) fun _ _ _ _ _ _ us hl => match us, hl with | [_, _], _ => rfl⟩, cost := ⟨f_cost, _, F_cost, PySem.W.mg_of X G a_cost, F_cost.binds (ps := ["item"]) fun _ _ _ _ _ _ us hl => match us, hl with | [_], _ => rfl⟩, is_block := ⟨f_is_block, _, F_is_block, PySem.W.mg_of X G a_is_block, F_is_block.binds (ps := ["thing"]) fun _ _ _ _ _ _ us hl => match us, hl with | [_], _ => rfl⟩, Reel___init__ := ⟨f_Reel___init__, _, F_Reel___init__, ⟨a_Reel___init__, i_Reel___init__, k_Reel___init__⟩⟩, Reel_ring := ⟨f_Reel_ring, _, F_Reel_ring, ⟨a_Reel_ring, i_Reel_ring, k_Reel_ring⟩, F_Reel_ring.binds (ps := ["self", "on"]) fun _ _ _ _ _ _ us hl => match us, hl with | [_, _], _ => rfl⟩, Reel_used := ⟨f_Reel_used, _, F_Reel_used, ⟨a_Reel_used, i_Reel_used, k_Reel_used⟩, F_Reel_used.binds (ps := ["self"]) fun _ _ _ _ _ _ us hl => match us, hl with | [_], _ => rfl⟩, Reel_is_near_end := ⟨f_Reel_is_near_end, _, F_Reel_is_near_end, ⟨a_Reel_is_near_end, i_Reel_is_near_end, k_Reel_is_near_end⟩, F_Reel_is_near_end.binds (ps := ["self"]) fun _ _ _ _ _ _ us hl => match us, hl with | [_], _ => rfl⟩, Reel_put := ⟨f_Reel_put, _, F_Reel_put, ⟨a_Reel_put, i_Reel_put, k_Reel_put⟩, F_Reel_put.binds (ps := ["self", "item"]) fun _ _ _ _ _ _ us hl => match us, hl with | [_, _], _ => rfl⟩, Reel_write := ⟨f_Reel_write, _, F_Reel_write, ⟨a_Reel_write, i_Reel_write, k_Reel_write⟩, F_Reel_write.binds (ps := ["self", "block"]) fun _ _ _ _ _ _ us hl => match us, hl with | [_, _], _ => rfl⟩, Reel_write_mark := ⟨f_Reel_write_mark, _, F_Reel_write_mark, ⟨a_Reel_write_mark, i_Reel_write_mark, k_Reel_write_mark⟩, F_Reel_write_mark.binds (ps := ["self"]) fun _ _ _ _ _ _ us hl => match us, hl with | [_], _ => rfl⟩, Reel_read := ⟨f_Reel_read, _, F_Reel_read, ⟨a_Reel_read, i_Reel_read, k_Reel_read⟩, F_Reel_read.binds (ps := ["self"]) fun _ _ _ _ _ _ us hl => match us, hl with | [_], _ => rfl⟩, Reel_read_back := ⟨f_Reel_read_back, _, F_Reel_read_back, ⟨a_Reel_read_back, i_Reel_read_back, k_Reel_read_back⟩, F_Reel_read_back.binds (ps := ["self"]) fun _ _ _ _ _ _ us hl => match us, hl with | [_], _ => rfl⟩, Reel_rewind := ⟨f_Reel_rewind, _, F_Reel_rewind, ⟨a_Reel_rewind, i_Reel_rewind, k_Reel_rewind⟩, F_Reel_rewind.binds (ps := ["self"]) fun _ _ _ _ _ _ us hl => match us, hl with | [_], _ => rfl⟩, Reel_skip := ⟨f_Reel_skip, _, F_Reel_skip, ⟨a_Reel_skip, i_Reel_skip, k_Reel_skip⟩, F_Reel_skip.binds (ps := ["self", "many"]) fun _ _ _ _ _ _ us hl => match us, hl with | [_, _], _ => rfl⟩, Reel_skip_marks := ⟨f_Reel_skip_marks, _, F_Reel_skip_marks, ⟨a_Reel_skip_marks, i_Reel_skip_marks, k_Reel_skip_marks⟩, F_Reel_skip_marks.binds (ps := ["self", "many"]) fun _ _ _ _ _ _ us hl => match us, hl with | [_, _], _ => rfl⟩, Reel_at := ⟨f_Reel_at, _, F_Reel_at, ⟨a_Reel_at, i_Reel_at, k_Reel_at⟩, F_Reel_at.binds (ps := ["self"]) fun _ _ _ _ _ _ us hl => match us, hl with | [_], _ => rfl⟩, Reel_content := ⟨f_Reel_content, _, F_Reel_content, ⟨a_Reel_content, i_Reel_content, k_Reel_content⟩, F_Reel_content.binds (ps := ["self"]) fun _ _ _ _ _ _ us hl => match us, hl with | [_], _ => rfl⟩, Reel_tear := ⟨f_Reel_tear, _, F_Reel_tear, ⟨a_Reel_tear, i_Reel_tear, k_Reel_tear⟩, F_Reel_tear.binds (ps := ["self", "at"]) fun _ _ _ _ _ _ us hl => match us, hl with | [_, _], _ => rfl⟩, Reel_called := ⟨f_Reel_called, _, F_Reel_called, ⟨a_Reel_called, i_Reel_called, k_Reel_called⟩, F_Reel_called.binds (ps := ["self"]) fun _ _ _ _ _ _ us hl => match us, hl with | [_], _ => rfl⟩, _law_town := ⟨f__law_town, _, F__law_town, PySem.W.mg_of X G a__law_town, F__law_town.binds (ps := ["_law_script"]) fun _ _ _ _ _ _ us hl => match us, hl with | [_], _ => rfl⟩, _law_draw := ⟨f__law_draw, _, F__law_draw, PySem.W.mg_of X G a__law_draw, F__law_draw.binds (ps := ["_law_town_here", "_law_many"]) fun _ _ _ _ _ _ us hl => match us, hl with | [_, _], _ => rfl⟩, _law_pick := ⟨f__law_pick, _, F__law_pick, PySem.W.mg_of X G a__law_pick, F__law_pick.binds (ps := ["_law_town_here", "_law_some"]) fun _ _ _ _ _ _ us hl => match us, hl with | [_, _], _ => rfl⟩, _law_refusal := ⟨f__law_refusal, _, F__law_refusal, PySem.W.mg_of X G a__law_refusal, F__law_refusal.binds (ps := ["_law_caught"]) fun _ _ _ _ _ _ us hl => match us, hl with | [_], _ => rfl⟩, _law_made := ⟨f__law_made, _, F__law_made, PySem.W.mg_of X G a__law_made, F__law_made.binds (ps := ["_law_serial", "_law_long"]) fun _ _ _ _ _ _ us hl => match us, hl with | [_, _], _ => rfl⟩, _law_does := ⟨f__law_does, _, F__law_does, PySem.W.mg_of X G a__law_does, F__law_does.binds (ps := ["_law_reel", "_law_kind", "_law_thing"]) fun _ _ _ _ _ _ us hl => match us, hl with | [_, _, _], _ => rfl⟩, _law_asked := ⟨f__law_asked, _, F__law_asked, PySem.W.mg_of X G a__law_asked, F__law_asked.binds (ps := ["_law_reel", "_law_kind", "_law_thing"]) fun _ _ _ _ _ _ us hl => match us, hl with | [_, _, _], _ => rfl⟩, law := ⟨f_law, _, F_law, PySem.W.mg_of X G a_law, F_law.binds (ps := ["_law_script"]) fun _ _ _ _ _ _ us hl => match us, hl with | [_], _ => rfl⟩, SIGNS := ⟨tk_SIGNS, by rw [← lit_65_66_67_68_69_70_71_72_73_74_75_76_77_78_79_80_81_82_83_84_85_86_87_88_89_90_48_49_50_51_52_53_54_55_56_57]; exact PySem.W.mg_of X G g_c_SIGNS⟩, GAP := ⟨tk_GAP, PySem.W.mg_of X G g_c_GAP⟩, MARK_LONG := ⟨tk_MARK_LONG, PySem.W.mg_of X G g_c_MARK_LONG⟩, SPARE := ⟨tk_SPARE, PySem.W.mg_of X G g_c_SPARE⟩, MOST_BLOCK := ⟨tk_MOST_BLOCK, PySem.W.mg_of X G g_c_MOST_BLOCK⟩, MOST_LONG := ⟨tk_MOST_LONG, PySem.W.mg_of X G g_c_MOST_LONG⟩, z_isinstance := PySem.W.mg_none_of X G z_isinstance, z_int := PySem.W.mg_none_of X G z_int, z_bool := PySem.W.mg_none_of X G z_bool, z_str := PySem.W.mg_none_of X G z_str, z_len := PySem.W.mg_none_of X G z_len, z_all := PySem.W.mg_none_of X G z_all, z_sum := PySem.W.mg_none_of X G z_sum, z_abs := PySem.W.mg_none_of X G z_abs, z_list := PySem.W.mg_none_of X G z_list, z_ValueError := PySem.W.mg_none_of X G z_ValueError, n_Reel_serial := n_Reel_serial, n_Reel_length := n_Reel_length, n_Reel_ringed := n_Reel_ringed, n_Reel_stuff := n_Reel_stuff, n_Reel_place := n_Reel_place, kb_Reel___init___length := ⟨fun s us ws _ h1 h2 => match us, ws, h1, h2 with | [_, _], [_], _, _ => .of_eq rfl, fun r1 r2 => r1.append r2⟩, xc_BadName := ⟨hg_BadName, hk_BadName, b_BadName, hd_BadName, ha_BadName, hn_X, ht_X, hm_BadName⟩, em_BadName := PySem.W.exm_ref b_ReelError rd_X t_ReelError sb_BadName_ReelError, iv_BadName := kit_val sv_BadName, is_BadName_ReelError := kit_ref sb_BadName_BadName sb_BadName_ReelError ic_ReelError t_ReelError, is_BadName_BadNumber := kit_ref sb_BadName_BadName sb_BadName_BadNumber ic_BadNumber t_BadNumber, is_BadName_BadName := kit_ref sb_BadName_BadName sb_BadName_BadName ic_BadName t_BadName, is_BadName_BadReel := kit_ref sb_BadName_BadName sb_BadName_BadReel ic_BadReel t_BadReel, is_BadName_NoRing := kit_ref sb_BadName_BadName sb_BadName_NoRing ic_NoRing t_NoRing, is_BadName_AtEnd := kit_ref sb_BadName_BadName sb_BadName_AtEnd ic_AtEnd t_AtEnd, is_BadName_AtStart := kit_ref sb_BadName_BadName sb_BadName_AtStart ic_AtStart t_AtStart, is_BadName_TooLong := kit_ref sb_BadName_BadName sb_BadName_TooLong ic_TooLong t_TooLong, is_BadName_BadForm := kit_ref sb_BadName_BadName sb_BadName_BadForm ic_BadForm t_BadForm, is_BadName_BadRecord := kit_ref sb_BadName_BadName sb_BadName_BadRecord ic_BadRecord t_BadRecord, is_BadName_BadBlock := kit_ref sb_BadName_BadName sb_BadName_BadBlock ic_BadBlock t_BadBlock, is_BadName_BadLabel := kit_ref sb_BadName_BadName sb_BadName_BadLabel ic_BadLabel t_BadLabel, is_BadName_NoReel := kit_ref sb_BadName_BadName sb_BadName_NoReel ic_NoReel t_NoReel, is_BadName_NoFile := kit_ref sb_BadName_BadName sb_BadName_NoFile ic_NoFile t_NoFile, is_BadName_Kept := kit_ref sb_BadName_BadName sb_BadName_Kept ic_Kept t_Kept, xc_BadNumber := ⟨hg_BadNumber, hk_BadNumber, b_BadNumber, hd_BadNumber, ha_BadNumber, hn_X, ht_X, hm_BadNumber⟩, em_BadNumber := PySem.W.exm_ref b_ReelError rd_X t_ReelError sb_BadNumber_ReelError, iv_BadNumber := kit_val sv_BadNumber, is_BadNumber_ReelError := kit_ref sb_BadNumber_BadNumber sb_BadNumber_ReelError ic_ReelError t_ReelError, is_BadNumber_BadNumber := kit_ref sb_BadNumber_BadNumber sb_BadNumber_BadNumber ic_BadNumber t_BadNumber, is_BadNumber_BadName := kit_ref sb_BadNumber_BadNumber sb_BadNumber_BadName ic_BadName t_BadName, is_BadNumber_BadReel := kit_ref sb_BadNumber_BadNumber sb_BadNumber_BadReel ic_BadReel t_BadReel, is_BadNumber_NoRing := kit_ref sb_BadNumber_BadNumber sb_BadNumber_NoRing ic_NoRing t_NoRing, is_BadNumber_AtEnd := kit_ref sb_BadNumber_BadNumber sb_BadNumber_AtEnd ic_AtEnd t_AtEnd, is_BadNumber_AtStart := kit_ref sb_BadNumber_BadNumber sb_BadNumber_AtStart ic_AtStart t_AtStart, is_BadNumber_TooLong := kit_ref sb_BadNumber_BadNumber sb_BadNumber_TooLong ic_TooLong t_TooLong, is_BadNumber_BadForm := kit_ref sb_BadNumber_BadNumber sb_BadNumber_BadForm ic_BadForm t_BadForm, is_BadNumber_BadRecord := kit_ref sb_BadNumber_BadNumber sb_BadNumber_BadRecord ic_BadRecord t_BadRecord, is_BadNumber_BadBlock := kit_ref sb_BadNumber_BadNumber sb_BadNumber_BadBlock ic_BadBlock t_BadBlock, is_BadNumber_BadLabel := kit_ref sb_BadNumber_BadNumber sb_BadNumber_BadLabel ic_BadLabel t_BadLabel, is_BadNumber_NoReel := kit_ref sb_BadNumber_BadNumber sb_BadNumber_NoReel ic_NoReel t_NoReel, is_BadNumber_NoFile := kit_ref sb_BadNumber_BadNumber sb_BadNumber_NoFile ic_NoFile t_NoFile, is_BadNumber_Kept := kit_ref sb_BadNumber_BadNumber sb_BadNumber_Kept ic_Kept t_Kept, xc_NoRing := ⟨hg_NoRing, hk_NoRing, b_NoRing, hd_NoRing, ha_NoRing, hn_X, ht_X, hm_NoRing⟩, em_NoRing := PySem.W.exm_ref b_ReelError rd_X t_ReelError sb_NoRing_ReelError, iv_NoRing := kit_val sv_NoRing, is_NoRing_ReelError := kit_ref sb_NoRing_NoRing sb_NoRing_ReelError ic_ReelError t_ReelError, is_NoRing_BadNumber := kit_ref sb_NoRing_NoRing sb_NoRing_BadNumber ic_BadNumber t_BadNumber, is_NoRing_BadName := kit_ref sb_NoRing_NoRing sb_NoRing_BadName ic_BadName t_BadName, is_NoRing_BadReel := kit_ref sb_NoRing_NoRing sb_NoRing_BadReel ic_BadReel t_BadReel, is_NoRing_NoRing := kit_ref sb_NoRing_NoRing sb_NoRing_NoRing ic_NoRing t_NoRing, is_NoRing_AtEnd := kit_ref sb_NoRing_NoRing sb_NoRing_AtEnd ic_AtEnd t_AtEnd, is_NoRing_AtStart := kit_ref sb_NoRing_NoRing sb_NoRing_AtStart ic_AtStart t_AtStart, is_NoRing_TooLong := kit_ref sb_NoRing_NoRing sb_NoRing_TooLong ic_TooLong t_TooLong, is_NoRing_BadForm := kit_ref sb_NoRing_NoRing sb_NoRing_BadForm ic_BadForm t_BadForm, is_NoRing_BadRecord := kit_ref sb_NoRing_NoRing sb_NoRing_BadRecord ic_BadRecord t_BadRecord, is_NoRing_BadBlock := kit_ref sb_NoRing_NoRing sb_NoRing_BadBlock ic_BadBlock t_BadBlock, is_NoRing_BadLabel := kit_ref sb_NoRing_NoRing sb_NoRing_BadLabel ic_BadLabel t_BadLabel, is_NoRing_NoReel := kit_ref sb_NoRing_NoRing sb_NoRing_NoReel ic_NoReel t_NoReel, is_NoRing_NoFile := kit_ref sb_NoRing_NoRing sb_NoRing_NoFile ic_NoFile t_NoFile, is_NoRing_Kept := kit_ref sb_NoRing_NoRing sb_NoRing_Kept ic_Kept t_Kept, xc_AtEnd := ⟨hg_AtEnd, hk_AtEnd, b_AtEnd, hd_AtEnd, ha_AtEnd, hn_X, ht_X, hm_AtEnd⟩, em_AtEnd := PySem.W.exm_ref b_ReelError rd_X t_ReelError sb_AtEnd_ReelError, iv_AtEnd := kit_val sv_AtEnd, is_AtEnd_ReelError := kit_ref sb_AtEnd_AtEnd sb_AtEnd_ReelError ic_ReelError t_ReelError, is_AtEnd_BadNumber := kit_ref sb_AtEnd_AtEnd sb_AtEnd_BadNumber ic_BadNumber t_BadNumber, is_AtEnd_BadName := kit_ref sb_AtEnd_AtEnd sb_AtEnd_BadName ic_BadName t_BadName, is_AtEnd_BadReel := kit_ref sb_AtEnd_AtEnd sb_AtEnd_BadReel ic_BadReel t_BadReel, is_AtEnd_NoRing := kit_ref sb_AtEnd_AtEnd sb_AtEnd_NoRing ic_NoRing t_NoRing, is_AtEnd_AtEnd := kit_ref sb_AtEnd_AtEnd sb_AtEnd_AtEnd ic_AtEnd t_AtEnd, is_AtEnd_AtStart := kit_ref sb_AtEnd_AtEnd sb_AtEnd_AtStart ic_AtStart t_AtStart, is_AtEnd_TooLong := kit_ref sb_AtEnd_AtEnd sb_AtEnd_TooLong ic_TooLong t_TooLong, is_AtEnd_BadForm := kit_ref sb_AtEnd_AtEnd sb_AtEnd_BadForm ic_BadForm t_BadForm, is_AtEnd_BadRecord := kit_ref sb_AtEnd_AtEnd sb_AtEnd_BadRecord ic_BadRecord t_BadRecord, is_AtEnd_BadBlock := kit_ref sb_AtEnd_AtEnd sb_AtEnd_BadBlock ic_BadBlock t_BadBlock, is_AtEnd_BadLabel := kit_ref sb_AtEnd_AtEnd sb_AtEnd_BadLabel ic_BadLabel t_BadLabel, is_AtEnd_NoReel := kit_ref sb_AtEnd_AtEnd sb_AtEnd_NoReel ic_NoReel t_NoReel, is_AtEnd_NoFile := kit_ref sb_AtEnd_AtEnd sb_AtEnd_NoFile ic_NoFile t_NoFile, is_AtEnd_Kept := kit_ref sb_AtEnd_AtEnd sb_AtEnd_Kept ic_Kept t_Kept, xc_AtStart := ⟨hg_AtStart, hk_AtStart, b_AtStart, hd_AtStart, ha_AtStart, hn_X, ht_X, hm_AtStart⟩, em_AtStart := PySem.W.exm_ref b_ReelError rd_X t_ReelError sb_AtStart_ReelError, iv_AtStart := kit_val sv_AtStart, is_AtStart_ReelError := kit_ref sb_AtStart_AtStart sb_AtStart_ReelError ic_ReelError t_ReelError, is_AtStart_BadNumber := kit_ref sb_AtStart_AtStart sb_AtStart_BadNumber ic_BadNumber t_BadNumber, is_AtStart_BadName := kit_ref sb_AtStart_AtStart sb_AtStart_BadName ic_BadName t_BadName, is_AtStart_BadReel := kit_ref sb_AtStart_AtStart sb_AtStart_BadReel ic_BadReel t_BadReel, is_AtStart_NoRing := kit_ref sb_AtStart_AtStart sb_AtStart_NoRing ic_NoRing t_NoRing, is_AtStart_AtEnd := kit_ref sb_AtStart_AtStart sb_AtStart_AtEnd ic_AtEnd t_AtEnd, is_AtStart_AtStart := kit_ref sb_AtStart_AtStart sb_AtStart_AtStart ic_AtStart t_AtStart, is_AtStart_TooLong := kit_ref sb_AtStart_AtStart sb_AtStart_TooLong ic_TooLong t_TooLong, is_AtStart_BadForm := kit_ref sb_AtStart_AtStart sb_AtStart_BadForm ic_BadForm t_BadForm, is_AtStart_BadRecord := kit_ref sb_AtStart_AtStart sb_AtStart_BadRecord ic_BadRecord t_BadRecord, is_AtStart_BadBlock := kit_ref sb_AtStart_AtStart sb_AtStart_BadBlock ic_BadBlock t_BadBlock, is_AtStart_BadLabel := kit_ref sb_AtStart_AtStart sb_AtStart_BadLabel ic_BadLabel t_BadLabel, is_AtStart_NoReel := kit_ref sb_AtStart_AtStart sb_AtStart_NoReel ic_NoReel t_NoReel, is_AtStart_NoFile := kit_ref sb_AtStart_AtStart sb_AtStart_NoFile ic_NoFile t_NoFile, is_AtStart_Kept := kit_ref sb_AtStart_AtStart sb_AtStart_Kept ic_Kept t_Kept, xc_TooLong := ⟨hg_TooLong, hk_TooLong, b_TooLong, hd_TooLong, ha_TooLong, hn_X, ht_X, hm_TooLong⟩, em_TooLong := PySem.W.exm_ref b_ReelError rd_X t_ReelError sb_TooLong_ReelError, iv_TooLong := kit_val sv_TooLong, is_TooLong_ReelError := kit_ref sb_TooLong_TooLong sb_TooLong_ReelError ic_ReelError t_ReelError, is_TooLong_BadNumber := kit_ref sb_TooLong_TooLong sb_TooLong_BadNumber ic_BadNumber t_BadNumber, is_TooLong_BadName := kit_ref sb_TooLong_TooLong sb_TooLong_BadName ic_BadName t_BadName, is_TooLong_BadReel := kit_ref sb_TooLong_TooLong sb_TooLong_BadReel ic_BadReel t_BadReel, is_TooLong_NoRing := kit_ref sb_TooLong_TooLong sb_TooLong_NoRing ic_NoRing t_NoRing, is_TooLong_AtEnd := kit_ref sb_TooLong_TooLong sb_TooLong_AtEnd ic_AtEnd t_AtEnd, is_TooLong_AtStart := kit_ref sb_TooLong_TooLong sb_TooLong_AtStart ic_AtStart t_AtStart, is_TooLong_TooLong := kit_ref sb_TooLong_TooLong sb_TooLong_TooLong ic_TooLong t_TooLong, is_TooLong_BadForm := kit_ref sb_TooLong_TooLong sb_TooLong_BadForm ic_BadForm t_BadForm, is_TooLong_BadRecord := kit_ref sb_TooLong_TooLong sb_TooLong_BadRecord ic_BadRecord t_BadRecord, is_TooLong_BadBlock := kit_ref sb_TooLong_TooLong sb_TooLong_BadBlock ic_BadBlock t_BadBlock, is_TooLong_BadLabel := kit_ref sb_TooLong_TooLong sb_TooLong_BadLabel ic_BadLabel t_BadLabel, is_TooLong_NoReel := kit_ref sb_TooLong_TooLong sb_TooLong_NoReel ic_NoReel t_NoReel, is_TooLong_NoFile := kit_ref sb_TooLong_TooLong sb_TooLong_NoFile ic_NoFile t_NoFile, is_TooLong_Kept := kit_ref sb_TooLong_TooLong sb_TooLong_Kept ic_Kept t_Kept }, rfl, rfl⟩
theorem all_mk {l : PySem.W.OpenLaw} {w : World} {K : PySem.W.Frag} {h : Heap} {mg : Str → Option Value} {fa : Addr} (X : K.In h) (G : h.Ns mainGlobals mg) (hfa : mg "law" = some (.ref fa)) {C_BadBlock C_BadLabel C_BadReel C_AtEnd C_NoReel C_TooLong C_NoFile C_NoRing C_BadNumber C_BadName C_BadRecord C_Kept C_AtStart C_ReelError C_BadForm C_Reel f__wall f_is_whole f_look_number f_is_name f_look_name f_cost f_is_block f_Reel___init__ f_Reel_ring f_Reel_used f_Reel_is_near_end f_Reel_put f_Reel_write f_Reel_write_mark f_Reel_read f_Reel_read_back f_Reel_rewind f_Reel_skip f_Reel_skip_marks f_Reel_at f_Reel_content f_Reel_tear f_Reel_called f__law_town f__law_draw f__law_pick f__law_refusal f__law_made f__law_does f__law_asked f_law : Addr} {od__wall an__wall od_is_whole an_is_whole od_look_number an_look_number od_is_name an_is_name od_look_name an_look_name od_cost an_cost od_is_block an_is_block od_Reel___init__ an_Reel___init__ od_Reel_ring an_Reel_ring od_Reel_used an_Reel_used od_Reel_is_near_end an_Reel_is_near_end od_Reel_put an_Reel_put od_Reel_write an_Reel_write od_Reel_write_mark an_Reel_write_mark od_Reel_read an_Reel_read od_Reel_read_back an_Reel_read_back od_Reel_rewind an_Reel_rewind od_Reel_skip an_Reel_skip od_Reel_skip_marks an_Reel_skip_marks od_Reel_at an_Reel_at od_Reel_content an_Reel_content od_Reel_tear an_Reel_tear od_Reel_called an_Reel_called od__law_town an__law_town od__law_draw an__law_draw od__law_pick an__law_pick od__law_refusal an__law_refusal od__law_made an__law_made od__law_does an__law_does od__law_asked an__law_asked od_law an_law : Option Addr} {oc__wall kV__wall dc__wall pm__wall cd__wall ct__wall oc_is_whole kV_is_whole dc_is_whole pm_is_whole cd_is_whole ct_is_whole oc_look_number kV_look_number dc_look_number pm_look_number cd_look_number ct_look_number oc_is_name kV_is_name dc_is_name pm_is_name cd_is_name ct_is_name oc_look_name kV_look_name dc_look_name pm_look_name cd_look_name ct_look_name oc_cost kV_cost dc_cost pm_cost cd_cost ct_cost oc_is_block kV_is_block dc_is_block pm_is_block cd_is_block ct_is_block oc_Reel___init__ kV_Reel___init__ dc_Reel___init__ pm_Reel___init__ cd_Reel___init__ ct_Reel___init__ oc_Reel_ring kV_Reel_ring dc_Reel_ring pm_Reel_ring cd_Reel_ring ct_Reel_ring oc_Reel_used kV_Reel_used dc_Reel_used pm_Reel_used cd_Reel_used ct_Reel_used oc_Reel_is_near_end kV_Reel_is_near_end dc_Reel_is_near_end pm_Reel_is_near_end cd_Reel_is_near_end ct_Reel_is_near_end oc_Reel_put kV_Reel_put dc_Reel_put pm_Reel_put cd_Reel_put ct_Reel_put oc_Reel_write kV_Reel_write dc_Reel_write pm_Reel_write cd_Reel_write ct_Reel_write oc_Reel_write_mark kV_Reel_write_mark dc_Reel_write_mark pm_Reel_write_mark cd_Reel_write_mark ct_Reel_write_mark oc_Reel_read kV_Reel_read dc_Reel_read pm_Reel_read cd_Reel_read ct_Reel_read oc_Reel_read_back kV_Reel_read_back dc_Reel_read_back pm_Reel_read_back cd_Reel_read_back ct_Reel_read_back oc_Reel_rewind kV_Reel_rewind dc_Reel_rewind pm_Reel_rewind cd_Reel_rewind ct_Reel_rewind oc_Reel_skip kV_Reel_skip dc_Reel_skip pm_Reel_skip cd_Reel_skip ct_Reel_skip oc_Reel_skip_marks kV_Reel_skip_marks dc_Reel_skip_marks pm_Reel_skip_marks cd_Reel_skip_marks ct_Reel_skip_marks oc_Reel_at kV_Reel_at dc_Reel_at pm_Reel_at cd_Reel_at ct_Reel_at oc_Reel_content kV_Reel_content dc_Reel_content pm_Reel_content cd_Reel_content ct_Reel_content oc_Reel_tear kV_Reel_tear dc_Reel_tear pm_Reel_tear cd_Reel_tear ct_Reel_tear oc_Reel_called kV_Reel_called dc_Reel_called pm_Reel_called cd_Reel_called ct_Reel_called oc__law_town kV__law_town dc__law_town pm__law_town cd__law_town ct__law_town oc__law_draw kV__law_draw dc__law_draw pm__law_draw cd__law_draw ct__law_draw oc__law_pick kV__law_pick dc__law_pick pm__law_pick cd__law_pick ct__law_pick oc__law_refusal kV__law_refusal dc__law_refusal pm__law_refusal cd__law_refusal ct__law_refusal oc__law_made kV__law_made dc__law_made pm__law_made cd__law_made ct__law_made oc__law_does kV__law_does dc__law_does pm__law_does cd__law_does ct__law_does oc__law_asked kV__law_asked dc__law_asked pm__law_asked cd__law_asked ct__law_asked oc_law kV_law dc_law pm_law cd_law ct_law : Value} {sl__wall sl_is_whole sl_look_number sl_is_name sl_look_name sl_cost sl_is_block sl_Reel___init__ sl_Reel_ring sl_Reel_used sl_Reel_is_near_end sl_Reel_put sl_Reel_write sl_Reel_write_mark sl_Reel_read sl_Reel_read_back sl_Reel_rewind sl_Reel_skip sl_Reel_skip_marks sl_Reel_at sl_Reel_content sl_Reel_tear sl_Reel_called sl__law_town sl__law_draw sl__law_pick sl__law_refusal sl__law_made sl__law_does sl__law_asked sl_law : Array (Option Value)} {tk_GAP tk_MARK_LONG tk_MOST_BLOCK tk_MOST_LONG tk_SIGNS tk_SPARE : Tok}
    (g_BadBlock : PySem.W.nsIn K mainGlobals "BadBlock" = some (some (.ref C_BadBlock)))
    (x_BadBlock : PySem.W.excIn K C_BadBlock [.type "ValueError", .type "Exception", .type "BaseException", .type "object"] "ValueError.__new__" = true)
    (k_BadBlock : PySem.W.keepIn K (.ref C_BadBlock) = true)
    (b_BadBlock : PySem.W.subIn K (.ref C_BadBlock) (.type "BaseException") = some true)
    (t_BadBlock : PySem.W.typeIn K (.ref C_BadBlock) = some (.type "type"))
    (g_BadLabel : PySem.W.nsIn K mainGlobals "BadLabel" = some (some (.ref C_BadLabel)))
    (x_BadLabel : PySem.W.excIn K C_BadLabel [.type "ValueError", .type "Exception", .type "BaseException", .type "object"] "ValueError.__new__" = true)
    (k_BadLabel : PySem.W.keepIn K (.ref C_BadLabel) = true)
    (b_BadLabel : PySem.W.subIn K (.ref C_BadLabel) (.type "BaseException") = some true)
    (t_BadLabel : PySem.W.typeIn K (.ref C_BadLabel) = some (.type "type"))
    (g_BadReel : PySem.W.nsIn K mainGlobals "BadReel" = some (some (.ref C_BadReel)))
    (x_BadReel : PySem.W.excIn K C_BadReel [.type "ValueError", .type "Exception", .type "BaseException", .type "object"] "ValueError.__new__" = true)
    (k_BadReel : PySem.W.keepIn K (.ref C_BadReel) = true)
    (b_BadReel : PySem.W.subIn K (.ref C_BadReel) (.type "BaseException") = some true)
    (t_BadReel : PySem.W.typeIn K (.ref C_BadReel) = some (.type "type"))
    (g_AtEnd : PySem.W.nsIn K mainGlobals "AtEnd" = some (some (.ref C_AtEnd)))
    (x_AtEnd : PySem.W.excIn K C_AtEnd [.type "ValueError", .type "Exception", .type "BaseException", .type "object"] "ValueError.__new__" = true)
    (k_AtEnd : PySem.W.keepIn K (.ref C_AtEnd) = true)
    (b_AtEnd : PySem.W.subIn K (.ref C_AtEnd) (.type "BaseException") = some true)
    (t_AtEnd : PySem.W.typeIn K (.ref C_AtEnd) = some (.type "type"))
    (g_NoReel : PySem.W.nsIn K mainGlobals "NoReel" = some (some (.ref C_NoReel)))
    (x_NoReel : PySem.W.excIn K C_NoReel [.type "ValueError", .type "Exception", .type "BaseException", .type "object"] "ValueError.__new__" = true)
    (k_NoReel : PySem.W.keepIn K (.ref C_NoReel) = true)
    (b_NoReel : PySem.W.subIn K (.ref C_NoReel) (.type "BaseException") = some true)
    (t_NoReel : PySem.W.typeIn K (.ref C_NoReel) = some (.type "type"))
    (g_TooLong : PySem.W.nsIn K mainGlobals "TooLong" = some (some (.ref C_TooLong)))
    (x_TooLong : PySem.W.excIn K C_TooLong [.type "ValueError", .type "Exception", .type "BaseException", .type "object"] "ValueError.__new__" = true)
    (k_TooLong : PySem.W.keepIn K (.ref C_TooLong) = true)
    (b_TooLong : PySem.W.subIn K (.ref C_TooLong) (.type "BaseException") = some true)
    (t_TooLong : PySem.W.typeIn K (.ref C_TooLong) = some (.type "type"))
    (g_NoFile : PySem.W.nsIn K mainGlobals "NoFile" = some (some (.ref C_NoFile)))
    (g_NoRing : PySem.W.nsIn K mainGlobals "NoRing" = some (some (.ref C_NoRing)))
    (x_NoRing : PySem.W.excIn K C_NoRing [.type "ValueError", .type "Exception", .type "BaseException", .type "object"] "ValueError.__new__" = true)
    (k_NoRing : PySem.W.keepIn K (.ref C_NoRing) = true)
    (b_NoRing : PySem.W.subIn K (.ref C_NoRing) (.type "BaseException") = some true)
    (t_NoRing : PySem.W.typeIn K (.ref C_NoRing) = some (.type "type"))
    (g_BadNumber : PySem.W.nsIn K mainGlobals "BadNumber" = some (some (.ref C_BadNumber)))
    (x_BadNumber : PySem.W.excIn K C_BadNumber [.type "ValueError", .type "Exception", .type "BaseException", .type "object"] "ValueError.__new__" = true)
    (k_BadNumber : PySem.W.keepIn K (.ref C_BadNumber) = true)
    (b_BadNumber : PySem.W.subIn K (.ref C_BadNumber) (.type "BaseException") = some true)
    (t_BadNumber : PySem.W.typeIn K (.ref C_BadNumber) = some (.type "type"))
    (g_BadName : PySem.W.nsIn K mainGlobals "BadName" = some (some (.ref C_BadName)))
    (x_BadName : PySem.W.excIn K C_BadName [.type "ValueError", .type "Exception", .type "BaseException", .type "object"] "ValueError.__new__" = true)
    (k_BadName : PySem.W.keepIn K (.ref C_BadName) = true)
    (b_BadName : PySem.W.subIn K (.ref C_BadName) (.type "BaseException") = some true)
    (t_BadName : PySem.W.typeIn K (.ref C_BadName) = some (.type "type"))
    (g_BadRecord : PySem.W.nsIn K mainGlobals "BadRecord" = some (some (.ref C_BadRecord)))
    (x_BadRecord : PySem.W.excIn K C_BadRecord [.type "ValueError", .type "Exception", .type "BaseException", .type "object"] "ValueError.__new__" = true)
    (k_BadRecord : PySem.W.keepIn K (.ref C_BadRecord) = true)
    (b_BadRecord : PySem.W.subIn K (.ref C_BadRecord) (.type "BaseException") = some true)
    (t_BadRecord : PySem.W.typeIn K (.ref C_BadRecord) = some (.type "type"))
    (g_Kept : PySem.W.nsIn K mainGlobals "Kept" = some (some (.ref C_Kept)))
    (g_AtStart : PySem.W.nsIn K mainGlobals "AtStart" = some (some (.ref C_AtStart)))
    (x_AtStart : PySem.W.excIn K C_AtStart [.type "ValueError", .type "Exception", .type "BaseException", .type "object"] "ValueError.__new__" = true)
    (k_AtStart : PySem.W.keepIn K (.ref C_AtStart) = true)
    (b_AtStart : PySem.W.subIn K (.ref C_AtStart) (.type "BaseException") = some true)
    (t_AtStart : PySem.W.typeIn K (.ref C_AtStart) = some (.type "type"))
    (g_ReelError : PySem.W.nsIn K mainGlobals "ReelError" = some (some (.ref C_ReelError)))
    (x_ReelError : PySem.W.excIn K C_ReelError [.type "ValueError", .type "Exception", .type "BaseException", .type "object"] "ValueError.__new__" = true)
    (k_ReelError : PySem.W.keepIn K (.ref C_ReelError) = true)
    (b_ReelError : PySem.W.subIn K (.ref C_ReelError) (.type "BaseException") = some true)
    (t_ReelError : PySem.W.typeIn K (.ref C_ReelError) = some (.type "type"))
    (g_BadForm : PySem.W.nsIn K mainGlobals "BadForm" = some (some (.ref C_BadForm)))
    (x_BadForm : PySem.W.excIn K C_BadForm [.type "ValueError", .type "Exception", .type "BaseException", .type "object"] "ValueError.__new__" = true)
    (k_BadForm : PySem.W.keepIn K (.ref C_BadForm) = true)
    (b_BadForm : PySem.W.subIn K (.ref C_BadForm) (.type "BaseException") = some true)
    (t_BadForm : PySem.W.typeIn K (.ref C_BadForm) = some (.type "type"))
    (g_Reel : PySem.W.nsIn K mainGlobals "Reel" = some (some (.ref C_Reel)))
    (pg_Reel : PySem.W.plainGet K C_Reel Str.empty = true)
    (hd_Reel : PySem.W.hasDictIn K C_Reel = true)
    (po_Reel : PySem.W.plainOver K C_Reel = true)
    (sa_Reel : PySem.W.findIn K (.ref C_Reel) "__setattr__" = some (some (.builtin "object.__setattr__")))
    (mk_Reel : PySem.W.makesIn K C_Reel = true)
    (kc_Reel : PySem.W.keepIn K (.ref C_Reel) = true)
    (a__wall : PySem.W.nsIn K mainGlobals "_wall" = some (some (.ref f__wall)))
    (l__wall : K.lookup f__wall = some ⟨oc__wall, od__wall, .func (PySem.W.fnOf "_wall" "_wall" (defArgs s__wall) (defBody s__wall) (defScope s__wall) .none kV__wall dc__wall pm__wall an__wall cd__wall ct__wall), sl__wall⟩)
    (c__wall : PySem.W.codeIn K cd__wall "_wall" = true)
    (k__wall : PySem.W.keepIn K (.ref f__wall) = true)
    (a_is_whole : PySem.W.nsIn K mainGlobals "is_whole" = some (some (.ref f_is_whole)))
    (l_is_whole : K.lookup f_is_whole = some ⟨oc_is_whole, od_is_whole, .func (PySem.W.fnOf "is_whole" "is_whole" (defArgs s_is_whole) (defBody s_is_whole) (defScope s_is_whole) .none kV_is_whole dc_is_whole pm_is_whole an_is_whole cd_is_whole ct_is_whole), sl_is_whole⟩)
    (c_is_whole : PySem.W.codeIn K cd_is_whole "is_whole" = true)
    (k_is_whole : PySem.W.keepIn K (.ref f_is_whole) = true)
    (a_look_number : PySem.W.nsIn K mainGlobals "look_number" = some (some (.ref f_look_number)))
    (l_look_number : K.lookup f_look_number = some ⟨oc_look_number, od_look_number, .func (PySem.W.fnOf "look_number" "look_number" (defArgs s_look_number) (defBody s_look_number) (defScope s_look_number) .none kV_look_number dc_look_number pm_look_number an_look_number cd_look_number ct_look_number), sl_look_number⟩)
    (c_look_number : PySem.W.codeIn K cd_look_number "look_number" = true)
    (k_look_number : PySem.W.keepIn K (.ref f_look_number) = true)
    (a_is_name : PySem.W.nsIn K mainGlobals "is_name" = some (some (.ref f_is_name)))
    (l_is_name : K.lookup f_is_name = some ⟨oc_is_name, od_is_name, .func (PySem.W.fnOf "is_name" "is_name" (defArgs s_is_name) (defBody s_is_name) (defScope s_is_name) .none kV_is_name dc_is_name pm_is_name an_is_name cd_is_name ct_is_name), sl_is_name⟩)
    (c_is_name : PySem.W.codeIn K cd_is_name "is_name" = true)
    (k_is_name : PySem.W.keepIn K (.ref f_is_name) = true)
    (a_look_name : PySem.W.nsIn K mainGlobals "look_name" = some (some (.ref f_look_name)))
    (l_look_name : K.lookup f_look_name = some ⟨oc_look_name, od_look_name, .func (PySem.W.fnOf "look_name" "look_name" (defArgs s_look_name) (defBody s_look_name) (defScope s_look_name) .none kV_look_name dc_look_name pm_look_name an_look_name cd_look_name ct_look_name), sl_look_name⟩)
    (c_look_name : PySem.W.codeIn K cd_look_name "look_name" = true)
    (k_look_name : PySem.W.keepIn K (.ref f_look_name) = true)
    (a_cost : PySem.W.nsIn K mainGlobals "cost" = some (some (.ref f_cost)))
    (l_cost : K.lookup f_cost = some ⟨oc_cost, od_cost, .func (PySem.W.fnOf "cost" "cost" (defArgs s_cost) (defBody s_cost) (defScope s_cost) .none kV_cost dc_cost pm_cost an_cost cd_cost ct_cost), sl_cost⟩)
    (c_cost : PySem.W.codeIn K cd_cost "cost" = true)
    (k_cost : PySem.W.keepIn K (.ref f_cost) = true)
    (a_is_block : PySem.W.nsIn K mainGlobals "is_block" = some (some (.ref f_is_block)))
    (l_is_block : K.lookup f_is_block = some ⟨oc_is_block, od_is_block, .func (PySem.W.fnOf "is_block" "is_block" (defArgs s_is_block) (defBody s_is_block) (defScope s_is_block) .none kV_is_block dc_is_block pm_is_block an_is_block cd_is_block ct_is_block), sl_is_block⟩)
    (c_is_block : PySem.W.codeIn K cd_is_block "is_block" = true)
    (k_is_block : PySem.W.keepIn K (.ref f_is_block) = true)
    (a_Reel___init__ : PySem.W.findIn K (.ref C_Reel) "__init__" = some (some (.ref f_Reel___init__)))
    (i_Reel___init__ : PySem.W.isFn K (.ref f_Reel___init__) = true)
    (l_Reel___init__ : K.lookup f_Reel___init__ = some ⟨oc_Reel___init__, od_Reel___init__, .func (PySem.W.fnOf "__init__" "Reel.__init__" (defArgs s_Reel___init__) (defBody s_Reel___init__) (defScope s_Reel___init__) .none kV_Reel___init__ dc_Reel___init__ pm_Reel___init__ an_Reel___init__ cd_Reel___init__ ct_Reel___init__), sl_Reel___init__⟩)
    (c_Reel___init__ : PySem.W.codeIn K cd_Reel___init__ "Reel.__init__" = true)
    (k_Reel___init__ : PySem.W.keepIn K (.ref f_Reel___init__) = true)
    (a_Reel_ring : PySem.W.findIn K (.ref C_Reel) "ring" = some (some (.ref f_Reel_ring)))
    (i_Reel_ring : PySem.W.isFn K (.ref f_Reel_ring) = true)
    (l_Reel_ring : K.lookup f_Reel_ring = some ⟨oc_Reel_ring, od_Reel_ring, .func (PySem.W.fnOf "ring" "Reel.ring" (defArgs s_Reel_ring) (defBody s_Reel_ring) (defScope s_Reel_ring) .none kV_Reel_ring dc_Reel_ring pm_Reel_ring an_Reel_ring cd_Reel_ring ct_Reel_ring), sl_Reel_ring⟩)
    (c_Reel_ring : PySem.W.codeIn K cd_Reel_ring "Reel.ring" = true)
    (k_Reel_ring : PySem.W.keepIn K (.ref f_Reel_ring) = true)
    (a_Reel_used : PySem.W.findIn K (.ref C_Reel) "used" = some (some (.ref f_Reel_used)))
    (i_Reel_used : PySem.W.isFn K (.ref f_Reel_used) = true)
    (l_Reel_used : K.lookup f_Reel_used = some ⟨oc_Reel_used, od_Reel_used, .func (PySem.W.fnOf "used" "Reel.used" (defArgs s_Reel_used) (defBody s_Reel_used) (defScope s_Reel_used) .none kV_Reel_used dc_Reel_used pm_Reel_used an_Reel_used cd_Reel_used ct_Reel_used), sl_Reel_used⟩)
    (c_Reel_used : PySem.W.codeIn K cd_Reel_used "Reel.used" = true)
    (k_Reel_used : PySem.W.keepIn K (.ref f_Reel_used) = true)
    (a_Reel_is_near_end : PySem.W.findIn K (.ref C_Reel) "is_near_end" = some (some (.ref f_Reel_is_near_end)))
    (i_Reel_is_near_end : PySem.W.isFn K (.ref f_Reel_is_near_end) = true)
    (l_Reel_is_near_end : K.lookup f_Reel_is_near_end = some ⟨oc_Reel_is_near_end, od_Reel_is_near_end, .func (PySem.W.fnOf "is_near_end" "Reel.is_near_end" (defArgs s_Reel_is_near_end) (defBody s_Reel_is_near_end) (defScope s_Reel_is_near_end) .none kV_Reel_is_near_end dc_Reel_is_near_end pm_Reel_is_near_end an_Reel_is_near_end cd_Reel_is_near_end ct_Reel_is_near_end), sl_Reel_is_near_end⟩)
    (c_Reel_is_near_end : PySem.W.codeIn K cd_Reel_is_near_end "Reel.is_near_end" = true)
    (k_Reel_is_near_end : PySem.W.keepIn K (.ref f_Reel_is_near_end) = true)
    (a_Reel_put : PySem.W.findIn K (.ref C_Reel) "put" = some (some (.ref f_Reel_put)))
    (i_Reel_put : PySem.W.isFn K (.ref f_Reel_put) = true)
    (l_Reel_put : K.lookup f_Reel_put = some ⟨oc_Reel_put, od_Reel_put, .func (PySem.W.fnOf "put" "Reel.put" (defArgs s_Reel_put) (defBody s_Reel_put) (defScope s_Reel_put) .none kV_Reel_put dc_Reel_put pm_Reel_put an_Reel_put cd_Reel_put ct_Reel_put), sl_Reel_put⟩)
    (c_Reel_put : PySem.W.codeIn K cd_Reel_put "Reel.put" = true)
    (k_Reel_put : PySem.W.keepIn K (.ref f_Reel_put) = true)
    (a_Reel_write : PySem.W.findIn K (.ref C_Reel) "write" = some (some (.ref f_Reel_write)))
    (i_Reel_write : PySem.W.isFn K (.ref f_Reel_write) = true)
    (l_Reel_write : K.lookup f_Reel_write = some ⟨oc_Reel_write, od_Reel_write, .func (PySem.W.fnOf "write" "Reel.write" (defArgs s_Reel_write) (defBody s_Reel_write) (defScope s_Reel_write) .none kV_Reel_write dc_Reel_write pm_Reel_write an_Reel_write cd_Reel_write ct_Reel_write), sl_Reel_write⟩)
    (c_Reel_write : PySem.W.codeIn K cd_Reel_write "Reel.write" = true)
    (k_Reel_write : PySem.W.keepIn K (.ref f_Reel_write) = true)
    (a_Reel_write_mark : PySem.W.findIn K (.ref C_Reel) "write_mark" = some (some (.ref f_Reel_write_mark)))
    (i_Reel_write_mark : PySem.W.isFn K (.ref f_Reel_write_mark) = true)
    (l_Reel_write_mark : K.lookup f_Reel_write_mark = some ⟨oc_Reel_write_mark, od_Reel_write_mark, .func (PySem.W.fnOf "write_mark" "Reel.write_mark" (defArgs s_Reel_write_mark) (defBody s_Reel_write_mark) (defScope s_Reel_write_mark) .none kV_Reel_write_mark dc_Reel_write_mark pm_Reel_write_mark an_Reel_write_mark cd_Reel_write_mark ct_Reel_write_mark), sl_Reel_write_mark⟩)
    (c_Reel_write_mark : PySem.W.codeIn K cd_Reel_write_mark "Reel.write_mark" = true)
    (k_Reel_write_mark : PySem.W.keepIn K (.ref f_Reel_write_mark) = true)
    (a_Reel_read : PySem.W.findIn K (.ref C_Reel) "read" = some (some (.ref f_Reel_read)))
    (i_Reel_read : PySem.W.isFn K (.ref f_Reel_read) = true)
    (l_Reel_read : K.lookup f_Reel_read = some ⟨oc_Reel_read, od_Reel_read, .func (PySem.W.fnOf "read" "Reel.read" (defArgs s_Reel_read) (defBody s_Reel_read) (defScope s_Reel_read) .none kV_Reel_read dc_Reel_read pm_Reel_read an_Reel_read cd_Reel_read ct_Reel_read), sl_Reel_read⟩)
    (c_Reel_read : PySem.W.codeIn K cd_Reel_read "Reel.read" = true)
    (k_Reel_read : PySem.W.keepIn K (.ref f_Reel_read) = true)
    (a_Reel_read_back : PySem.W.findIn K (.ref C_Reel) "read_back" = some (some (.ref f_Reel_read_back)))
    (i_Reel_read_back : PySem.W.isFn K (.ref f_Reel_read_back) = true)
    (l_Reel_read_back : K.lookup f_Reel_read_back = some ⟨oc_Reel_read_back, od_Reel_read_back, .func (PySem.W.fnOf "read_back" "Reel.read_back" (defArgs s_Reel_read_back) (defBody s_Reel_read_back) (defScope s_Reel_read_back) .none kV_Reel_read_back dc_Reel_read_back pm_Reel_read_back an_Reel_read_back cd_Reel_read_back ct_Reel_read_back), sl_Reel_read_back⟩)
    (c_Reel_read_back : PySem.W.codeIn K cd_Reel_read_back "Reel.read_back" = true)
    (k_Reel_read_back : PySem.W.keepIn K (.ref f_Reel_read_back) = true)
    (a_Reel_rewind : PySem.W.findIn K (.ref C_Reel) "rewind" = some (some (.ref f_Reel_rewind)))
    (i_Reel_rewind : PySem.W.isFn K (.ref f_Reel_rewind) = true)
    (l_Reel_rewind : K.lookup f_Reel_rewind = some ⟨oc_Reel_rewind, od_Reel_rewind, .func (PySem.W.fnOf "rewind" "Reel.rewind" (defArgs s_Reel_rewind) (defBody s_Reel_rewind) (defScope s_Reel_rewind) .none kV_Reel_rewind dc_Reel_rewind pm_Reel_rewind an_Reel_rewind cd_Reel_rewind ct_Reel_rewind), sl_Reel_rewind⟩)
    (c_Reel_rewind : PySem.W.codeIn K cd_Reel_rewind "Reel.rewind" = true)
    (k_Reel_rewind : PySem.W.keepIn K (.ref f_Reel_rewind) = true)
    (a_Reel_skip : PySem.W.findIn K (.ref C_Reel) "skip" = some (some (.ref f_Reel_skip)))
    (i_Reel_skip : PySem.W.isFn K (.ref f_Reel_skip) = true)
    (l_Reel_skip : K.lookup f_Reel_skip = some ⟨oc_Reel_skip, od_Reel_skip, .func (PySem.W.fnOf "skip" "Reel.skip" (defArgs s_Reel_skip) (defBody s_Reel_skip) (defScope s_Reel_skip) .none kV_Reel_skip dc_Reel_skip pm_Reel_skip an_Reel_skip cd_Reel_skip ct_Reel_skip), sl_Reel_skip⟩)
    (c_Reel_skip : PySem.W.codeIn K cd_Reel_skip "Reel.skip" = true)
    (k_Reel_skip : PySem.W.keepIn K (.ref f_Reel_skip) = true)
    (a_Reel_skip_marks : PySem.W.findIn K (.ref C_Reel) "skip_marks" = some (some (.ref f_Reel_skip_marks)))
    (i_Reel_skip_marks : PySem.W.isFn K (.ref f_Reel_skip_marks) = true)
    (l_Reel_skip_marks : K.lookup f_Reel_skip_marks = some ⟨oc_Reel_skip_marks, od_Reel_skip_marks, .func (PySem.W.fnOf "skip_marks" "Reel.skip_marks" (defArgs s_Reel_skip_marks) (defBody s_Reel_skip_marks) (defScope s_Reel_skip_marks) .none kV_Reel_skip_marks dc_Reel_skip_marks pm_Reel_skip_marks an_Reel_skip_marks cd_Reel_skip_marks ct_Reel_skip_marks), sl_Reel_skip_marks⟩)
    (c_Reel_skip_marks : PySem.W.codeIn K cd_Reel_skip_marks "Reel.skip_marks" = true)
    (k_Reel_skip_marks : PySem.W.keepIn K (.ref f_Reel_skip_marks) = true)
    (a_Reel_at : PySem.W.findIn K (.ref C_Reel) "at" = some (some (.ref f_Reel_at)))
    (i_Reel_at : PySem.W.isFn K (.ref f_Reel_at) = true)
    (l_Reel_at : K.lookup f_Reel_at = some ⟨oc_Reel_at, od_Reel_at, .func (PySem.W.fnOf "at" "Reel.at" (defArgs s_Reel_at) (defBody s_Reel_at) (defScope s_Reel_at) .none kV_Reel_at dc_Reel_at pm_Reel_at an_Reel_at cd_Reel_at ct_Reel_at), sl_Reel_at⟩)
    (c_Reel_at : PySem.W.codeIn K cd_Reel_at "Reel.at" = true)
    (k_Reel_at : PySem.W.keepIn K (.ref f_Reel_at) = true)
    (a_Reel_content : PySem.W.findIn K (.ref C_Reel) "content" = some (some (.ref f_Reel_content)))
    (i_Reel_content : PySem.W.isFn K (.ref f_Reel_content) = true)
    (l_Reel_content : K.lookup f_Reel_content = some ⟨oc_Reel_content, od_Reel_content, .func (PySem.W.fnOf "content" "Reel.content" (defArgs s_Reel_content) (defBody s_Reel_content) (defScope s_Reel_content) .none kV_Reel_content dc_Reel_content pm_Reel_content an_Reel_content cd_Reel_content ct_Reel_content), sl_Reel_content⟩)
    (c_Reel_content : PySem.W.codeIn K cd_Reel_content "Reel.content" = true)
    (k_Reel_content : PySem.W.keepIn K (.ref f_Reel_content) = true)
    (a_Reel_tear : PySem.W.findIn K (.ref C_Reel) "tear" = some (some (.ref f_Reel_tear)))
    (i_Reel_tear : PySem.W.isFn K (.ref f_Reel_tear) = true)
    (l_Reel_tear : K.lookup f_Reel_tear = some ⟨oc_Reel_tear, od_Reel_tear, .func (PySem.W.fnOf "tear" "Reel.tear" (defArgs s_Reel_tear) (defBody s_Reel_tear) (defScope s_Reel_tear) .none kV_Reel_tear dc_Reel_tear pm_Reel_tear an_Reel_tear cd_Reel_tear ct_Reel_tear), sl_Reel_tear⟩)
    (c_Reel_tear : PySem.W.codeIn K cd_Reel_tear "Reel.tear" = true)
    (k_Reel_tear : PySem.W.keepIn K (.ref f_Reel_tear) = true)
    (a_Reel_called : PySem.W.findIn K (.ref C_Reel) "called" = some (some (.ref f_Reel_called)))
    (i_Reel_called : PySem.W.isFn K (.ref f_Reel_called) = true)
    (l_Reel_called : K.lookup f_Reel_called = some ⟨oc_Reel_called, od_Reel_called, .func (PySem.W.fnOf "called" "Reel.called" (defArgs s_Reel_called) (defBody s_Reel_called) (defScope s_Reel_called) .none kV_Reel_called dc_Reel_called pm_Reel_called an_Reel_called cd_Reel_called ct_Reel_called), sl_Reel_called⟩)
    (c_Reel_called : PySem.W.codeIn K cd_Reel_called "Reel.called" = true)
    (k_Reel_called : PySem.W.keepIn K (.ref f_Reel_called) = true)
    (a__law_town : PySem.W.nsIn K mainGlobals "_law_town" = some (some (.ref f__law_town)))
    (l__law_town : K.lookup f__law_town = some ⟨oc__law_town, od__law_town, .func (PySem.W.fnOf "_law_town" "_law_town" (defArgs s__law_town) (defBody s__law_town) (defScope s__law_town) .none kV__law_town dc__law_town pm__law_town an__law_town cd__law_town ct__law_town), sl__law_town⟩)
    (c__law_town : PySem.W.codeIn K cd__law_town "_law_town" = true)
    (k__law_town : PySem.W.keepIn K (.ref f__law_town) = true)
    (a__law_draw : PySem.W.nsIn K mainGlobals "_law_draw" = some (some (.ref f__law_draw)))
    (l__law_draw : K.lookup f__law_draw = some ⟨oc__law_draw, od__law_draw, .func (PySem.W.fnOf "_law_draw" "_law_draw" (defArgs s__law_draw) (defBody s__law_draw) (defScope s__law_draw) .none kV__law_draw dc__law_draw pm__law_draw an__law_draw cd__law_draw ct__law_draw), sl__law_draw⟩)
    (c__law_draw : PySem.W.codeIn K cd__law_draw "_law_draw" = true)
    (k__law_draw : PySem.W.keepIn K (.ref f__law_draw) = true)
    (a__law_pick : PySem.W.nsIn K mainGlobals "_law_pick" = some (some (.ref f__law_pick)))
    (l__law_pick : K.lookup f__law_pick = some ⟨oc__law_pick, od__law_pick, .func (PySem.W.fnOf "_law_pick" "_law_pick" (defArgs s__law_pick) (defBody s__law_pick) (defScope s__law_pick) .none kV__law_pick dc__law_pick pm__law_pick an__law_pick cd__law_pick ct__law_pick), sl__law_pick⟩)
    (c__law_pick : PySem.W.codeIn K cd__law_pick "_law_pick" = true)
    (k__law_pick : PySem.W.keepIn K (.ref f__law_pick) = true)
    (a__law_refusal : PySem.W.nsIn K mainGlobals "_law_refusal" = some (some (.ref f__law_refusal)))
    (l__law_refusal : K.lookup f__law_refusal = some ⟨oc__law_refusal, od__law_refusal, .func (PySem.W.fnOf "_law_refusal" "_law_refusal" (defArgs s__law_refusal) (defBody s__law_refusal) (defScope s__law_refusal) .none kV__law_refusal dc__law_refusal pm__law_refusal an__law_refusal cd__law_refusal ct__law_refusal), sl__law_refusal⟩)
    (c__law_refusal : PySem.W.codeIn K cd__law_refusal "_law_refusal" = true)
    (k__law_refusal : PySem.W.keepIn K (.ref f__law_refusal) = true)
    (a__law_made : PySem.W.nsIn K mainGlobals "_law_made" = some (some (.ref f__law_made)))
    (l__law_made : K.lookup f__law_made = some ⟨oc__law_made, od__law_made, .func (PySem.W.fnOf "_law_made" "_law_made" (defArgs s__law_made) (defBody s__law_made) (defScope s__law_made) .none kV__law_made dc__law_made pm__law_made an__law_made cd__law_made ct__law_made), sl__law_made⟩)
    (c__law_made : PySem.W.codeIn K cd__law_made "_law_made" = true)
    (k__law_made : PySem.W.keepIn K (.ref f__law_made) = true)
    (a__law_does : PySem.W.nsIn K mainGlobals "_law_does" = some (some (.ref f__law_does)))
    (l__law_does : K.lookup f__law_does = some ⟨oc__law_does, od__law_does, .func (PySem.W.fnOf "_law_does" "_law_does" (defArgs s__law_does) (defBody s__law_does) (defScope s__law_does) .none kV__law_does dc__law_does pm__law_does an__law_does cd__law_does ct__law_does), sl__law_does⟩)
    (c__law_does : PySem.W.codeIn K cd__law_does "_law_does" = true)
    (k__law_does : PySem.W.keepIn K (.ref f__law_does) = true)
    (a__law_asked : PySem.W.nsIn K mainGlobals "_law_asked" = some (some (.ref f__law_asked)))
    (l__law_asked : K.lookup f__law_asked = some ⟨oc__law_asked, od__law_asked, .func (PySem.W.fnOf "_law_asked" "_law_asked" (defArgs s__law_asked) (defBody s__law_asked) (defScope s__law_asked) .none kV__law_asked dc__law_asked pm__law_asked an__law_asked cd__law_asked ct__law_asked), sl__law_asked⟩)
    (c__law_asked : PySem.W.codeIn K cd__law_asked "_law_asked" = true)
    (k__law_asked : PySem.W.keepIn K (.ref f__law_asked) = true)
    (a_law : PySem.W.nsIn K mainGlobals "law" = some (some (.ref f_law)))
    (l_law : K.lookup f_law = some ⟨oc_law, od_law, .func (PySem.W.fnOf "law" "law" (defArgs s_law) (defBody s_law) (defScope s_law) .none kV_law dc_law pm_law an_law cd_law ct_law), sl_law⟩)
    (c_law : PySem.W.codeIn K cd_law "law" = true)
    (k_law : PySem.W.keepIn K (.ref f_law) = true)
    (g_c_SIGNS : PySem.W.nsIn K mainGlobals "SIGNS" = some (some (.str "ABCDEFGHIJKLMNOPQRSTUVWXYZ0123456789" tk_SIGNS)))
    (g_c_GAP : PySem.W.nsIn K mainGlobals "GAP" = some (some (.int 3 tk_GAP)))
    (g_c_MARK_LONG : PySem.W.nsIn K mainGlobals "MARK_LONG" = some (some (.int 4 tk_MARK_LONG)))
    (g_c_SPARE : PySem.W.nsIn K mainGlobals "SPARE" = some (some (.int 400 tk_SPARE)))
    (g_c_MOST_BLOCK : PySem.W.nsIn K mainGlobals "MOST_BLOCK" = some (some (.int 99 tk_MOST_BLOCK)))
    (g_c_MOST_LONG : PySem.W.nsIn K mainGlobals "MOST_LONG" = some (some (.int 5000 tk_MOST_LONG)))
    (z_isinstance : PySem.W.nsIn K mainGlobals "isinstance" = some none)
    (z_int : PySem.W.nsIn K mainGlobals "int" = some none)
    (z_bool : PySem.W.nsIn K mainGlobals "bool" = some none)
    (z_str : PySem.W.nsIn K mainGlobals "str" = some none)
    (z_len : PySem.W.nsIn K mainGlobals "len" = some none)
    (z_all : PySem.W.nsIn K mainGlobals "all" = some none)
    (z_sum : PySem.W.nsIn K mainGlobals "sum" = some none)
    (z_abs : PySem.W.nsIn K mainGlobals "abs" = some none)
    (z_list : PySem.W.nsIn K mainGlobals "list" = some none)
    (z_ValueError : PySem.W.nsIn K mainGlobals "ValueError" = some none)
    (n_Reel_serial : PySem.W.findIn K (.ref C_Reel) "serial" = some none)
    (n_Reel_length : PySem.W.findIn K (.ref C_Reel) "length" = some none)
    (n_Reel_ringed : PySem.W.findIn K (.ref C_Reel) "ringed" = some none)
    (n_Reel_stuff : PySem.W.findIn K (.ref C_Reel) "stuff" = some none)
    (n_Reel_place : PySem.W.findIn K (.ref C_Reel) "place" = some none)
    (hg_BadName : PySem.W.findIn K (.ref C_BadName) "__getattribute__" = some (some (.builtin "BaseException.__getattribute__")))
    (hk_BadName : PySem.W.findIn K (.ref C_BadName) "__getattr__" = some none)
    (hd_BadName : PySem.W.hasDictIn K C_BadName = true)
    (ha_BadName : PySem.W.findIn K (.ref C_BadName) "__class__" = some (some (.builtin "object.__class__")))
    (hm_BadName : PySem.W.mroIn K C_BadName (.type "object") = some true)
    (hn_X : PySem.W.specialIn K (.builtin "object.__class__") "__get__" = some (some (.builtin "getset_descriptor.__get__")))
    (ht_X : PySem.W.takesIn K (.builtin "object.__class__") = some true)
    (rd_X : PySem.W.hasDictIn K C_ReelError = true)
    (ic_ReelError : PySem.W.isClsIn K C_ReelError = true)
    (ic_BadNumber : PySem.W.isClsIn K C_BadNumber = true)
    (ic_BadName : PySem.W.isClsIn K C_BadName = true)
    (ic_BadReel : PySem.W.isClsIn K C_BadReel = true)
    (ic_NoRing : PySem.W.isClsIn K C_NoRing = true)
    (ic_AtEnd : PySem.W.isClsIn K C_AtEnd = true)
    (ic_AtStart : PySem.W.isClsIn K C_AtStart = true)
    (ic_TooLong : PySem.W.isClsIn K C_TooLong = true)
    (ic_BadForm : PySem.W.isClsIn K C_BadForm = true)
    (ic_BadRecord : PySem.W.isClsIn K C_BadRecord = true)
    (ic_BadBlock : PySem.W.isClsIn K C_BadBlock = true)
    (ic_BadLabel : PySem.W.isClsIn K C_BadLabel = true)
    (ic_NoReel : PySem.W.isClsIn K C_NoReel = true)
    (ic_NoFile : PySem.W.isClsIn K C_NoFile = true)
    (t_NoFile : PySem.W.typeIn K (.ref C_NoFile) = some (.type "type"))
    (ic_Kept : PySem.W.isClsIn K C_Kept = true)
    (t_Kept : PySem.W.typeIn K (.ref C_Kept) = some (.type "type"))
    (sv_BadName : PySem.W.subIn K (.ref C_BadName) (.type "ValueError") = some true)
    (sb_BadName_ReelError : PySem.W.subIn K (.ref C_BadName) (.ref C_ReelError) = some true)
    (sb_BadName_BadNumber : PySem.W.subIn K (.ref C_BadName) (.ref C_BadNumber) = some false)
    (sb_BadName_BadName : PySem.W.subIn K (.ref C_BadName) (.ref C_BadName) = some true)
    (sb_BadName_BadReel : PySem.W.subIn K (.ref C_BadName) (.ref C_BadReel) = some false)
    (sb_BadName_NoRing : PySem.W.subIn K (.ref C_BadName) (.ref C_NoRing) = some false)
    (sb_BadName_AtEnd : PySem.W.subIn K (.ref C_BadName) (.ref C_AtEnd) = some false)
    (sb_BadName_AtStart : PySem.W.subIn K (.ref C_BadName) (.ref C_AtStart) = some false)
    (sb_BadName_TooLong : PySem.W.subIn K (.ref C_BadName) (.ref C_TooLong) = some false)
    (sb_BadName_BadForm : PySem.W.subIn K (.ref C_BadName) (.ref C_BadForm) = some false)
    (sb_BadName_BadRecord : PySem.W.subIn K (.ref C_BadName) (.ref C_BadRecord) = some false)
    (sb_BadName_BadBlock : PySem.W.subIn K (.ref C_BadName) (.ref C_BadBlock) = some false)
    (sb_BadName_BadLabel : PySem.W.subIn K (.ref C_BadName) (.ref C_BadLabel) = some false)
    (sb_BadName_NoReel : PySem.W.subIn K (.ref C_BadName) (.ref C_NoReel) = some false)
    (sb_BadName_NoFile : PySem.W.subIn K (.ref C_BadName) (.ref C_NoFile) = some false)
    (sb_BadName_Kept : PySem.W.subIn K (.ref C_BadName) (.ref C_Kept) = some false)
    (hg_BadNumber : PySem.W.findIn K (.ref C_BadNumber) "__getattribute__" = some (some (.builtin "BaseException.__getattribute__")))
    (hk_BadNumber : PySem.W.findIn K (.ref C_BadNumber) "__getattr__" = some none)
    (hd_BadNumber : PySem.W.hasDictIn K C_BadNumber = true)
    (ha_BadNumber : PySem.W.findIn K (.ref C_BadNumber) "__class__" = some (some (.builtin "object.__class__")))
    (hm_BadNumber : PySem.W.mroIn K C_BadNumber (.type "object") = some true)
    (sv_BadNumber : PySem.W.subIn K (.ref C_BadNumber) (.type "ValueError") = some true)
    (sb_BadNumber_ReelError : PySem.W.subIn K (.ref C_BadNumber) (.ref C_ReelError) = some true)
    (sb_BadNumber_BadNumber : PySem.W.subIn K (.ref C_BadNumber) (.ref C_BadNumber) = some true)
    (sb_BadNumber_BadName : PySem.W.subIn K (.ref C_BadNumber) (.ref C_BadName) = some false)
    (sb_BadNumber_BadReel : PySem.W.subIn K (.ref C_BadNumber) (.ref C_BadReel) = some false)
    (sb_BadNumber_NoRing : PySem.W.subIn K (.ref C_BadNumber) (.ref C_NoRing) = some false)
    (sb_BadNumber_AtEnd : PySem.W.subIn K (.ref C_BadNumber) (.ref C_AtEnd) = some false)
    (sb_BadNumber_AtStart : PySem.W.subIn K (.ref C_BadNumber) (.ref C_AtStart) = some false)
    (sb_BadNumber_TooLong : PySem.W.subIn K (.ref C_BadNumber) (.ref C_TooLong) = some false)
    (sb_BadNumber_BadForm : PySem.W.subIn K (.ref C_BadNumber) (.ref C_BadForm) = some false)
    (sb_BadNumber_BadRecord : PySem.W.subIn K (.ref C_BadNumber) (.ref C_BadRecord) = some false)
    (sb_BadNumber_BadBlock : PySem.W.subIn K (.ref C_BadNumber) (.ref C_BadBlock) = some false)
    (sb_BadNumber_BadLabel : PySem.W.subIn K (.ref C_BadNumber) (.ref C_BadLabel) = some false)
    (sb_BadNumber_NoReel : PySem.W.subIn K (.ref C_BadNumber) (.ref C_NoReel) = some false)
    (sb_BadNumber_NoFile : PySem.W.subIn K (.ref C_BadNumber) (.ref C_NoFile) = some false)
    (sb_BadNumber_Kept : PySem.W.subIn K (.ref C_BadNumber) (.ref C_Kept) = some false)
    (hg_NoRing : PySem.W.findIn K (.ref C_NoRing) "__getattribute__" = some (some (.builtin "BaseException.__getattribute__")))
    (hk_NoRing : PySem.W.findIn K (.ref C_NoRing) "__getattr__" = some none)
    (hd_NoRing : PySem.W.hasDictIn K C_NoRing = true)
    (ha_NoRing : PySem.W.findIn K (.ref C_NoRing) "__class__" = some (some (.builtin "object.__class__")))
    (hm_NoRing : PySem.W.mroIn K C_NoRing (.type "object") = some true)
    (sv_NoRing : PySem.W.subIn K (.ref C_NoRing) (.type "ValueError") = some true)
    (sb_NoRing_ReelError : PySem.W.subIn K (.ref C_NoRing) (.ref C_ReelError) = some true)
    (sb_NoRing_BadNumber : PySem.W.subIn K (.ref C_NoRing) (.ref C_BadNumber) = some false)
    (sb_NoRing_BadName : PySem.W.subIn K (.ref C_NoRing) (.ref C_BadName) = some false)
    (sb_NoRing_BadReel : PySem.W.subIn K (.ref C_NoRing) (.ref C_BadReel) = some false)
    (sb_NoRing_NoRing : PySem.W.subIn K (.ref C_NoRing) (.ref C_NoRing) = some true)
    (sb_NoRing_AtEnd : PySem.W.subIn K (.ref C_NoRing) (.ref C_AtEnd) = some false)
    (sb_NoRing_AtStart : PySem.W.subIn K (.ref C_NoRing) (.ref C_AtStart) = some false)
    (sb_NoRing_TooLong : PySem.W.subIn K (.ref C_NoRing) (.ref C_TooLong) = some false)
    (sb_NoRing_BadForm : PySem.W.subIn K (.ref C_NoRing) (.ref C_BadForm) = some false)
    (sb_NoRing_BadRecord : PySem.W.subIn K (.ref C_NoRing) (.ref C_BadRecord) = some false)
    (sb_NoRing_BadBlock : PySem.W.subIn K (.ref C_NoRing) (.ref C_BadBlock) = some false)
    (sb_NoRing_BadLabel : PySem.W.subIn K (.ref C_NoRing) (.ref C_BadLabel) = some false)
    (sb_NoRing_NoReel : PySem.W.subIn K (.ref C_NoRing) (.ref C_NoReel) = some false)
    (sb_NoRing_NoFile : PySem.W.subIn K (.ref C_NoRing) (.ref C_NoFile) = some false)
    (sb_NoRing_Kept : PySem.W.subIn K (.ref C_NoRing) (.ref C_Kept) = some false)
    (hg_AtEnd : PySem.W.findIn K (.ref C_AtEnd) "__getattribute__" = some (some (.builtin "BaseException.__getattribute__")))
    (hk_AtEnd : PySem.W.findIn K (.ref C_AtEnd) "__getattr__" = some none)
    (hd_AtEnd : PySem.W.hasDictIn K C_AtEnd = true)
    (ha_AtEnd : PySem.W.findIn K (.ref C_AtEnd) "__class__" = some (some (.builtin "object.__class__")))
    (hm_AtEnd : PySem.W.mroIn K C_AtEnd (.type "object") = some true)
    (sv_AtEnd : PySem.W.subIn K (.ref C_AtEnd) (.type "ValueError") = some true)
    (sb_AtEnd_ReelError : PySem.W.subIn K (.ref C_AtEnd) (.ref C_ReelError) = some true)
    (sb_AtEnd_BadNumber : PySem.W.subIn K (.ref C_AtEnd) (.ref C_BadNumber) = some false)
    (sb_AtEnd_BadName : PySem.W.subIn K (.ref C_AtEnd) (.ref C_BadName) = some false)
    (sb_AtEnd_BadReel : PySem.W.subIn K (.ref C_AtEnd) (.ref C_BadReel) = some false)
    (sb_AtEnd_NoRing : PySem.W.subIn K (.ref C_AtEnd) (.ref C_NoRing) = some false)
    (sb_AtEnd_AtEnd : PySem.W.subIn K (.ref C_AtEnd) (.ref C_AtEnd) = some true)
    (sb_AtEnd_AtStart : PySem.W.subIn K (.ref C_AtEnd) (.ref C_AtStart) = some false)
    (sb_AtEnd_TooLong : PySem.W.subIn K (.ref C_AtEnd) (.ref C_TooLong) = some false)
    (sb_AtEnd_BadForm : PySem.W.subIn K (.ref C_AtEnd) (.ref C_BadForm) = some false)
    (sb_AtEnd_BadRecord : PySem.W.subIn K (.ref C_AtEnd) (.ref C_BadRecord) = some false)
    (sb_AtEnd_BadBlock : PySem.W.subIn K (.ref C_AtEnd) (.ref C_BadBlock) = some false)
    (sb_AtEnd_BadLabel : PySem.W.subIn K (.ref C_AtEnd) (.ref C_BadLabel) = some false)
    (sb_AtEnd_NoReel : PySem.W.subIn K (.ref C_AtEnd) (.ref C_NoReel) = some false)
    (sb_AtEnd_NoFile : PySem.W.subIn K (.ref C_AtEnd) (.ref C_NoFile) = some false)
    (sb_AtEnd_Kept : PySem.W.subIn K (.ref C_AtEnd) (.ref C_Kept) = some false)
    (hg_AtStart : PySem.W.findIn K (.ref C_AtStart) "__getattribute__" = some (some (.builtin "BaseException.__getattribute__")))
    (hk_AtStart : PySem.W.findIn K (.ref C_AtStart) "__getattr__" = some none)
    (hd_AtStart : PySem.W.hasDictIn K C_AtStart = true)
    (ha_AtStart : PySem.W.findIn K (.ref C_AtStart) "__class__" = some (some (.builtin "object.__class__")))
    (hm_AtStart : PySem.W.mroIn K C_AtStart (.type "object") = some true)
    (sv_AtStart : PySem.W.subIn K (.ref C_AtStart) (.type "ValueError") = some true)
    (sb_AtStart_ReelError : PySem.W.subIn K (.ref C_AtStart) (.ref C_ReelError) = some true)
    (sb_AtStart_BadNumber : PySem.W.subIn K (.ref C_AtStart) (.ref C_BadNumber) = some false)
    (sb_AtStart_BadName : PySem.W.subIn K (.ref C_AtStart) (.ref C_BadName) = some false)
    (sb_AtStart_BadReel : PySem.W.subIn K (.ref C_AtStart) (.ref C_BadReel) = some false)
    (sb_AtStart_NoRing : PySem.W.subIn K (.ref C_AtStart) (.ref C_NoRing) = some false)
    (sb_AtStart_AtEnd : PySem.W.subIn K (.ref C_AtStart) (.ref C_AtEnd) = some false)
    (sb_AtStart_AtStart : PySem.W.subIn K (.ref C_AtStart) (.ref C_AtStart) = some true)
    (sb_AtStart_TooLong : PySem.W.subIn K (.ref C_AtStart) (.ref C_TooLong) = some false)
    (sb_AtStart_BadForm : PySem.W.subIn K (.ref C_AtStart) (.ref C_BadForm) = some false)
    (sb_AtStart_BadRecord : PySem.W.subIn K (.ref C_AtStart) (.ref C_BadRecord) = some false)
    (sb_AtStart_BadBlock : PySem.W.subIn K (.ref C_AtStart) (.ref C_BadBlock) = some false)
    (sb_AtStart_BadLabel : PySem.W.subIn K (.ref C_AtStart) (.ref C_BadLabel) = some false)
    (sb_AtStart_NoReel : PySem.W.subIn K (.ref C_AtStart) (.ref C_NoReel) = some false)
    (sb_AtStart_NoFile : PySem.W.subIn K (.ref C_AtStart) (.ref C_NoFile) = some false)
    (sb_AtStart_Kept : PySem.W.subIn K (.ref C_AtStart) (.ref C_Kept) = some false)
    (hg_TooLong : PySem.W.findIn K (.ref C_TooLong) "__getattribute__" = some (some (.builtin "BaseException.__getattribute__")))
    (hk_TooLong : PySem.W.findIn K (.ref C_TooLong) "__getattr__" = some none)
    (hd_TooLong : PySem.W.hasDictIn K C_TooLong = true)
    (ha_TooLong : PySem.W.findIn K (.ref C_TooLong) "__class__" = some (some (.builtin "object.__class__")))
    (hm_TooLong : PySem.W.mroIn K C_TooLong (.type "object") = some true)
    (sv_TooLong : PySem.W.subIn K (.ref C_TooLong) (.type "ValueError") = some true)
    (sb_TooLong_ReelError : PySem.W.subIn K (.ref C_TooLong) (.ref C_ReelError) = some true)
    (sb_TooLong_BadNumber : PySem.W.subIn K (.ref C_TooLong) (.ref C_BadNumber) = some false)
    (sb_TooLong_BadName : PySem.W.subIn K (.ref C_TooLong) (.ref C_BadName) = some false)
    (sb_TooLong_BadReel : PySem.W.subIn K (.ref C_TooLong) (.ref C_BadReel) = some false)
    (sb_TooLong_NoRing : PySem.W.subIn K (.ref C_TooLong) (.ref C_NoRing) = some false)
    (sb_TooLong_AtEnd : PySem.W.subIn K (.ref C_TooLong) (.ref C_AtEnd) = some false)
    (sb_TooLong_AtStart : PySem.W.subIn K (.ref C_TooLong) (.ref C_AtStart) = some false)
    (sb_TooLong_TooLong : PySem.W.subIn K (.ref C_TooLong) (.ref C_TooLong) = some true)
    (sb_TooLong_BadForm : PySem.W.subIn K (.ref C_TooLong) (.ref C_BadForm) = some false)
    (sb_TooLong_BadRecord : PySem.W.subIn K (.ref C_TooLong) (.ref C_BadRecord) = some false)
    (sb_TooLong_BadBlock : PySem.W.subIn K (.ref C_TooLong) (.ref C_BadBlock) = some false)
    (sb_TooLong_BadLabel : PySem.W.subIn K (.ref C_TooLong) (.ref C_BadLabel) = some false)
    (sb_TooLong_NoReel : PySem.W.subIn K (.ref C_TooLong) (.ref C_NoReel) = some false)
    (sb_TooLong_NoFile : PySem.W.subIn K (.ref C_TooLong) (.ref C_NoFile) = some false)
    (sb_TooLong_Kept : PySem.W.subIn K (.ref C_TooLong) (.ref C_Kept) = some false)
    : ∃ fd : FuncData, (∀ (s : Shared) (v : Value), BindsTo s fd ⟨[v], []⟩ [("_law_script", v)]) ∧ ∀ base : Heap, K.In base → base.Ns mainGlobals mg → FnOk l.prog w K mg base (L2.CX l.prog w) 7 fa fd ["_law_script"] (spLaw K) := by
  have e := hfa.symm.trans (PySem.W.mg_of X G a_law)
  cases e
  obtain ⟨T, ea, ed⟩ := txt_mk X G g_BadBlock x_BadBlock k_BadBlock b_BadBlock t_BadBlock g_BadLabel x_BadLabel k_BadLabel b_BadLabel t_BadLabel g_BadReel x_BadReel k_BadReel b_BadReel t_BadReel g_AtEnd x_AtEnd k_AtEnd b_AtEnd t_AtEnd g_NoReel x_NoReel k_NoReel b_NoReel t_NoReel g_TooLong x_TooLong k_TooLong b_TooLong t_TooLong g_NoFile g_NoRing x_NoRing k_NoRing b_NoRing t_NoRing g_BadNumber x_BadNumber k_BadNumber b_BadNumber t_BadNumber g_BadName x_BadName k_BadName b_BadName t_BadName g_BadRecord x_BadRecord k_BadRecord b_BadRecord t_BadRecord g_Kept g_AtStart x_AtStart k_AtStart b_AtStart t_AtStart g_ReelError x_ReelError k_ReelError b_ReelError t_ReelError g_BadForm x_BadForm k_BadForm b_BadForm t_BadForm g_Reel pg_Reel hd_Reel po_Reel sa_Reel mk_Reel kc_Reel a__wall l__wall c__wall k__wall a_is_whole l_is_whole c_is_whole k_is_whole a_look_number l_look_number c_look_number k_look_number a_is_name l_is_name c_is_name k_is_name a_look_name l_look_name c_look_name k_look_name a_cost l_cost c_cost k_cost a_is_block l_is_block c_is_block k_is_block a_Reel___init__ i_Reel___init__ l_Reel___init__ c_Reel___init__ k_Reel___init__ a_Reel_ring i_Reel_ring l_Reel_ring c_Reel_ring k_Reel_ring a_Reel_used i_Reel_used l_Reel_used c_Reel_used k_Reel_used a_Reel_is_near_end i_Reel_is_near_end l_Reel_is_near_end c_Reel_is_near_end k_Reel_is_near_end a_Reel_put i_Reel_put l_Reel_put c_Reel_put k_Reel_put a_Reel_write i_Reel_write l_Reel_write c_Reel_write k_Reel_write a_Reel_write_mark i_Reel_write_mark l_Reel_write_mark c_Reel_write_mark k_Reel_write_mark a_Reel_read i_Reel_read l_Reel_read c_Reel_read k_Reel_read a_Reel_read_back i_Reel_read_back l_Reel_read_back c_Reel_read_back k_Reel_read_back a_Reel_rewind i_Reel_rewind l_Reel_rewind c_Reel_rewind k_Reel_rewind a_Reel_skip i_Reel_skip l_Reel_skip c_Reel_skip k_Reel_skip a_Reel_skip_marks i_Reel_skip_marks l_Reel_skip_marks c_Reel_skip_marks k_Reel_skip_marks a_Reel_at i_Reel_at l_Reel_at c_Reel_at k_Reel_at a_Reel_content i_Reel_content l_Reel_content c_Reel_content k_Reel_content a_Reel_tear i_Reel_tear l_Reel_tear c_Reel_tear k_Reel_tear a_Reel_called i_Reel_called l_Reel_called c_Reel_called k_Reel_called a__law_town l__law_town c__law_town k__law_town a__law_draw l__law_draw c__law_draw k__law_draw a__law_pick l__law_pick c__law_pick k__law_pick a__law_refusal l__law_refusal c__law_refusal k__law_refusal a__law_made l__law_made c__law_made k__law_made a__law_does l__law_does c__law_does k__law_does a__law_asked l__law_asked c__law_asked k__law_asked a_law l_law c_law k_law g_c_SIGNS g_c_GAP g_c_MARK_LONG g_c_SPARE g_c_MOST_BLOCK g_c_MOST_LONG z_isinstance z_int z_bool z_str z_len z_all z_sum z_abs z_list z_ValueError n_Reel_serial n_Reel_length n_Reel_ringed n_Reel_stuff n_Reel_place hg_BadName hk_BadName hd_BadName ha_BadName hm_BadName hn_X ht_X rd_X ic_ReelError ic_BadNumber ic_BadName ic_BadReel ic_NoRing ic_AtEnd ic_AtStart ic_TooLong ic_BadForm ic_BadRecord ic_BadBlock ic_BadLabel ic_NoReel ic_NoFile t_NoFile ic_Kept t_Kept sv_BadName sb_BadName_ReelError sb_BadName_BadNumber sb_BadName_BadName sb_BadName_BadReel sb_BadName_NoRing sb_BadName_AtEnd sb_BadName_AtStart sb_BadName_TooLong sb_BadName_BadForm sb_BadName_BadRecord sb_BadName_BadBlock sb_BadName_BadLabel sb_BadName_NoReel sb_BadName_NoFile sb_BadName_Kept hg_BadNumber hk_BadNumber hd_BadNumber ha_BadNumber hm_BadNumber sv_BadNumber sb_BadNumber_ReelError sb_BadNumber_BadNumber sb_BadNumber_BadName sb_BadNumber_BadReel sb_BadNumber_NoRing sb_BadNumber_AtEnd sb_BadNumber_AtStart sb_BadNumber_TooLong sb_BadNumber_BadForm sb_BadNumber_BadRecord sb_BadNumber_BadBlock sb_BadNumber_BadLabel sb_BadNumber_NoReel sb_BadNumber_NoFile sb_BadNumber_Kept hg_NoRing hk_NoRing hd_NoRing ha_NoRing hm_NoRing sv_NoRing sb_NoRing_ReelError sb_NoRing_BadNumber sb_NoRing_BadName sb_NoRing_BadReel sb_NoRing_NoRing sb_NoRing_AtEnd sb_NoRing_AtStart sb_NoRing_TooLong sb_NoRing_BadForm sb_NoRing_BadRecord sb_NoRing_BadBlock sb_NoRing_BadLabel sb_NoRing_NoReel sb_NoRing_NoFile sb_NoRing_Kept hg_AtEnd hk_AtEnd hd_AtEnd ha_AtEnd hm_AtEnd sv_AtEnd sb_AtEnd_ReelError sb_AtEnd_BadNumber sb_AtEnd_BadName sb_AtEnd_BadReel sb_AtEnd_NoRing sb_AtEnd_AtEnd sb_AtEnd_AtStart sb_AtEnd_TooLong sb_AtEnd_BadForm sb_AtEnd_BadRecord sb_AtEnd_BadBlock sb_AtEnd_BadLabel sb_AtEnd_NoReel sb_AtEnd_NoFile sb_AtEnd_Kept hg_AtStart hk_AtStart hd_AtStart ha_AtStart hm_AtStart sv_AtStart sb_AtStart_ReelError sb_AtStart_BadNumber sb_AtStart_BadName sb_AtStart_BadReel sb_AtStart_NoRing sb_AtStart_AtEnd sb_AtStart_AtStart sb_AtStart_TooLong sb_AtStart_BadForm sb_AtStart_BadRecord sb_AtStart_BadBlock sb_AtStart_BadLabel sb_AtStart_NoReel sb_AtStart_NoFile sb_AtStart_Kept hg_TooLong hk_TooLong hd_TooLong ha_TooLong hm_TooLong sv_TooLong sb_TooLong_ReelError sb_TooLong_BadNumber sb_TooLong_BadName sb_TooLong_BadReel sb_TooLong_NoRing sb_TooLong_AtEnd sb_TooLong_AtStart sb_TooLong_TooLong sb_TooLong_BadForm sb_TooLong_BadRecord sb_TooLong_BadBlock sb_TooLong_BadLabel sb_TooLong_NoReel sb_TooLong_NoFile sb_TooLong_Kept
  refine ⟨T.law.d, fun s v => ?_, fun base _ _ => ?_⟩
  · rw [ed]; exact .of_eq rfl
  · rw [← ea]; exact ok_law T
end R
set_option maxRecDepth 100000
open PySem PySem.W PyProof.Rows
set_option maxRecDepth 100000 in
set_option maxHeartbeats 0 in
theorem PySem.Challenge.cw_reelrows_k02_reels_refused_holds : PySem.Challenge.rw_reelrows_k02_reels_refused.Holds := by
  w_on; o_law; k_head; (case hw => w_witness2)
  k_fill
  refine L2.walk_of (l := PySem.Challenge.rw_reelrows_k02_reels_refused) (n := 63) (k := 7) (x := "_law_script") (CX := fun w => L2.CX PySem.Challenge.rw_reelrows_k02_reels_refused.prog w) (sp := fun w => R.spLaw _) rfl (by decide) rfl ⟨rfl, by decide, by decide⟩ (fun w h Y => PySem.W.kIn_of Y) ?F (fun _ _ a ns hl _ hS => ⟨a, ns, rfl, hS, hl, fun _ => rfl⟩) (fun w H s e s' h => by obtain ⟨_, _, _, _, _, _, _, _, _, _, _, _, z⟩ := h; exact z)
  case F =>
    intro w mg fa h KX G hmg
    refine' R.all_mk KX G hmg ?g_BadBlock ?x_BadBlock ?k_BadBlock ?b_BadBlock ?t_BadBlock ?g_BadLabel ?x_BadLabel ?k_BadLabel ?b_BadLabel ?t_BadLabel ?g_BadReel ?x_BadReel ?k_BadReel ?b_BadReel ?t_BadReel ?g_AtEnd ?x_AtEnd ?k_AtEnd ?b_AtEnd ?t_AtEnd ?g_NoReel ?x_NoReel ?k_NoReel ?b_NoReel ?t_NoReel ?g_TooLong ?x_TooLong ?k_TooLong ?b_TooLong ?t_TooLong ?g_NoFile ?g_NoRing ?x_NoRing ?k_NoRing ?b_NoRing ?t_NoRing ?g_BadNumber ?x_BadNumber ?k_BadNumber ?b_BadNumber ?t_BadNumber ?g_BadName ?x_BadName ?k_BadName ?b_BadName ?t_BadName ?g_BadRecord ?x_BadRecord ?k_BadRecord ?b_BadRecord ?t_BadRecord ?g_Kept ?g_AtStart ?x_AtStart ?k_AtStart ?b_AtStart ?t_AtStart ?g_ReelError ?x_ReelError ?k_ReelError ?b_ReelError ?t_ReelError ?g_BadForm ?x_BadForm ?k_BadForm ?b_BadForm ?t_BadForm ?g_Reel ?pg_Reel ?hd_Reel ?po_Reel ?sa_Reel ?mk_Reel ?kc_Reel ?a__wall ?l__wall ?c__wall ?k__wall ?a_is_whole ?l_is_whole ?c_is_whole ?k_is_whole ?a_look_number ?l_look_number ?c_look_number ?k_look_number ?a_is_name ?l_is_name ?c_is_name ?k_is_name ?a_look_name ?l_look_name ?c_look_name ?k_look_name ?a_cost ?l_cost ?c_cost ?k_cost ?a_is_block ?l_is_block ?c_is_block ?k_is_block ?a_Reel___init__ ?i_Reel___init__ ?l_Reel___init__ ?c_Reel___init__ ?k_Reel___init__ ?a_Reel_ring ?i_Reel_ring ?l_Reel_ring ?c_Reel_ring ?k_Reel_ring ?a_Reel_used ?i_Reel_used ?l_Reel_used ?c_Reel_used ?k_Reel_used ?a_Reel_is_near_end ?i_Reel_is_near_end ?l_Reel_is_near_end ?c_Reel_is_near_end ?k_Reel_is_near_end ?a_Reel_put ?i_Reel_put ?l_Reel_put ?c_Reel_put ?k_Reel_put ?a_Reel_write ?i_Reel_write ?l_Reel_write ?c_Reel_write ?k_Reel_write ?a_Reel_write_mark ?i_Reel_write_mark ?l_Reel_write_mark ?c_Reel_write_mark ?k_Reel_write_mark ?a_Reel_read ?i_Reel_read ?l_Reel_read ?c_Reel_read ?k_Reel_read ?a_Reel_read_back ?i_Reel_read_back ?l_Reel_read_back ?c_Reel_read_back ?k_Reel_read_back ?a_Reel_rewind ?i_Reel_rewind ?l_Reel_rewind ?c_Reel_rewind ?k_Reel_rewind ?a_Reel_skip ?i_Reel_skip ?l_Reel_skip ?c_Reel_skip ?k_Reel_skip ?a_Reel_skip_marks ?i_Reel_skip_marks ?l_Reel_skip_marks ?c_Reel_skip_marks ?k_Reel_skip_marks ?a_Reel_at ?i_Reel_at ?l_Reel_at ?c_Reel_at ?k_Reel_at ?a_Reel_content ?i_Reel_content ?l_Reel_content ?c_Reel_content ?k_Reel_content ?a_Reel_tear ?i_Reel_tear ?l_Reel_tear ?c_Reel_tear ?k_Reel_tear ?a_Reel_called ?i_Reel_called ?l_Reel_called ?c_Reel_called ?k_Reel_called ?a__law_town ?l__law_town ?c__law_town ?k__law_town ?a__law_draw ?l__law_draw ?c__law_draw ?k__law_draw ?a__law_pick ?l__law_pick ?c__law_pick ?k__law_pick ?a__law_refusal ?l__law_refusal ?c__law_refusal ?k__law_refusal ?a__law_made ?l__law_made ?c__law_made ?k__law_made ?a__law_does ?l__law_does ?c__law_does ?k__law_does ?a__law_asked ?l__law_asked ?c__law_asked ?k__law_asked ?a_law ?l_law ?c_law ?k_law ?g_c_SIGNS ?g_c_GAP ?g_c_MARK_LONG ?g_c_SPARE ?g_c_MOST_BLOCK ?g_c_MOST_LONG ?z_isinstance ?z_int ?z_bool ?z_str ?z_len ?z_all ?z_sum ?z_abs ?z_list ?z_ValueError ?n_Reel_serial ?n_Reel_length ?n_Reel_ringed ?n_Reel_stuff ?n_Reel_place ?hg_BadName ?hk_BadName ?hd_BadName ?ha_BadName ?hm_BadName ?hn_X ?ht_X ?rd_X ?ic_ReelError ?ic_BadNumber ?ic_BadName ?ic_BadReel ?ic_NoRing ?ic_AtEnd ?ic_AtStart ?ic_TooLong ?ic_BadForm ?ic_BadRecord ?ic_BadBlock ?ic_BadLabel ?ic_NoReel ?ic_NoFile ?t_NoFile ?ic_Kept ?t_Kept ?sv_BadName ?sb_BadName_ReelError ?sb_BadName_BadNumber ?sb_BadName_BadName ?sb_BadName_BadReel ?sb_BadName_NoRing ?sb_BadName_AtEnd ?sb_BadName_AtStart ?sb_BadName_TooLong ?sb_BadName_BadForm ?sb_BadName_BadRecord ?sb_BadName_BadBlock ?sb_BadName_BadLabel ?sb_BadName_NoReel ?sb_BadName_NoFile ?sb_BadName_Kept ?hg_BadNumber ?hk_BadNumber ?hd_BadNumber ?ha_BadNumber ?hm_BadNumber ?sv_BadNumber ?sb_BadNumber_ReelError ?sb_BadNumber_BadNumber ?sb_BadNumber_BadName ?sb_BadNumber_BadReel ?sb_BadNumber_NoRing ?sb_BadNumber_AtEnd ?sb_BadNumber_AtStart ?sb_BadNumber_TooLong ?sb_BadNumber_BadForm ?sb_BadNumber_BadRecord ?sb_BadNumber_BadBlock ?sb_BadNumber_BadLabel ?sb_BadNumber_NoReel ?sb_BadNumber_NoFile ?sb_BadNumber_Kept ?hg_NoRing ?hk_NoRing ?hd_NoRing ?ha_NoRing ?hm_NoRing ?sv_NoRing ?sb_NoRing_ReelError ?sb_NoRing_BadNumber ?sb_NoRing_BadName ?sb_NoRing_BadReel ?sb_NoRing_NoRing ?sb_NoRing_AtEnd ?sb_NoRing_AtStart ?sb_NoRing_TooLong ?sb_NoRing_BadForm ?sb_NoRing_BadRecord ?sb_NoRing_BadBlock ?sb_NoRing_BadLabel ?sb_NoRing_NoReel ?sb_NoRing_NoFile ?sb_NoRing_Kept ?hg_AtEnd ?hk_AtEnd ?hd_AtEnd ?ha_AtEnd ?hm_AtEnd ?sv_AtEnd ?sb_AtEnd_ReelError ?sb_AtEnd_BadNumber ?sb_AtEnd_BadName ?sb_AtEnd_BadReel ?sb_AtEnd_NoRing ?sb_AtEnd_AtEnd ?sb_AtEnd_AtStart ?sb_AtEnd_TooLong ?sb_AtEnd_BadForm ?sb_AtEnd_BadRecord ?sb_AtEnd_BadBlock ?sb_AtEnd_BadLabel ?sb_AtEnd_NoReel ?sb_AtEnd_NoFile ?sb_AtEnd_Kept ?hg_AtStart ?hk_AtStart ?hd_AtStart ?ha_AtStart ?hm_AtStart ?sv_AtStart ?sb_AtStart_ReelError ?sb_AtStart_BadNumber ?sb_AtStart_BadName ?sb_AtStart_BadReel ?sb_AtStart_NoRing ?sb_AtStart_AtEnd ?sb_AtStart_AtStart ?sb_AtStart_TooLong ?sb_AtStart_BadForm ?sb_AtStart_BadRecord ?sb_AtStart_BadBlock ?sb_AtStart_BadLabel ?sb_AtStart_NoReel ?sb_AtStart_NoFile ?sb_AtStart_Kept ?hg_TooLong ?hk_TooLong ?hd_TooLong ?ha_TooLong ?hm_TooLong ?sv_TooLong ?sb_TooLong_ReelError ?sb_TooLong_BadNumber ?sb_TooLong_BadName ?sb_TooLong_BadReel ?sb_TooLong_NoRing ?sb_TooLong_AtEnd ?sb_TooLong_AtStart ?sb_TooLong_TooLong ?sb_TooLong_BadForm ?sb_TooLong_BadRecord ?sb_TooLong_BadBlock ?sb_TooLong_BadLabel ?sb_TooLong_NoReel ?sb_TooLong_NoFile ?sb_TooLong_Kept
    (case g_BadBlock => k_is)
    (case x_BadBlock => k_exc)
    (case k_BadBlock => k_is)
    (case b_BadBlock => k_is)
    (case t_BadBlock => k_is)
    (case g_BadLabel => k_is)
    (case x_BadLabel => k_exc)
    (case k_BadLabel => k_is)
    (case b_BadLabel => k_is)
    (case t_BadLabel => k_is)
    (case g_BadReel => k_is)
    (case x_BadReel => k_exc)
    (case k_BadReel => k_is)
    (case b_BadReel => k_is)
    (case t_BadReel => k_is)
    (case g_AtEnd => k_is)
    (case x_AtEnd => k_exc)
    (case k_AtEnd => k_is)
    (case b_AtEnd => k_is)
    (case t_AtEnd => k_is)
    (case g_NoReel => k_is)
    (case x_NoReel => k_exc)
    (case k_NoReel => k_is)
    (case b_NoReel => k_is)
    (case t_NoReel => k_is)
    (case g_TooLong => k_is)
    (case x_TooLong => k_exc)
    (case k_TooLong => k_is)
    (case b_TooLong => k_is)
    (case t_TooLong => k_is)
    (case g_NoFile => k_is)
    (case g_NoRing => k_is)
    (case x_NoRing => k_exc)
    (case k_NoRing => k_is)
    (case b_NoRing => k_is)
    (case t_NoRing => k_is)
    (case g_BadNumber => k_is)
    (case x_BadNumber => k_exc)
    (case k_BadNumber => k_is)
    (case b_BadNumber => k_is)
    (case t_BadNumber => k_is)
    (case g_BadName => k_is)
    (case x_BadName => k_exc)
    (case k_BadName => k_is)
    (case b_BadName => k_is)
    (case t_BadName => k_is)
    (case g_BadRecord => k_is)
    (case x_BadRecord => k_exc)
    (case k_BadRecord => k_is)
    (case b_BadRecord => k_is)
    (case t_BadRecord => k_is)
    (case g_Kept => k_is)
    (case g_AtStart => k_is)
    (case x_AtStart => k_exc)
    (case k_AtStart => k_is)
    (case b_AtStart => k_is)
    (case t_AtStart => k_is)
    (case g_ReelError => k_is)
    (case x_ReelError => k_exc)
    (case k_ReelError => k_is)
    (case b_ReelError => k_is)
    (case t_ReelError => k_is)
    (case g_BadForm => k_is)
    (case x_BadForm => k_exc)
    (case k_BadForm => k_is)
    (case b_BadForm => k_is)
    (case t_BadForm => k_is)
    (case g_Reel => k_is)
    (case pg_Reel => k_is)
    (case hd_Reel => k_is)
    (case po_Reel => k_is)
    (case sa_Reel => k_is)
    (case mk_Reel => k_is)
    (case kc_Reel => k_is)
    (case a__wall => k_is)
    (case l__wall => k_is)
    (case c__wall => k_is)
    (case k__wall => k_is)
    (case a_is_whole => k_is)
    (case l_is_whole => k_is)
    (case c_is_whole => k_is)
    (case k_is_whole => k_is)
    (case a_look_number => k_is)
    (case l_look_number => k_is)
    (case c_look_number => k_is)
    (case k_look_number => k_is)
    (case a_is_name => k_is)
    (case l_is_name => k_is)
    (case c_is_name => k_is)
    (case k_is_name => k_is)
    (case a_look_name => k_is)
    (case l_look_name => k_is)
    (case c_look_name => k_is)
    (case k_look_name => k_is)
    (case a_cost => k_is)
    (case l_cost => k_is)
    (case c_cost => k_is)
    (case k_cost => k_is)
    (case a_is_block => k_is)
    (case l_is_block => k_is)
    (case c_is_block => k_is)
    (case k_is_block => k_is)
    (case a_Reel___init__ => k_is)
    (case i_Reel___init__ => k_is)
    (case l_Reel___init__ => k_is)
    (case c_Reel___init__ => k_is)
    (case k_Reel___init__ => k_is)
    (case a_Reel_ring => k_is)
    (case i_Reel_ring => k_is)
    (case l_Reel_ring => k_is)
    (case c_Reel_ring => k_is)
    (case k_Reel_ring => k_is)
    (case a_Reel_used => k_is)
    (case i_Reel_used => k_is)
    (case l_Reel_used => k_is)
    (case c_Reel_used => k_is)
    (case k_Reel_used => k_is)
    (case a_Reel_is_near_end => k_is)
    (case i_Reel_is_near_end => k_is)
    (case l_Reel_is_near_end => k_is)
    (case c_Reel_is_near_end => k_is)
    (case k_Reel_is_near_end => k_is)
    (case a_Reel_put => k_is)
    (case i_Reel_put => k_is)
    (case l_Reel_put => k_is)
    (case c_Reel_put => k_is)
    (case k_Reel_put => k_is)
    (case a_Reel_write => k_is)
    (case i_Reel_write => k_is)
    (case l_Reel_write => k_is)
    (case c_Reel_write => k_is)
    (case k_Reel_write => k_is)
    (case a_Reel_write_mark => k_is)
    (case i_Reel_write_mark => k_is)
    (case l_Reel_write_mark => k_is)
    (case c_Reel_write_mark => k_is)
    (case k_Reel_write_mark => k_is)
    (case a_Reel_read => k_is)
    (case i_Reel_read => k_is)
    (case l_Reel_read => k_is)
    (case c_Reel_read => k_is)
    (case k_Reel_read => k_is)
    (case a_Reel_read_back => k_is)
    (case i_Reel_read_back => k_is)
    (case l_Reel_read_back => k_is)
    (case c_Reel_read_back => k_is)
    (case k_Reel_read_back => k_is)
    (case a_Reel_rewind => k_is)
    (case i_Reel_rewind => k_is)
    (case l_Reel_rewind => k_is)
    (case c_Reel_rewind => k_is)
    (case k_Reel_rewind => k_is)
    (case a_Reel_skip => k_is)
    (case i_Reel_skip => k_is)
    (case l_Reel_skip => k_is)
    (case c_Reel_skip => k_is)
    (case k_Reel_skip => k_is)
    (case a_Reel_skip_marks => k_is)
    (case i_Reel_skip_marks => k_is)
    (case l_Reel_skip_marks => k_is)
    (case c_Reel_skip_marks => k_is)
    (case k_Reel_skip_marks => k_is)
    (case a_Reel_at => k_is)
    (case i_Reel_at => k_is)
    (case l_Reel_at => k_is)
    (case c_Reel_at => k_is)
    (case k_Reel_at => k_is)
    (case a_Reel_content => k_is)
    (case i_Reel_content => k_is)
    (case l_Reel_content => k_is)
    (case c_Reel_content => k_is)
    (case k_Reel_content => k_is)
    (case a_Reel_tear => k_is)
    (case i_Reel_tear => k_is)
    (case l_Reel_tear => k_is)
    (case c_Reel_tear => k_is)
    (case k_Reel_tear => k_is)
    (case a_Reel_called => k_is)
    (case i_Reel_called => k_is)
    (case l_Reel_called => k_is)
    (case c_Reel_called => k_is)
    (case k_Reel_called => k_is)
    (case a__law_town => k_is)
    (case l__law_town => k_is)
    (case c__law_town => k_is)
    (case k__law_town => k_is)
    (case a__law_draw => k_is)
    (case l__law_draw => k_is)
    (case c__law_draw => k_is)
    (case k__law_draw => k_is)
    (case a__law_pick => k_is)
    (case l__law_pick => k_is)
    (case c__law_pick => k_is)
    (case k__law_pick => k_is)
    (case a__law_refusal => k_is)
    (case l__law_refusal => k_is)
    (case c__law_refusal => k_is)
    (case k__law_refusal => k_is)
    (case a__law_made => k_is)
    (case l__law_made => k_is)
    (case c__law_made => k_is)
    (case k__law_made => k_is)
    (case a__law_does => k_is)
    (case l__law_does => k_is)
    (case c__law_does => k_is)
    (case k__law_does => k_is)
    (case a__law_asked => k_is)
    (case l__law_asked => k_is)
    (case c__law_asked => k_is)
    (case k__law_asked => k_is)
    (case a_law => k_is)
    (case l_law => k_is)
    (case c_law => k_is)
    (case k_law => k_is)
    (case g_c_SIGNS => k_is)
    (case g_c_GAP => k_is)
    (case g_c_MARK_LONG => k_is)
    (case g_c_SPARE => k_is)
    (case g_c_MOST_BLOCK => k_is)
    (case g_c_MOST_LONG => k_is)
    (case z_isinstance => k_is)
    (case z_int => k_is)
    (case z_bool => k_is)
    (case z_str => k_is)
    (case z_len => k_is)
    (case z_all => k_is)
    (case z_sum => k_is)
    (case z_abs => k_is)
    (case z_list => k_is)
    (case z_ValueError => k_is)
    (case n_Reel_serial => k_is)
    (case n_Reel_length => k_is)
    (case n_Reel_ringed => k_is)
    (case n_Reel_stuff => k_is)
    (case n_Reel_place => k_is)
    (case hg_BadName => k_is)
    (case hk_BadName => k_is)
    (case hd_BadName => k_is)
    (case ha_BadName => k_is)
    (case hm_BadName => k_is)
    (case hn_X => k_is)
    (case ht_X => k_is)
    (case rd_X => k_is)
    (case ic_ReelError => k_is)
    (case ic_BadNumber => k_is)
    (case ic_BadName => k_is)
    (case ic_BadReel => k_is)
    (case ic_NoRing => k_is)
    (case ic_AtEnd => k_is)
    (case ic_AtStart => k_is)
    (case ic_TooLong => k_is)
    (case ic_BadForm => k_is)
    (case ic_BadRecord => k_is)
    (case ic_BadBlock => k_is)
    (case ic_BadLabel => k_is)
    (case ic_NoReel => k_is)
    (case ic_NoFile => k_is)
    (case t_NoFile => k_is)
    (case ic_Kept => k_is)
    (case t_Kept => k_is)
    (case sv_BadName => k_is)
    (case sb_BadName_ReelError => k_is)
    (case sb_BadName_BadNumber => k_is)
    (case sb_BadName_BadName => k_is)
    (case sb_BadName_BadReel => k_is)
    (case sb_BadName_NoRing => k_is)
    (case sb_BadName_AtEnd => k_is)
    (case sb_BadName_AtStart => k_is)
    (case sb_BadName_TooLong => k_is)
    (case sb_BadName_BadForm => k_is)
    (case sb_BadName_BadRecord => k_is)
    (case sb_BadName_BadBlock => k_is)
    (case sb_BadName_BadLabel => k_is)
    (case sb_BadName_NoReel => k_is)
    (case sb_BadName_NoFile => k_is)
    (case sb_BadName_Kept => k_is)
    (case hg_BadNumber => k_is)
    (case hk_BadNumber => k_is)
    (case hd_BadNumber => k_is)
    (case ha_BadNumber => k_is)
    (case hm_BadNumber => k_is)
    (case sv_BadNumber => k_is)
    (case sb_BadNumber_ReelError => k_is)
    (case sb_BadNumber_BadNumber => k_is)
    (case sb_BadNumber_BadName => k_is)
    (case sb_BadNumber_BadReel => k_is)
    (case sb_BadNumber_NoRing => k_is)
    (case sb_BadNumber_AtEnd => k_is)
    (case sb_BadNumber_AtStart => k_is)
    (case sb_BadNumber_TooLong => k_is)
    (case sb_BadNumber_BadForm => k_is)
    (case sb_BadNumber_BadRecord => k_is)
    (case sb_BadNumber_BadBlock => k_is)
    (case sb_BadNumber_BadLabel => k_is)
    (case sb_BadNumber_NoReel => k_is)
    (case sb_BadNumber_NoFile => k_is)
    (case sb_BadNumber_Kept => k_is)
    (case hg_NoRing => k_is)
    (case hk_NoRing => k_is)
    (case hd_NoRing => k_is)
    (case ha_NoRing => k_is)
    (case hm_NoRing => k_is)
    (case sv_NoRing => k_is)
    (case sb_NoRing_ReelError => k_is)
    (case sb_NoRing_BadNumber => k_is)
    (case sb_NoRing_BadName => k_is)
    (case sb_NoRing_BadReel => k_is)
    (case sb_NoRing_NoRing => k_is)
    (case sb_NoRing_AtEnd => k_is)
    (case sb_NoRing_AtStart => k_is)
    (case sb_NoRing_TooLong => k_is)
    (case sb_NoRing_BadForm => k_is)
    (case sb_NoRing_BadRecord => k_is)
    (case sb_NoRing_BadBlock => k_is)
    (case sb_NoRing_BadLabel => k_is)
    (case sb_NoRing_NoReel => k_is)
    (case sb_NoRing_NoFile => k_is)
    (case sb_NoRing_Kept => k_is)
    (case hg_AtEnd => k_is)
    (case hk_AtEnd => k_is)
    (case hd_AtEnd => k_is)
    (case ha_AtEnd => k_is)
    (case hm_AtEnd => k_is)
    (case sv_AtEnd => k_is)
    (case sb_AtEnd_ReelError => k_is)
    (case sb_AtEnd_BadNumber => k_is)
    (case sb_AtEnd_BadName => k_is)
    (case sb_AtEnd_BadReel => k_is)
    (case sb_AtEnd_NoRing => k_is)
    (case sb_AtEnd_AtEnd => k_is)
    (case sb_AtEnd_AtStart => k_is)
    (case sb_AtEnd_TooLong => k_is)
    (case sb_AtEnd_BadForm => k_is)
    (case sb_AtEnd_BadRecord => k_is)
    (case sb_AtEnd_BadBlock => k_is)
    (case sb_AtEnd_BadLabel => k_is)
    (case sb_AtEnd_NoReel => k_is)
    (case sb_AtEnd_NoFile => k_is)
    (case sb_AtEnd_Kept => k_is)
    (case hg_AtStart => k_is)
    (case hk_AtStart => k_is)
    (case hd_AtStart => k_is)
    (case ha_AtStart => k_is)
    (case hm_AtStart => k_is)
    (case sv_AtStart => k_is)
    (case sb_AtStart_ReelError => k_is)
    (case sb_AtStart_BadNumber => k_is)
    (case sb_AtStart_BadName => k_is)
    (case sb_AtStart_BadReel => k_is)
    (case sb_AtStart_NoRing => k_is)
    (case sb_AtStart_AtEnd => k_is)
    (case sb_AtStart_AtStart => k_is)
    (case sb_AtStart_TooLong => k_is)
    (case sb_AtStart_BadForm => k_is)
    (case sb_AtStart_BadRecord => k_is)
    (case sb_AtStart_BadBlock => k_is)
    (case sb_AtStart_BadLabel => k_is)
    (case sb_AtStart_NoReel => k_is)
    (case sb_AtStart_NoFile => k_is)
    (case sb_AtStart_Kept => k_is)
    (case hg_TooLong => k_is)
    (case hk_TooLong => k_is)
    (case hd_TooLong => k_is)
    (case ha_TooLong => k_is)
    (case hm_TooLong => k_is)
    (case sv_TooLong => k_is)
    (case sb_TooLong_ReelError => k_is)
    (case sb_TooLong_BadNumber => k_is)
    (case sb_TooLong_BadName => k_is)
    (case sb_TooLong_BadReel => k_is)
    (case sb_TooLong_NoRing => k_is)
    (case sb_TooLong_AtEnd => k_is)
    (case sb_TooLong_AtStart => k_is)
    (case sb_TooLong_TooLong => k_is)
    (case sb_TooLong_BadForm => k_is)
    (case sb_TooLong_BadRecord => k_is)
    (case sb_TooLong_BadBlock => k_is)
    (case sb_TooLong_BadLabel => k_is)
    (case sb_TooLong_NoReel => k_is)
    (case sb_TooLong_NoFile => k_is)
    (case sb_TooLong_Kept => k_is)
