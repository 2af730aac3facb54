import PyProof.Rows.All
import Wide.All
import OpenK.AllK
import Wide.FinOn
import HandS.ForMost
import HandS.Exc
import HandS.TryOnly
import HandS.ExcOwn
import HandS.WordsExc
import HandS.ExcIs
import HandS.IsInst
import HandS.Conv
import HandS.SortInts
import HandS.SortRule
import HandS.Deep
import HandS.Steps
import HandS.TupAny
import HandS.More
import KE.RegKIsAll
import PySem.Challenge.RW_shiftroom_k04_refused_in_order
set_option Elab.async false
set_option linter.all false
set_option maxRecDepth 100000
set_option maxHeartbeats 4000000
/-! Shiftroom: the rules that every def's proof here stands on. -/
namespace Shf
open PySem L2

/-- the addresses of the classes -/
structure Gd where
  w : World
  RoomError : Addr := 0
  NoSize : Addr := 0
  NoSeating : Addr := 0
  OtherSize : Addr := 0
  NoSeat : Addr := 0
  NoNumber : Addr := 0
  TooMany : Addr := 0
  Unreached : Addr := 0
  TooWide : Addr := 0
  NotRead : Addr := 0
  Room : Addr := 0
  Book : Addr := 0

/-! ### what an exception may be wished -/
abbrev wE (E : XK) : WX := fun cls d _ H => E cls d H
def tRaiseW (W : WX) (C : Addr) : TS := fun _ σ H => W (.ref C) none σ H
theorem passE0 {X : Cx} (σ : L2.St) : PassesAt (L2.CX X.prog X.w) X σ E0 := fun pins H s e s' I c => passL pins σ H s e s' I c
theorem cx_none {P : Program} {w : World} {H : Hp} {s : Shared} {e : Value} {s' : Shared} (z : L2.CX P w [] H s (fun _ _ _ => False) e s') : False := by
  obtain ⟨_, _, _, _, _, _, _, _, _, _, _, _, z⟩ := z
  exact z

/-! ### a def, a method, a class as a callee -/
structure Cal (P : Program) (w : World) (K : PySem.W.Frag) (mg : Str → Option Value) (base : Heap) (k : Nat) (x : Str) (ps : List Str) (sp : Sp) : Prop where mk' ::
  ex : ∃ f fd, mg x = some (.ref f) ∧ PySem.W.keepIn K (.ref f) = true ∧ Binds K fd ps [] ∧ FnOk P w K mg base (L2.CX P w) k f fd ps sp
theorem Cal.mk {P : Program} {w : World} {K : PySem.W.Frag} {mg : Str → Option Value} {base : Heap} {k : Nat} {x : Str} {ps : List Str} {sp : Sp} (f : Addr) (fd : FuncData) (a : mg x = some (.ref f)) (b : PySem.W.keepIn K (.ref f) = true) (c : Binds K fd ps []) (d : FnOk P w K mg base (L2.CX P w) k f fd ps sp) : Cal P w K mg base k x ps sp := ⟨⟨f, fd, a, b, c, d⟩⟩
structure CalM (P : Program) (w : World) (K : PySem.W.Frag) (mg : Str → Option Value) (base : Heap) (k : Nat) (C : Addr) (m : Str) (ps : List Str) (sp : Sp) : Prop where mk' ::
  ex : ∃ f fd, Meth K C m f ∧ Binds K fd ps [] ∧ FnOk P w K mg base (L2.CX P w) k f fd ps sp
theorem CalM.mk {P : Program} {w : World} {K : PySem.W.Frag} {mg : Str → Option Value} {base : Heap} {k : Nat} {C : Addr} {m : Str} {ps : List Str} {sp : Sp} (f : Addr) (fd : FuncData) (a : Meth K C m f) (c : Binds K fd ps []) (d : FnOk P w K mg base (L2.CX P w) k f fd ps sp) : CalM P w K mg base k C m ps sp := ⟨⟨f, fd, a, c, d⟩⟩
structure CalI (P : Program) (w : World) (K : PySem.W.Frag) (mg : Str → Option Value) (base : Heap) (k : Nat) (C : Addr) (ps : List Str) (sp : Sp) : Prop where mk' ::
  ex : ∃ f fd, Mk K C f ∧ Binds K fd ps [] ∧ FnOk P w K mg base (L2.CX P w) k f fd ps sp
theorem CalI.mk {P : Program} {w : World} {K : PySem.W.Frag} {mg : Str → Option Value} {base : Heap} {k : Nat} {C : Addr} {ps : List Str} {sp : Sp} (f : Addr) (fd : FuncData) (a : Mk K C f) (c : Binds K fd ps []) (d : FnOk P w K mg base (L2.CX P w) k f fd ps sp) : CalI P w K mg base k C ps sp := ⟨⟨f, fd, a, c, d⟩⟩

section
variable {X : Cx} {k : Nat} {x m : Str} {C : Addr} {ps : List Str} {sp : Sp} {E : L2.St → XK} {e o : Expr} {es : List Expr} {t : TA} {ta : TE} {p pos apos : Pos}
theorem pe_cal (c : Cal X.prog X.w X.K X.mg X.base k x ps sp) (hr : Room k X.A) (hg : Gl X x) (hx : ∀ σ, PassesAt (L2.CX X.prog X.w) X σ (E σ)) (ha : PA X (e :: es) t) (hdb : (x == ("__debug__" : Str)) = false := by decide)
    (he : starEach (e :: es) X.env = (false, eval e X.env) :: starEach es X.env := by rfl) (hpl : (backTo pos (starEach es X.env)).any (·.1) = false := by rfl) : PE X (.Call (.Name x p) (e :: es) [] pos) (tCallS sp E t) := by
  obtain ⟨f, fd, a, b, c, d⟩ := c.ex
  exact pe_callS d hr hg a b c hx ha hdb he hpl
theorem pe_cal0 (c : Cal X.prog X.w X.K X.mg X.base k x ps sp) (hr : Room k X.A) (hg : Gl X x) (hx : ∀ σ, PassesAt (L2.CX X.prog X.w) X σ (E σ)) (hdb : (x == ("__debug__" : Str)) = false := by decide) : PE X (.Call (.Name x p) [] [] pos) (tCallS sp E tNil) := by
  obtain ⟨f, fd, a, b, c, d⟩ := c.ex
  refine ⟨fun pins s σ H Q I h => ?_⟩
  refine wpAny_Call_Name_kw (ld_glob I hg a ?_ hdb)
  exact PySem.W.callWith_K0 I.kIn b (run_fnS (us := []) (vs := []) d hr c (hx σ) I .nil h)
def tMethS (C : Addr) (m : Str) (sp : Sp) (E : L2.St → XK) (ta : TE) (t : TA) : TE := fun σ H Q => ta σ H fun x H1 => ∃ a dx fs, x = .ref a ∧ H1 a = some (.ins C dx fs) ∧ fs.lookup m = none ∧
  t σ H1 fun vs H2 => sp (x :: vs) H2 Q (E σ)
theorem pe_calM {pl : Sem Bool} (he : PE X o ta) (c : Cls X.K C) (cm : CalM X.prog X.w X.K X.mg X.base k C m ps sp) (hr : Room k X.A) (hx : ∀ σ, PassesAt (L2.CX X.prog X.w) X σ (E σ)) (ha : PA X (e :: es) t)
    (hst : starEach (e :: es) X.env = (false, eval e X.env) :: starEach es X.env := by rfl) (hpl : (backTo pos (starEach es X.env)).any (·.1) = false := by rfl)
    (ht : eval (.Call (.Attribute o m apos) (e :: es) [] pos) X.env = (do
      let ov ← eval o X.env
      standAt apos.atName
      let (f, first) ← holding [ov] (getMethod ov m pl)
      callWith pos f first (backTo pos (starEach (e :: es) X.env)) (backToKw pos (keywordEach [] X.env))) := by rfl) : PE X (.Call (.Attribute o m apos) (e :: es) [] pos) (tMethS C m sp E ta t) := by
  obtain ⟨f, fd, hm, hb, d⟩ := cm.ex
  refine ⟨fun pins s σ H Q I h => ?_⟩
  refine PySem.W.methodCall_KW (pl := pl) (thn (he.run pins s σ H _ I h) fun u s1 ⟨x, H1, I1, rx, a, dx, fs, ex, ea, l, q⟩ => ?_) ht
  subst ex
  obtain rfl : u = Value.ref a := rx
  refine getmeth_ok I1 ea c hm l ?_
  refine PySem.W.callWith_K (first := [.ref a]) (h₀ := X.base) I.ok.mod.kin hm.kp (thn (ha.run pos pins s1 σ H1 _ I1 q) fun us s2 ⟨vs, H2, I2, r, q2⟩ => ⟨I2.kIn, ?_⟩) hst hpl
  exact run_fnS (us := .ref a :: us) (vs := .ref a :: vs) d hr hb (hx σ) I2 (.cons rfl r) q2
theorem pe_calM0 {pl : Sem Bool} (he : PE X o ta) (c : Cls X.K C) (cm : CalM X.prog X.w X.K X.mg X.base k C m ps sp) (hr : Room k X.A) (hx : ∀ σ, PassesAt (L2.CX X.prog X.w) X σ (E σ))
    (ht : eval (.Call (.Attribute o m apos) [] [] pos) X.env = (do
      let ov ← eval o X.env
      standAt apos.atName
      let (f, first) ← holding [ov] (getMethod ov m pl)
      callWith pos f first (backTo pos (starEach [] X.env)) (backToKw pos (keywordEach [] X.env))) := by rfl) : PE X (.Call (.Attribute o m apos) [] [] pos) (tMethS C m sp E ta tNil) := by
  obtain ⟨f, fd, hm, hb, d⟩ := cm.ex
  refine ⟨fun pins s σ H Q I h => ?_⟩
  refine PySem.W.methodCall_KW (pl := pl) (thn (he.run pins s σ H _ I h) fun u s1 ⟨x, H1, I1, rx, a, dx, fs, ex, ea, l, q⟩ => ?_) ht
  subst ex
  obtain rfl : u = Value.ref a := rx
  refine getmeth_ok I1 ea c hm l ?_
  exact PySem.W.callWith_K0 (first := [.ref a]) I1.kIn hm.kp (run_fnS (us := [.ref a]) (vs := [.ref a]) d hr hb (hx σ) I1 (.cons rfl .nil) q)
end

/-! ### operators by short names -/
def rAddI : R2 := rI0 fun i j => V.int (i + j)
def rSubI : R2 := rI0 fun i j => V.int (i - j)
def rMulI : R2 := rI CMul fun i j => V.int (i * j)
def rDivI : R2 := rI CDivN fun i j => V.int (i.fdiv j)
def rModI : R2 := rI (fun _ j => j ≠ 0) fun i j => V.int (i.fmod j)
def rPowI : R2 := rI CPow fun i j => V.int (i ^ j.toNat)
def rLtI : R2 := rI0 fun i j => V.bl (decide (i < j))
def rLeI : R2 := rI0 fun i j => V.bl (decide (i ≤ j))
def rGtI : R2 := rI0 fun i j => V.bl (decide (j < i))
def rGeI : R2 := rI0 fun i j => V.bl (decide (j ≤ i))
def rAddS : R2 := fun x y H Q => ∃ i j, x = V.str i ∧ y = V.str j ∧ i.length + j.length ≤ sizeLine ∧ Q (.str (i ++ j)) H
def rLenQ (K : PySem.W.Frag) : List V → Hp → VK → Prop := fun xs H Q => ∃ p ys, xs = [.ref p] ∧ (SqL K H p ys ∨ SqT K H p ys) ∧ Q (.int ys.length) H
def rLenDk : List V → Hp → VK → Prop := fun xs H Q => ∃ a kvs, xs = [V.ref a] ∧ H a = some (.dK kvs) ∧ Q (.int kvs.length) H
def rLenSt : List V → Hp → VK → Prop := fun xs H Q => ∃ z, xs = [.str z] ∧ z.length ≤ sizeLine ∧ Q (.int z.length) H
def rListOf (K : PySem.W.Frag) : List V → Hp → VK → Prop := fun xs H Q => ∃ p ys, xs = [.ref p] ∧ (SqL K H p ys ∨ SqT K H p ys) ∧ ∀ l, H l = none → Q (.ref l) (upd H l (.lst ys))
def rTupOf (K : PySem.W.Frag) : List V → Hp → VK → Prop := fun xs H Q => ∃ p ys, xs = [.ref p] ∧ ((SqL K H p ys ∧ ∀ l, H l = none → Q (.ref l) (upd H l (.tup ys))) ∨ (SqT K H p ys ∧ Q (.ref p) H))
def rStrI : List V → Hp → VK → Prop := fun xs H Q => ∃ i, xs = [.int i] ∧ i.natAbs.log2 < 1920 ∧ Q (.str (toString i)) H
def rIntS : List V → Hp → VK → Prop := fun xs H Q => ∃ a n, xs = [.str a] ∧ PySem.intText? a = some n ∧ a.length ≤ 640 ∧ Q (.int n) H
def rMax2 : List V → Hp → VK → Prop := fun xs H Q => ∃ i j, xs = [.int i, .int j] ∧ Q (.int (if j > i then j else i)) H
def rMin2 : List V → Hp → VK → Prop := fun xs H Q => ∃ i j, xs = [.int i, .int j] ∧ Q (.int (if j < i then j else i)) H
def rInsert : V → List V → Hp → VK → Prop := fun x vs H Q => ∃ (l : Addr) (xs : List V) (i : Int) (y : V), x = .ref l ∧ vs = [.int i, y] ∧ H l = some (.lst xs) ∧ xs.length < sizeLine ∧ 0 ≤ i ∧ i < 2 ^ 63 ∧
    Q .non (upd H l (.lst (xs.take i.toNat ++ [y] ++ xs.drop i.toNat)))
def rJoin (K : PySem.W.Frag) : V → List V → Hp → VK → Prop := fun x xs H Q => ∃ a p, ∃ ys : List Str, x = .str a ∧ xs = [.ref p] ∧ (SqL K H p (ys.map V.str) ∨ SqT K H p (ys.map V.str)) ∧
      (ys.map (·.length)).sum + ys.length * a.length ≤ 16777216 ∧ Q (.str (Txt.join a ys)) H
def rSplit : V → List V → Hp → VK → Prop := fun x xs H Q => ∃ a b, x = .str a ∧ xs = [.str b] ∧ (b.length == 0) = false ∧ a.length + 2 ≤ sizeLine ∧ rNewStrs (Txt.split a b) H Q
theorem hu65 {k : Nat} {A : Around} (hr : Room k A) : A.units + 65 < cLine := by have := hr.un; omega

section
variable {X : Cx}
theorem pe_globI {x : Str} {i : Int} {pos : Pos} (hm : ∃ t, X.mg x = some (.int i t)) (hg : Gl X x := by rfl) (hd : (x == ("__debug__" : Str)) = false := by decide) : PE X (.Name x pos) (tC (.int i)) := by
  obtain ⟨t, h⟩ := hm
  exact pe_glob hg h ⟨_, rfl⟩ hd
theorem pe_globS {x : Str} {i : Str} {pos : Pos} (hm : ∃ t, X.mg x = some (.str i t)) (hg : Gl X x := by rfl) (hd : (x == ("__debug__" : Str)) = false := by decide) : PE X (.Name x pos) (tC (.str i)) := by
  obtain ⟨t, h⟩ := hm
  exact pe_glob hg h ⟨_, rfl⟩ hd
end

/-! ### own exceptions -/
structure ExB (K : PySem.W.Frag) (mg : Str → Option Value) (x : Str) (D : Addr) : Prop where
  gC : mg x = some (.ref D)
  ex : PySem.W.excIn K D [.type "ValueError", .type "Exception", .type "BaseException", .type "object"] "ValueError.__new__" = true
  kC : PySem.W.keepIn K (.ref D) = true
  bC : PySem.W.subIn K (.ref D) (.type "BaseException") = some true
  tC : PySem.W.typeIn K (.ref D) = some (.type "type")
/-- isinstance(e, c) in an except suite that holds an exception of class cls -/
def rIsE2 (K : PySem.W.Frag) (cls : Value) (d : Option Addr) (a : Addr) : List V → Hp → VK → Prop := fun xs H Q => ∃ D, cls = .ref D ∧ d = none ∧ ExcC K D ∧ rIsE K D a xs H Q
theorem call_isE2 {X : Cx} {a : Addr} {oe : Obj} {cls : Value} {d : Option Addr} {pn : List (Addr × Obj)} (hz : Zc cls d oe) (hf : ∃ vs, oe.data = .fields vs) : CallR (X.suite a ((a, oe) :: pn)) (.builtin "isinstance") (rIsE2 X.K cls d a) := by
  intro pins s σ H xs us Q I r h
  obtain ⟨D, rfl, rfl, C, h⟩ := h
  exact call_isE C hz hf pins s σ H xs us Q I r h

/-! ### data -/
/-- numbers as values -/
abbrev vI (a : List Int) : List V := a.map V.int
abbrev vN (a : List Nat) : List V := a.map fun (n : Nat) => V.int (n : Int)
/-- a new tuple of numbers is handed back, all else as it was -/
def NewT (H : Hp) (a : List Nat) (Q : VK) : Prop := ∀ (r : Addr) (H' : Hp), Same H H' → H r = none → H' r = some (.tup (vN a)) → Q (.ref r) H'
theorem vN_at {a : List Nat} {i n : Nat} (h : a[i]? = some n) : (vN a)[i]? = some (V.int (n : Int)) := by
  show (a.map _)[i]? = _
  rw [List.getElem?_map, h] <;> rfl
theorem vI_at {a : List Int} {i : Nat} {n : Int} (h : a[i]? = some n) : (vI a)[i]? = some (V.int n) := by
  show (a.map _)[i]? = _
  rw [List.getElem?_map, h] <;> rfl
theorem getD_at {a : List Nat} {i : Nat} (h : i < a.length) : a[i]? = some (a.getD i 0) := by
  rw [List.getD_eq_getElem?_getD, List.getElem?_eq_getElem h] <;> rfl
theorem at_vN {a : List Nat} {z : Int} {i : Nat} (e : z = (i : Int)) (h : i < a.length) : atI (vN a) z = some (V.int ((a.getD i 0 : Nat) : Int)) := at_of e (vN_at (getD_at h))
theorem vN_eq (a : List Nat) : vN a = vI (a.map fun (n : Nat) => (n : Int)) := by
  show a.map _ = (a.map _).map _
  rw [List.map_map] <;> rfl
theorem vN_len (a : List Nat) : (vN a).length = a.length := List.length_map ..
theorem vI_len (a : List Int) : (vI a).length = a.length := List.length_map ..
theorem _root_.L2.Same.up {H H' : Hp} {p : Addr} {o : HO} (s : Same H H') (h : H p = none) : Same H (upd H' p o) := fun b u e => by
  rw [upd_ne (ne_of_none e h)]
  exact s b u e
theorem _root_.L2.Same.new {H H' : Hp} {p : Addr} {o : HO} (s : Same H H') (h : H' p = none) : Same H (upd H' p o) := s.up (s.free h)
theorem _root_.L2.Same.tup {K : PySem.W.Frag} {H H' : Hp} {a : Addr} {xs : List V} (e : Same H H') (h : SqT K H a xs) : SqT K H' a xs := by
  rcases h with (h | ⟨o, h⟩) | h
  · exact .inl (.inl (e _ _ h))
  · exact .inl (.inr ⟨o, e _ _ h⟩)
  · exact .inr h
theorem sqT {K : PySem.W.Frag} {H : Hp} {a : Addr} {xs : List V} (h : H a = some (.tup xs)) : SqT K H a xs := .inl (.inl h)
theorem sqL {K : PySem.W.Frag} {H : Hp} {a : Addr} {xs : List V} (h : H a = some (.lst xs)) : SqL K H a xs := .inl (.inl h)
theorem zl {n : Nat} (h : n ≤ 100000) : n ≤ sizeLine := Nat.le_trans h (by decide)
theorem zlt {n : Nat} (h : n < 100000) : n < sizeLine := Nat.lt_of_lt_of_le h (by decide)
theorem if_t {c : Bool} {A B : Prop} (hc : c = true) (h : A) : if c = true then A else B := by rw [if_pos hc]; exact h
theorem if_f {c : Bool} {A B : Prop} (hc : c = false) (h : B) : if c = true then A else B := by rw [hc, if_neg Bool.false_ne_true]; exact h
theorem if_d {c : Prop} [Decidable c] {A B : Prop} (h1 : c → A) (h2 : ¬ c → B) : if decide c = true then A else B := by
  by_cases h : c
  · exact if_t (decide_eq_true h) (h1 h)
  · exact if_f (decide_eq_false h) (h2 h)
theorem if_b {c : Bool} {A B : Prop} (h1 : c = true → A) (h2 : c = false → B) : if c = true then A else B := by
  cases c with
  | true => exact if_t rfl (h1 rfl)
  | false => exact if_f rfl (h2 rfl)
theorem fmod_pos {a b : Int} (h : 0 < b) : a.fmod b = a % b := Int.fmod_eq_emod_of_nonneg a (Int.le_of_lt h)
theorem fdiv_pos {a b : Int} (h : 0 < b) : a.fdiv b = a / b := Int.fdiv_eq_ediv_of_nonneg a (Int.le_of_lt h)
end Shf

/-! numbers, lists, permutations; steps of the reading by names -/
namespace Shf
open PySem L2
/-! ### steps: one a combinator -/
section
variable {K : PySem.W.Frag} {σ : L2.St} {H : Hp} {Q : VK} {QA : List V → Hp → Prop} {QB : Bool → Hp → Prop} {D : Ends} {te tf : TE} {ta : TA} {tt tu : TT} {t u : TS} {g : TG}
theorem w_seq (h : t { D with nx := u D } σ H) : tSeq t u D σ H := h
theorem w_asg {i : Nat} (h : te σ H fun x H1 => D.nx (σ.set i (some x)) H1) : tAsg te (gName i) D σ H := h
theorem w_asgS {to ti : TE} {r : TSet} (h : te σ H fun x H1 => to σ H1 fun o H1 => ti σ H1 fun i H2 => r o i x H2 fun H3 => D.nx σ H3) : tAsg te (gSub to ti r) D σ H := h
theorem w_drop (h : te σ H fun _ H1 => D.nx σ H1) : tDrop te D σ H := h
theorem w_ret (h : te σ H D.rt) : tRet te D σ H := h
theorem w_next (h : D.nx σ H) : tNext D σ H := h
theorem w_if (h : tt σ H fun b H1 => if b = true then t D σ H1 else u D σ H1) : tIfS tt t u D σ H := h
theorem w_var {i : Nat} {v : V} (e : σ[i]? = some (some v)) (q : Q v H) : tVar i σ H Q := ⟨v, e, q⟩
theorem w_c {v : V} (q : Q v H) : tC v σ H Q := q
theorem w_op {r : R2} (h : te σ H fun x H1 => tf σ H1 fun y H2 => r x y H2 Q) : tOp r te tf σ H Q := h
theorem w_un {r : V → Hp → VK → Prop} (h : te σ H fun x H1 => r x H1 Q) : tUn r te σ H Q := h
theorem w_nil (h : QA [] H) : tNil σ H QA := h
theorem w_cons (h : te σ H fun x H1 => ta σ H1 fun xs H2 => QA (x :: xs) H2) : tCons te ta σ H QA := h
theorem w_cb {r : List V → Hp → VK → Prop} (h : ta σ H fun vs H1 => r vs H1 Q) : tCB r ta σ H Q := h
theorem w_call {sp : Sp} {E : L2.St → XK} (h : ta σ H fun vs H1 => sp vs H1 Q (E σ)) : tCallS sp E ta σ H Q := h
theorem w_test (h : te σ H fun x H' => ∃ k, x = .bl k ∧ QB k H') : tTest te σ H QB := h
theorem w_b (h : te σ H fun x H' => ∃ k, x = .bl k ∧ QB k H') : tB te σ H QB := h
theorem w_bex {b : Bool} {P : Bool → Prop} (h : P b) : ∃ k, V.bl b = .bl k ∧ P k := ⟨b, rfl, h⟩
theorem w_and (h : tt σ H fun c H1 => if c = true then tu σ H1 QB else QB false H1) : tAnd tt tu σ H QB := h
theorem w_or (h : tt σ H fun c H1 => if c = true then QB true H1 else tu σ H1 QB) : tOr tt tu σ H QB := h
theorem w_orP {b c : Bool} (ht : ∀ R : Bool → Hp → Prop, R b H → tt σ H R) (hu : ∀ R : Bool → Hp → Prop, R c H → tu σ H R) (q : QB (b || c) H) : tOr tt tu σ H QB := by
  refine ht _ ?_
  cases b with
  | true => exact q
  | false => exact hu _ q
theorem w_andP {b c : Bool} (ht : ∀ R : Bool → Hp → Prop, R b H → tt σ H R) (hu : ∀ R : Bool → Hp → Prop, R c H → tu σ H R) (q : QB (b && c) H) : tAnd tt tu σ H QB := by
  refine ht _ ?_
  cases b with
  | true => exact hu _ q
  | false => exact q
theorem w_not (h : tt σ H fun c H1 => QB (!c) H1) : tNot tt σ H QB := h
theorem w_andV (h : te σ H fun x H1 => ∃ c, x = .bl c ∧ if c = true then tf σ H1 Q else Q (.bl false) H1) : tAndV te tf σ H Q := h
theorem w_orV (h : te σ H fun x H1 => ∃ c, x = .bl c ∧ if c = true then Q (.bl true) H1 else tf σ H1 Q) : tOrV te tf σ H Q := h
theorem w_notV (h : te σ H fun x H1 => ∃ c, x = .bl c ∧ Q (.bl (!c)) H1) : tNotV te σ H Q := h
theorem w_ife (h : tt σ H fun c H1 => if c = true then te σ H1 Q else tf σ H1 Q) : tIf tt te tf σ H Q := h
theorem w_add {i j : Int} (q : Q (.int (i + j)) H) : rAddI (.int i) (.int j) H Q := ⟨i, j, rfl, rfl, q⟩
theorem w_sub {i j : Int} (q : Q (.int (i - j)) H) : rSubI (.int i) (.int j) H Q := ⟨i, j, rfl, rfl, q⟩
theorem w_neg {i : Int} (q : Q (.int (-i)) H) : rU (fun i => V.int (-i)) (.int i) H Q := ⟨i, rfl, q⟩
theorem w_lt {i j : Int} (q : Q (.bl (decide (i < j))) H) : rLtI (.int i) (.int j) H Q := ⟨i, j, rfl, rfl, q⟩
theorem w_le {i j : Int} (q : Q (.bl (decide (i ≤ j))) H) : rLeI (.int i) (.int j) H Q := ⟨i, j, rfl, rfl, q⟩
theorem w_gt {i j : Int} (q : Q (.bl (decide (j < i))) H) : rGtI (.int i) (.int j) H Q := ⟨i, j, rfl, rfl, q⟩
theorem w_ge {i j : Int} (q : Q (.bl (decide (j ≤ i))) H) : rGeI (.int i) (.int j) H Q := ⟨i, j, rfl, rfl, q⟩
theorem w_tup (h : ta σ H fun xs H1 => xs.length ≤ sizeLine ∧ ∀ p, H1 p = none → Q (.ref p) (upd H1 p (.tup xs))) : tTup ta σ H Q := h
theorem w_lst (h : ta σ H fun xs H1 => xs.length ≤ sizeLine ∧ ∀ p, H1 p = none → Q (.ref p) (upd H1 p (.lst xs))) : tLst ta σ H Q := h
theorem w_lrg {tr : L2.St → Hp → (Int → Int → Hp → Prop) → Prop} (h : tr σ H fun a b H1 => RgOk a b ∧ ∀ q, H1 q = none → Q (.ref q) (upd H1 q (.lst (rgV a b)))) : tLstRg tr σ H Q := h
theorem w_trg {tr : L2.St → Hp → (Int → Int → Hp → Prop) → Prop} (h : tr σ H fun a b H1 => RgOk a b ∧ ∀ q, H1 q = none → Q (.ref q) (upd H1 q (.tup (rgV a b)))) : tTupRg tr σ H Q := h
theorem w_rg1 {QR : Int → Int → Hp → Prop} (h : te σ H fun x H1 => ∃ n, x = .int n ∧ QR 0 n H1) : tRg1 te σ H QR := h
theorem w_iex {i : Int} {P : Int → Prop} (h : P i) : ∃ n, V.int i = .int n ∧ P n := ⟨i, rfl, h⟩
theorem w_yes (q : QB true H) : tYes σ H QB := q
theorem w_bm {T : String} {r : V → List V → Hp → VK → Prop} (h : te σ H fun x H1 => tyV K T x H1 ∧ ta σ H1 fun xs H2 => r x xs H2 Q) : tBM K T r te ta σ H Q := h
theorem w_bm0 {T : String} {r : V → List V → Hp → VK → Prop} (h : te σ H fun x H1 => tyV K T x H1 ∧ r x [] H1 Q) : tBM0 K T r te σ H Q := h
end
/-- ways that meet: what holds where they meet -/
theorem w_join {t : TS} {D : Ends} {σ : L2.St} {H : Hp} (M : L2.St → Hp → Prop) (key : ∀ σ' H', M σ' H' → D.nx σ' H') (h : (∀ σ' H', M σ' H' → D.nx σ' H') → t D σ H) : t D σ H := h key
/-- for .. in range(n), behind n's reading -/
theorem w_for1 {σ : L2.St} {H : Hp} {D : Ends} {i n : Nat} {t : TS} (hn : n ≤ 1000000) (Pv : Nat → L2.St → Hp → Prop) (h0 : Pv 0 σ H)
    (hs : ∀ k σ H, k < n → Pv k σ H → t { D with nx := Pv (k + 1), ct := Pv (k + 1), bk := D.nx } (σ.set i (some (.int (k : Int)))) H) (hd : ∀ σ H, Pv n σ H → D.nx σ H) :
    ∃ j : Int, [V.int (n : Int)] = [.int j] ∧ -(2 ^ 62) ≤ j ∧ j < 2 ^ 62 ∧ ∃ W : Nat → Nat → L2.St → Hp → Prop, (∃ m, W 0 m σ H) ∧ ∀ i' m σ H, W i' m σ H →
      ((Itr 0 j.toNat).stop i' H ∧ D.nx σ H) ∨ ((Itr 0 j.toNat).go i' H ∧ ∃ N : L2.St → Hp → Prop, (∀ σ' H', N σ' H' → ∃ m', m' < m ∧ W (i' + 1) m' σ' H') ∧ ∀ x H', (Itr 0 j.toNat).yld i' H x H' → gName i x σ H' fun σ2 H2 => t { D with nx := N, ct := N, bk := D.nx } σ2 H2) :=
  ⟨_, rfl, by omega, by omega, for_range (n := n) Pv h0 (fun k σ H hk p => by
    show t _ (σ.set i (some (V.int (0 + (k : Int))))) H
    rw [Int.zero_add]
    exact hs k σ H hk p) hd⟩
theorem w_for {σ : L2.St} {H : Hp} {D : Ends} {wi : TI} {g : TG} {tb : TS} (h : wi σ H fun J H1 => ∃ W : Nat → Nat → L2.St → Hp → Prop, (∃ m, W 0 m σ H1) ∧ ∀ i m σ H, W i m σ H →
  (J.stop i H ∧ D.nx σ H) ∨ (J.go i H ∧ ∃ N : L2.St → Hp → Prop, (∀ σ' H', N σ' H' → ∃ m', m' < m ∧ W (i + 1) m' σ' H') ∧ ∀ x H', J.yld i H x H' → g x σ H' fun σ2 H2 => tb { D with nx := N, ct := N, bk := D.nx } σ2 H2)) : tFor wi g tb D σ H := h
theorem w_irng1 {σ : L2.St} {H : Hp} {ta : TA} {R : It → Hp → Prop} (h : ta σ H fun vs H1 => ∃ j : Int, vs = [.int j] ∧ -(2 ^ 62) ≤ j ∧ j < 2 ^ 62 ∧ R (Itr 0 j.toNat) H1) : iRng1 ta σ H R := h
theorem w_irng2 {σ : L2.St} {H : Hp} {ta : TA} {R : It → Hp → Prop} (h : ta σ H fun vs H1 => ∃ i j : Int, vs = [.int i, .int j] ∧ (-(2 ^ 62) ≤ i ∧ i < 2 ^ 62 ∧ -(2 ^ 62) ≤ j ∧ j < 2 ^ 62) ∧ R (Itr i (j - i).toNat) H1) : iRng2 ta σ H R := h
theorem w_ilist {K : PySem.W.Frag} {σ : L2.St} {H : Hp} {te : TE} {R : It → Hp → Prop} (h : te σ H fun x H1 => ∃ a, x = .ref a ∧ (∃ xs, SqL K H1 a xs) ∧ R (Itl K a) H1) : iList K te σ H R := h
theorem w_itup {K : PySem.W.Frag} {σ : L2.St} {H : Hp} {te : TE} {R : It → Hp → Prop} (h : te σ H fun x H1 => ∃ a, x = .ref a ∧ (∃ xs, SqT K H1 a xs) ∧ R (Itt K a) H1) : iTup K te σ H R := h
/-! ### steps -/
section
variable {K : PySem.W.Frag} {H : Hp} {Q : VK} {p : Addr}
theorem ix_LN {a : List Nat} {z : Int} {i : Nat} (h : SqL K H p (vN a)) (hi : i < a.length) (e : z = (i : Int)) (q : Q (.int ((a.getD i 0 : Nat) : Int)) H) : rIxL K (.ref p) (.int z) H Q := ⟨p, _, _, _, rfl, rfl, h, at_vN e hi, q⟩
theorem ix_TN {a : List Nat} {z : Int} {i : Nat} (h : SqT K H p (vN a)) (hi : i < a.length) (e : z = (i : Int)) (q : Q (.int ((a.getD i 0 : Nat) : Int)) H) : rIxT K (.ref p) (.int z) H Q := ⟨p, _, _, _, rfl, rfl, h, at_vN e hi, q⟩
theorem ix_L {xs : List V} {z : Int} {i : Nat} {v : V} (h : SqL K H p xs) (hi : xs[i]? = some v) (e : z = (i : Int)) (q : Q v H) : rIxL K (.ref p) (.int z) H Q := ⟨p, _, _, _, rfl, rfl, h, at_of e hi, q⟩
theorem ix_T {xs : List V} {z : Int} {i : Nat} {v : V} (h : SqT K H p xs) (hi : xs[i]? = some v) (e : z = (i : Int)) (q : Q v H) : rIxT K (.ref p) (.int z) H Q := ⟨p, _, _, _, rfl, rfl, h, at_of e hi, q⟩
theorem len_L {xs : List V} (h : SqL K H p xs) (q : Q (.int (xs.length : Nat)) H) : rLenQ K [.ref p] H Q := ⟨p, xs, rfl, .inl h, q⟩
theorem len_T {xs : List V} (h : SqT K H p xs) (q : Q (.int (xs.length : Nat)) H) : rLenQ K [.ref p] H Q := ⟨p, xs, rfl, .inr h, q⟩
theorem len_LN {a : List Nat} (h : SqL K H p (vN a)) (q : Q (.int (a.length : Nat)) H) : rLenQ K [.ref p] H Q := ⟨p, _, rfl, .inl h, by rw [vN_len]; exact q⟩
theorem len_TN {a : List Nat} (h : SqT K H p (vN a)) (q : Q (.int (a.length : Nat)) H) : rLenQ K [.ref p] H Q := ⟨p, _, rfl, .inr h, by rw [vN_len]; exact q⟩
theorem len_TI {a : List Int} (h : SqT K H p (vI a)) (q : Q (.int (a.length : Nat)) H) : rLenQ K [.ref p] H Q := ⟨p, _, rfl, .inr h, by rw [vI_len]; exact q⟩
theorem len_LI {a : List Int} (h : SqL K H p (vI a)) (q : Q (.int (a.length : Nat)) H) : rLenQ K [.ref p] H Q := ⟨p, _, rfl, .inl h, by rw [vI_len]; exact q⟩
theorem eq_I {i j : Int} (q : Q (.bl (decide (i = j))) H) : rEq (.int i) (.int j) H Q := ⟨rfl, by
  have e : decide (V.int i = V.int j) = decide (i = j) := by
    by_cases h : i = j
    · rw [decide_eq_true h, decide_eq_true (by rw [h])]
    · rw [decide_eq_false h, decide_eq_false (fun z => h (V.int.inj z))]
  rw [e]; exact q⟩
theorem ne_I {i j : Int} (q : Q (.bl (!decide (i = j))) H) : rNe (.int i) (.int j) H Q := ⟨rfl, by
  have e : decide (V.int i = V.int j) = decide (i = j) := by
    by_cases h : i = j
    · rw [decide_eq_true h, decide_eq_true (by rw [h])]
    · rw [decide_eq_false h, decide_eq_false (fun z => h (V.int.inj z))]
  rw [e]; exact q⟩
theorem eq_B {i j : Bool} (q : Q (.bl (i == j)) H) : rEq (.bl i) (.bl j) H Q := ⟨rfl, by
  have e : decide (V.bl i = V.bl j) = (i == j) := by cases i <;> cases j <;> decide
  rw [e]; exact q⟩
theorem ne_B {i j : Bool} (q : Q (.bl (i != j)) H) : rNe (.bl i) (.bl j) H Q := ⟨rfl, by
  have e : (!decide (V.bl i = V.bl j)) = (i != j) := by cases i <;> cases j <;> decide
  rw [e]; exact q⟩
/-- % and // by a positive number below 2 ^ 30 -/
theorem mod_I {i j : Int} (h : 0 < j) (q : Q (.int (i % j)) H) : rModI (.int i) (.int j) H Q := ⟨i, j, rfl, rfl, by omega, by show Q (.int (i.fmod j)) H; rw [fmod_pos h]; exact q⟩
theorem div_I {i j : Int} (h : 0 < j) (h2 : j < 1073741824) (q : Q (.int (i / j)) H) : rDivI (.int i) (.int j) H Q := ⟨i, j, rfl, rfl, ⟨by omega, by omega⟩, by show Q (.int (i.fdiv j)) H; rw [fdiv_pos h]; exact q⟩
theorem mul_I {i j : Int} (h : (-(2 ^ 64) < i ∧ i < 2 ^ 64) ∨ (-(2 ^ 64) < j ∧ j < 2 ^ 64)) (q : Q (.int (i * j)) H) : rMulI (.int i) (.int j) H Q := ⟨i, j, rfl, rfl, h, q⟩
theorem seqIx {i n : Nat} {z : Int} (e : z = (i : Int)) (h : i < n) : seqIndex? z n = some i := by
  subst e
  unfold seqIndex?
  first
    | (rw [if_neg (by omega), if_pos (by omega)]; rfl)
    | (simp; omega)
theorem eraseIdx_map' {α β : Type} (f : α → β) : ∀ (l : List α) (i : Nat), (l.map f).eraseIdx i = (l.eraseIdx i).map f
  | [], _ => rfl
  | _ :: _, 0 => rfl
  | a :: l, i + 1 => by
    show f a :: (l.map f).eraseIdx i = f a :: (l.eraseIdx i).map f
    rw [eraseIdx_map' f l i]
theorem pop_N {a : List Nat} {z : Int} {i : Nat} (h : H p = some (.lst (vN a))) (hi : i < a.length) (hz : a.length ≤ 100000) (e : z = (i : Int)) (q : Q (.int ((a.getD i 0 : Nat) : Int)) (upd H p (.lst (vN (a.eraseIdx i))))) : rPopAt (.ref p) [.int z] H Q := by
  refine ⟨p, _, z, i, _, rfl, rfl, h, by omega, by omega, seqIx e (by rw [vN_len]; exact hi), vN_at (getD_at hi), ?_⟩
  have e2 : (vN a).eraseIdx i = vN (a.eraseIdx i) := by
    show (a.map _).eraseIdx i = (a.eraseIdx i).map _
    exact eraseIdx_map' _ _ _
  rw [e2]
  exact q
theorem app_N {a : List Nat} {n : Nat} (h : H p = some (.lst (vN a))) (hz : a.length < 100000) (q : Q .non (upd H p (.lst (vN (a ++ [n]))))) : rAppend (.ref p) [.int (n : Int)] H Q :=
  ⟨p, _, _, rfl, rfl, h, by rw [vN_len]; exact zlt hz, by
    have e : vN a ++ [V.int (n : Int)] = vN (a ++ [n]) := by
      show a.map _ ++ _ = (a ++ [n]).map _
      rw [List.map_append] <;> rfl
    rw [e]; exact q⟩
theorem app_V {xs : List V} {v : V} (h : H p = some (.lst xs)) (hz : xs.length < 100000) (q : Q .non (upd H p (.lst (xs ++ [v])))) : rAppend (.ref p) [v] H Q := ⟨p, _, _, rfl, rfl, h, zlt hz, q⟩
theorem isL {xs : List V} (h : SqL K H p xs) : tyV K "list" (.ref p) H := .inl ⟨rfl, _, h⟩
theorem tup_L {xs : List V} (h : SqL K H p xs) (q : ∀ l, H l = none → Q (.ref l) (upd H l (.tup xs))) : rTupOf K [.ref p] H Q := ⟨p, xs, rfl, .inl ⟨h, q⟩⟩
end
theorem rgV_N (n : Nat) : rgV 0 (n : Int) = vN (List.range n) := by
  show (List.range ((n : Int) - 0).toNat).map _ = (List.range n).map _
  have e : ((n : Int) - 0).toNat = n := by omega
  rw [e]
  refine List.map_congr_left fun i _ => ?_
  show V.int (0 + (i : Nat)) = V.int (i : Int)
  rw [Int.zero_add]
theorem rgOk_N {n : Nat} (h : n ≤ 100000) : RgOk 0 (n : Int) := .of_le (by omega) (by omega) (by omega) (by omega)

/-! ### permutations of 0 .. n - 1 -/
/-- the numbers 0 .. n - 1 in some order -/
def IsP (n : Nat) (a : List Nat) : Prop := a.Perm (List.range n)
theorem IsP.len {n : Nat} {a : List Nat} (h : IsP n a) : a.length = n := by rw [List.Perm.length_eq h, List.length_range]
theorem IsP.lt {n : Nat} {a : List Nat} (h : IsP n a) {x : Nat} (m : x ∈ a) : x < n := List.mem_range.mp ((List.Perm.mem_iff h).mp m)
theorem IsP.mem {n : Nat} {a : List Nat} (h : IsP n a) {x : Nat} (m : x < n) : x ∈ a := (List.Perm.mem_iff h).mpr (List.mem_range.mpr m)
theorem IsP.nd {n : Nat} {a : List Nat} (h : IsP n a) : a.Nodup := (List.Perm.nodup_iff h).mpr List.nodup_range
theorem IsP.getD_lt {n : Nat} {a : List Nat} (h : IsP n a) {i : Nat} (m : i < n) : a.getD i 0 < n := by
  have e := getD_at (a := a) (i := i) (by rw [h.len]; exact m)
  exact h.lt (List.mem_of_getElem? e)
theorem nd_sub_len {α : Type} [DecidableEq α] : ∀ {a m : List α}, a.Nodup → (∀ x ∈ a, x ∈ m) → a.length ≤ m.length
  | [], _, _, _ => Nat.zero_le _
  | x :: r, m, nd, hs => by
    obtain ⟨hx, nr⟩ := List.nodup_cons.mp nd
    have hm : x ∈ m := hs x List.mem_cons_self
    have ih : r.length ≤ (m.erase x).length := nd_sub_len nr fun y hy => by
      have hne : y ≠ x := fun e => hx (by rw [← e]; exact hy)
      exact (List.mem_erase_of_ne hne).mpr (hs y (List.mem_cons_of_mem _ hy))
    rw [List.length_erase_of_mem hm] at ih
    have : 0 < m.length := List.length_pos_of_mem hm
    show r.length + 1 ≤ _
    omega
/-- a list without twice the same, as long as it is told to be within m's: all of m -/
theorem perm_of_nd_sub : ∀ {a m : List Nat}, a.Nodup → (∀ x ∈ a, x ∈ m) → m.length ≤ a.length → a.Perm m
  | [], m, _, _, hl => by
    have : m = [] := List.length_eq_zero_iff.mp (Nat.le_zero.mp hl)
    rw [this]
  | x :: r, m, nd, hs, hl => by
    obtain ⟨hx, nr⟩ := List.nodup_cons.mp nd
    have hm : x ∈ m := hs x List.mem_cons_self
    have p1 : m.Perm (x :: m.erase x) := List.perm_cons_erase hm
    have ih : r.Perm (m.erase x) := by
      refine perm_of_nd_sub nr (fun y hy => ?_) ?_
      · have hne : y ≠ x := fun e => hx (e ▸ hy)
        exact (List.mem_erase_of_ne hne).mpr (hs y (List.mem_cons_of_mem _ hy))
      · rw [List.length_erase_of_mem hm]
        have : (x :: r).length = r.length + 1 := rfl
        omega
    exact (List.Perm.cons x ih).trans p1.symm
theorem isP_of_nd {n : Nat} {a : List Nat} (nd : a.Nodup) (hl : a.length = n) (hlt : ∀ x ∈ a, x < n) : IsP n a :=
  perm_of_nd_sub nd (fun x hx => List.mem_range.mpr (hlt x hx)) (by rw [List.length_range, hl]; exact Nat.le_refl n)
theorem isP_of_all {n : Nat} {a : List Nat} (hl : a.length = n) (h : ∀ k, k < n → k ∈ a) : IsP n a :=
  (perm_of_nd_sub List.nodup_range (fun x hx => h x (List.mem_range.mp hx)) (by rw [List.length_range, hl]; exact Nat.le_refl n)).symm

/-! ### joined and turned -/
def jn (a b : List Nat) : List Nat := a.map fun k => b.getD k 0
theorem jn_len (a b : List Nat) : (jn a b).length = a.length := List.length_map ..
theorem jn_get {a b : List Nat} {i : Nat} (h : i < a.length) : (jn a b).getD i 0 = b.getD (a.getD i 0) 0 := by
  unfold jn
  rw [List.getD_eq_getElem?_getD, List.getElem?_map, getD_at h] <;> rfl
theorem ext_getD {a b : List Nat} (hl : a.length = b.length) (h : ∀ i, i < a.length → a.getD i 0 = b.getD i 0) : a = b := by
  refine List.ext_getElem? fun i => ?_
  by_cases hi : i < a.length
  · rw [getD_at hi, getD_at (hl ▸ hi), h i hi]
  · rw [List.getElem?_eq_none (by omega), List.getElem?_eq_none (by omega)]
theorem nd_getD {a : List Nat} (nd : a.Nodup) {i j : Nat} (hi : i < a.length) (hj : j < a.length) (e : a.getD i 0 = a.getD j 0) : i = j := nd_ix nd (getD_at hi) (by rw [getD_at hj, e])
theorem nd_of_getD {a : List Nat} (h : ∀ i j, i < a.length → j < a.length → a.getD i 0 = a.getD j 0 → i = j) : a.Nodup := by
  refine List.pairwise_iff_getElem.mpr fun i j hi hj hij e => ?_
  have := h i j hi hj (by rw [List.getD_eq_getElem?_getD, List.getD_eq_getElem?_getD, List.getElem?_eq_getElem hi, List.getElem?_eq_getElem hj, e])
  omega
theorem isP_jn {n : Nat} {a b : List Nat} (ha : IsP n a) (hb : IsP n b) : IsP n (jn a b) := by
  refine isP_of_nd (nd_of_getD fun i j hi hj e => ?_) (by rw [jn_len, ha.len]) fun x hx => ?_
  · rw [jn_len] at hi hj
    rw [jn_get hi, jn_get hj] at e
    have hi' : a.getD i 0 < b.length := by rw [hb.len]; exact ha.getD_lt (by rw [← ha.len]; exact hi)
    have hj' : a.getD j 0 < b.length := by rw [hb.len]; exact ha.getD_lt (by rw [← ha.len]; exact hj)
    exact nd_getD ha.nd hi hj (nd_getD hb.nd hi' hj' e)
  · obtain ⟨k, hk, rfl⟩ := List.mem_map.mp hx
    exact hb.getD_lt (ha.lt hk)
theorem isP_id (n : Nat) : IsP n (List.range n) := List.Perm.refl _
/-- the way back as the program makes it -/
def trnSt (a : List Nat) (k : Nat) : List Nat := (List.range k).foldl (fun row i => row.set (a.getD i 0) i) (List.replicate a.length 0)
def trn (a : List Nat) : List Nat := trnSt a a.length
theorem trnSt_succ (a : List Nat) (k : Nat) : trnSt a (k + 1) = (trnSt a k).set (a.getD k 0) k := by
  unfold trnSt
  rw [List.range_succ, List.foldl_append] <;> rfl
theorem trnSt_len (a : List Nat) : ∀ k, (trnSt a k).length = a.length
  | 0 => List.length_replicate
  | k + 1 => by rw [trnSt_succ, List.length_set, trnSt_len a k]
theorem trnSt_get {n : Nat} {a : List Nat} (h : IsP n a) : ∀ k, k ≤ n → ∀ i, i < k → (trnSt a k).getD (a.getD i 0) 0 = i
  | 0, _, i, hi => absurd hi (Nat.not_lt_zero i)
  | k + 1, hk, i, hi => by
    have hka : k < a.length := by rw [h.len]; omega
    rw [trnSt_succ, List.getD_eq_getElem?_getD]
    by_cases e : i = k
    · subst e
      rw [List.getElem?_set_self (by rw [trnSt_len, h.len]; exact h.getD_lt (by omega))] <;> rfl
    · have hne : a.getD k 0 ≠ a.getD i 0 := fun z => e (nd_getD h.nd (by omega) hka z.symm)
      rw [List.getElem?_set_ne hne, ← List.getD_eq_getElem?_getD]
      exact trnSt_get h k (by omega) i (by omega)
theorem trn_len (a : List Nat) : (trn a).length = a.length := trnSt_len a _
theorem trn_get {n : Nat} {a : List Nat} (h : IsP n a) {i : Nat} (hi : i < n) : (trn a).getD (a.getD i 0) 0 = i := trnSt_get h a.length (by rw [h.len]; exact Nat.le_refl n) i (by rw [h.len]; exact hi)
theorem isP_get_of {n : Nat} {a : List Nat} (h : IsP n a) {x : Nat} (hx : x < n) : ∃ i, i < n ∧ a.getD i 0 = x := by
  obtain ⟨i, hi, e⟩ := List.getElem_of_mem (h.mem hx)
  refine ⟨i, by rw [← h.len]; exact hi, ?_⟩
  rw [List.getD_eq_getElem?_getD, List.getElem?_eq_getElem hi, e] <;> rfl
theorem isP_trn {n : Nat} {a : List Nat} (h : IsP n a) : IsP n (trn a) := by
  refine isP_of_all (by rw [trn_len, h.len]) fun k hk => ?_
  have e := trn_get h hk
  have hl : a.getD k 0 < (trn a).length := by rw [trn_len, h.len]; exact h.getD_lt hk
  have m := List.mem_of_getElem? (getD_at hl)
  rw [e] at m
  exact m
theorem trn_get' {n : Nat} {a : List Nat} (h : IsP n a) {x : Nat} (hx : x < n) : a.getD ((trn a).getD x 0) 0 = x := by
  obtain ⟨i, hi, e⟩ := isP_get_of h hx
  rw [← e, trn_get h hi]
theorem jn_trn {n : Nat} {a : List Nat} (h : IsP n a) : jn a (trn a) = List.range n := by
  refine ext_getD (by rw [jn_len, h.len, List.length_range]) fun i hi => ?_
  rw [jn_len] at hi
  have hi' : i < n := by rw [← h.len]; exact hi
  rw [jn_get hi, trn_get h hi', List.getD_eq_getElem?_getD, List.getElem?_range hi'] <;> rfl
theorem trn_jn {n : Nat} {a : List Nat} (h : IsP n a) : jn (trn a) a = List.range n := by
  refine ext_getD (by rw [jn_len, trn_len, h.len, List.length_range]) fun i hi => ?_
  rw [jn_len, trn_len] at hi
  have hi' : i < n := by rw [← h.len]; exact hi
  rw [jn_get (by rw [trn_len]; exact hi), trn_get' h hi', List.getD_eq_getElem?_getD, List.getElem?_range hi'] <;> rfl
theorem range_getD {n i : Nat} (h : i < n) : (List.range n).getD i 0 = i := by rw [List.getD_eq_getElem?_getD, List.getElem?_range h] <;> rfl
theorem jn_id {n : Nat} {a : List Nat} (h : ∀ x ∈ a, x < n) : jn a (List.range n) = a := by
  unfold jn
  conv => rhs; rw [← List.map_id a]
  exact List.map_congr_left fun x hx => range_getD (h x hx)
theorem id_jn (a : List Nat) : jn (List.range a.length) a = a := by
  refine ext_getD (by rw [jn_len, List.length_range]) fun i hi => ?_
  rw [jn_len, List.length_range] at hi
  rw [jn_get (by rw [List.length_range]; exact hi), range_getD hi]
theorem jn_assoc {a b c : List Nat} (h : ∀ x ∈ a, x < b.length) : jn (jn a b) c = jn a (jn b c) := by
  unfold jn
  rw [List.map_map]
  refine List.map_congr_left fun x hx => ?_
  show c.getD (b.getD x 0) 0 = (jn b c).getD x 0
  rw [jn_get (h x hx)]
/-- a seating -/
def SeatB (a : List Int) : Bool := decide (1 ≤ a.length) && decide (a.length ≤ 16) && (List.range a.length).all fun k => decide ((k : Int) ∈ a)
theorem seatB_N {n : Nat} {a : List Nat} (h : IsP n a) (h1 : 1 ≤ n) (h2 : n ≤ 16) : SeatB (a.map fun (x : Nat) => (x : Int)) = true := by
  unfold SeatB
  rw [List.length_map, h.len, decide_eq_true h1, decide_eq_true h2]
  refine List.all_eq_true.mpr fun k hk => decide_eq_true ?_
  exact List.mem_map.mpr ⟨k, h.mem (List.mem_range.mp hk), rfl⟩
theorem seatB_is {a : List Int} (h : SeatB a = true) : ∃ b : List Nat, IsP a.length b ∧ a = b.map (fun (x : Nat) => (x : Int)) ∧ 1 ≤ a.length ∧ a.length ≤ 16 := by
  unfold SeatB at h
  rw [Bool.and_eq_true, Bool.and_eq_true] at h
  obtain ⟨⟨h1, h2⟩, h3⟩ := h
  have h3 := List.all_eq_true.mp h3
  have hin : ∀ k, k < a.length → k ∈ a.map Int.toNat := fun k hk => by
    have q := of_decide_eq_true (h3 k (List.mem_range.mpr hk))
    exact List.mem_map.mpr ⟨_, q, by omega⟩
  have P : IsP a.length (a.map Int.toNat) := isP_of_all (List.length_map ..) hin
  have nn : ∀ x ∈ a, 0 ≤ x := by
    -- were one below nought, its place would be free for none of 0 .. n - 1
    have hall : ∀ k, k < a.length → (k : Int) ∈ a := fun k hk => of_decide_eq_true (h3 k (List.mem_range.mpr hk))
    have : (List.range a.length).map (fun (x : Nat) => (x : Int)) |>.Nodup := by
      refine List.pairwise_map.mpr (List.Pairwise.imp (fun hne e => hne (Int.ofNat.inj e)) (List.nodup_range (n := a.length)))
    intro x hx
    refine Decidable.byContradiction fun hneg => ?_
    have hsub : ∀ y ∈ (List.range a.length).map (fun (x : Nat) => (x : Int)), y ∈ a.erase x := fun y hy => by
      obtain ⟨k, hk, e⟩ := List.mem_map.mp hy
      have hne : y ≠ x := fun z => by
        have : (k : Int) = x := e.trans z
        omega
      refine (List.mem_erase_of_ne hne).mpr ?_
      rw [← e]
      exact hall k (List.mem_range.mp hk)
    have hle := nd_sub_len this hsub
    rw [List.length_map, List.length_range, List.length_erase_of_mem hx] at hle
    have : 0 < a.length := List.length_pos_of_mem hx
    omega
  refine ⟨a.map Int.toNat, P, ?_, of_decide_eq_true h1, of_decide_eq_true h2⟩
  rw [List.map_map]
  conv => lhs; rw [← List.map_id a]
  exact List.map_congr_left fun x hx => by
    show x = ((x.toNat : Nat) : Int)
    have := nn x hx
    omega
/-! ### data as a whole -/
section
variable {K : PySem.W.Frag} {H : Hp} {Q : VK} {p q : Addr}
theorem dpAll_of : ∀ {xs : List V} {ds : List PyData}, (∀ (i : Nat) (x : V) (d : PyData), xs[i]? = some x → ds[i]? = some d → Dp K H x d) → xs.length = ds.length → DpAll K H xs ds
  | [], [], _, _ => .nil
  | [], _ :: _, _, h => by simp at h
  | _ :: _, [], _, h => by simp at h
  | x :: xs, d :: ds, h, hl => .cons (h 0 x d rfl rfl) (dpAll_of (fun i y e h1 h2 => h (i + 1) y e (by simpa using h1) (by simpa using h2)) (by simpa using hl))
theorem dpAll_I : ∀ (a : List Int), DpAll K H (vI a) (a.map PyData.int)
  | [] => .nil
  | x :: r => .cons (.int x) (dpAll_I r)
def dT (a : List Int) : PyData := .tuple (a.map PyData.int)
def dL (a : List Int) : PyData := .list (a.map PyData.int)
theorem dp_T {a : List Int} (h : SqT K H p (vI a)) : Dp K H (.ref p) (dT a) := .tup h (dpAll_I a)
theorem dp_L {a : List Int} (h : SqL K H p (vI a)) : Dp K H (.ref p) (dL a) := .lst h (dpAll_I a)
theorem eqvAll_map {α : Type} [DecidableEq α] {f : α → PyData} (h : ∀ x y, PyData.eqv (f x) (f y) = decide (x = y)) : ∀ (a b : List α), PyData.eqvAll (a.map f) (b.map f) = decide (a = b)
  | [], [] => by rw [decide_eq_true rfl] <;> simp [PyData.eqvAll]
  | [], _ :: _ => by rw [decide_eq_false (fun z => by cases z)] <;> simp [PyData.eqvAll]
  | _ :: _, [] => by rw [decide_eq_false (fun z => by cases z)] <;> simp [PyData.eqvAll]
  | x :: a, y :: b => by
    show PyData.eqvAll (f x :: a.map f) (f y :: b.map f) = _
    unfold PyData.eqvAll
    rw [h, eqvAll_map h a b]
    by_cases e : x = y
    · subst e
      by_cases e2 : a = b
      · subst e2; simp
      · rw [decide_eq_false e2, Bool.and_false, decide_eq_false (fun z => e2 (List.cons.inj z).2)]
    · rw [decide_eq_false e, Bool.false_and, decide_eq_false (fun z => e (List.cons.inj z).1)]
theorem eqv_int (x y : Int) : PyData.eqv (.int x) (.int y) = decide (x = y) := by
  unfold PyData.eqv
  by_cases e : x = y
  · subst e; simp
  · rw [decide_eq_false e]; simpa using e
theorem eqv_T (a b : List Int) : PyData.eqv (dT a) (dT b) = decide (a = b) := by
  unfold dT PyData.eqv
  exact eqvAll_map eqv_int a b
theorem eqv_L (a b : List Int) : PyData.eqv (dL a) (dL b) = decide (a = b) := by
  unfold dL PyData.eqv
  exact eqvAll_map eqv_int a b
theorem canAll_map {α : Type} {f : α → PyData} (h : ∀ x, (f x).canLay0 = true) : ∀ (a : List α), PyData.canLayAll0 (a.map f) = true
  | [] => by simp [PyData.canLayAll0]
  | x :: a => by
    show PyData.canLayAll0 (f x :: a.map f) = true
    unfold PyData.canLayAll0
    rw [h x, canAll_map h a] <;> rfl
theorem depthAll_map {α : Type} {f : α → PyData} {n : Nat} (h : ∀ x, (f x).depth ≤ n) : ∀ (a : List α), PyData.depthAll (a.map f) ≤ n
  | [] => by simp [PyData.depthAll]
  | x :: a => by
    show PyData.depthAll (f x :: a.map f) ≤ n
    have h1 := h x
    have h2 := depthAll_map h a
    unfold PyData.depthAll
    omega
theorem can_T (a : List Int) : (dT a).canLay0 = true := by
  unfold dT PyData.canLay0
  exact canAll_map (fun x => by simp [PyData.canLay0]) a
theorem can_L (a : List Int) : (dL a).canLay0 = true := by
  unfold dL PyData.canLay0
  exact canAll_map (fun x => by simp [PyData.canLay0]) a
theorem dep_T (a : List Int) : (dT a).depth ≤ 1 := by
  unfold dT PyData.depth
  have := depthAll_map (f := PyData.int) (n := 0) (fun x => by simp [PyData.depth]) a
  omega
theorem dep_L (a : List Int) : (dL a).depth ≤ 1 := by
  unfold dL PyData.depth
  have := depthAll_map (f := PyData.int) (n := 0) (fun x => by simp [PyData.depth]) a
  omega
theorem shp {d : PyData} (h : d.canLay0 = true) (h2 : d.depth ≤ 64) : SeqAt.shaped d = true := by
  unfold SeqAt.shaped
  rw [h, decide_eq_true h2] <;> rfl
theorem shp_T (a : List Int) : SeqAt.shaped (dT a) = true := shp (can_T a) (by have := dep_T a; omega)
theorem shp_L (a : List Int) : SeqAt.shaped (dL a) = true := shp (can_L a) (by have := dep_L a; omega)
theorem eq_TI {a b : List Int} (ha : SqT K H p (vI a)) (hb : SqT K H q (vI b)) (k : Q (.bl (decide (a = b))) H) : rEqD K (.ref p) (.ref q) H Q := ⟨dT a, dT b, dp_T ha, dp_T hb, shp_T a, shp_T b, by rw [eqv_T]; exact k⟩
theorem ne_TI {a b : List Int} (ha : SqT K H p (vI a)) (hb : SqT K H q (vI b)) (k : Q (.bl (!decide (a = b))) H) : rNeD K (.ref p) (.ref q) H Q := ⟨dT a, dT b, dp_T ha, dp_T hb, shp_T a, shp_T b, by rw [eqv_T]; exact k⟩
theorem vInj {a b : List Nat} : (a.map (fun (x : Nat) => (x : Int)) = b.map (fun (x : Nat) => (x : Int))) ↔ a = b := by
  constructor
  · intro h
    have e := congrArg (List.map Int.toNat) h
    rw [List.map_map, List.map_map] at e
    have i : (Int.toNat ∘ fun (x : Nat) => (x : Int)) = id := by funext x; rfl
    rw [i, List.map_id, List.map_id] at e
    exact e
  · intro h; rw [h]
theorem dec_iff {p q : Prop} [Decidable p] [Decidable q] (h : p ↔ q) : decide p = decide q := by
  by_cases hp : p
  · rw [decide_eq_true hp, decide_eq_true (h.mp hp)]
  · rw [decide_eq_false hp, decide_eq_false (fun z => hp (h.mpr z))]
theorem eq_TN {a b : List Nat} (ha : SqT K H p (vN a)) (hb : SqT K H q (vN b)) (k : Q (.bl (decide (a = b))) H) : rEqD K (.ref p) (.ref q) H Q := by
  rw [vN_eq] at ha hb
  refine eq_TI ha hb ?_
  rw [dec_iff vInj]
  exact k
theorem ne_TN {a b : List Nat} (ha : SqT K H p (vN a)) (hb : SqT K H q (vN b)) (k : Q (.bl (!decide (a = b))) H) : rNeD K (.ref p) (.ref q) H Q := by
  rw [vN_eq] at ha hb
  refine ne_TI ha hb ?_
  rw [dec_iff vInj]
  exact k
theorem set_N {a : List Nat} {z : Int} {i n : Nat} {R : Hp → Prop} (h : H p = some (.lst (vN a))) (hi : i < a.length) (e : z = (i : Int)) (k : R (upd H p (.lst (vN (a.set i n))))) : rSetL (.ref p) (.int z) (.int (n : Int)) H R := by
  refine ⟨p, _, z, i, rfl, rfl, h, ?_, ?_⟩
  · unfold ixN
    rw [vN_len, if_pos (by omega), if_pos (by omega), e] <;> rfl
  · have e2 : (vN a).set i (V.int (n : Int)) = vN (a.set i n) := by
      show (a.map _).set i _ = (a.set i n).map _
      rw [List.map_set]
    rw [e2]
    exact k
theorem rep_0 {n : Nat} (hn : n ≤ 100000) (h : H p = some (.lst [V.int 0])) (k : ∀ l, H l = none → Q (.ref l) (upd H l (.lst (vN (List.replicate n 0))))) : rRep (.ref p) (.int (n : Int)) H Q := by
  refine ⟨p, _, _, rfl, rfl, h, by omega, by omega, zl (by show 1 * ((n : Int)).toNat ≤ 100000; omega), fun l hl => ?_⟩
  have e : (List.replicate ((n : Int)).toNat [V.int 0]).flatten = vN (List.replicate n 0) := by
    show (List.replicate n [V.int 0]).flatten = (List.replicate n 0).map _
    rw [List.map_replicate]
    clear k hl
    induction n with
    | zero => rfl
    | succ m ih => rw [List.replicate_succ, List.flatten_cons, ih (by omega), List.replicate_succ] <;> rfl
  rw [e]
  exact k l hl
end
theorem if_nd {c : Prop} [Decidable c] {A B : Prop} (h1 : ¬ c → A) (h2 : c → B) : if (!decide c) = true then A else B := by
  by_cases h : c
  · rw [decide_eq_true h]; exact if_f rfl (h2 h)
  · rw [decide_eq_false h]; exact if_t rfl (h1 h)
theorem if_nb {c : Bool} {A B : Prop} (h1 : c = false → A) (h2 : c = true → B) : if (!c) = true then A else B := by
  cases c with
  | true => exact if_f rfl (h2 rfl)
  | false => exact if_t rfl (h1 rfl)
theorem take_more {α : Type} {l : List α} {i : Nat} {x : α} (h : l[i]? = some x) : l.take (i + 1) = l.take i ++ [x] := by
  rw [List.take_add_one, h] <;> rfl
theorem vN_get {a : List Nat} {i : Nat} {x : V} (h : (vN a)[i]? = some x) : ∃ n, a[i]? = some n ∧ x = V.int (n : Int) := by
  have h : (a.map fun (n : Nat) => V.int (n : Int))[i]? = some x := h
  rw [List.getElem?_map] at h
  cases e : a[i]? with
  | none => rw [e] at h; cases h
  | some n => rw [e] at h; exact ⟨n, rfl, (Option.some.inj h).symm⟩
theorem vN_app (a : List Nat) (n : Nat) : vN a ++ [V.int (n : Int)] = vN (a ++ [n]) := by
  show a.map _ ++ _ = (a ++ [n]).map _
  rw [List.map_append] <;> rfl
end Shf

local macro_rules | `(tactic| walk_at "ex") => `(tactic| repeat (with_reducible first
  | refine Shf.w_op ?_ | refine Shf.w_c ?_
  | (show L2.tVar _ _ _ _; with_unfolding_all refine Shf.w_var rfl ?_)
  | refine Shf.w_nil ?_ | refine Shf.w_cons ?_ | refine Shf.w_cb ?_ | refine Shf.w_call ?_ | refine Shf.w_test ?_ | refine Shf.w_b ?_ | refine Shf.w_bex ?_
  | refine Shf.w_and ?_ | refine Shf.w_or ?_ | refine Shf.w_not ?_ | refine Shf.w_andV ?_ | refine Shf.w_orV ?_ | refine Shf.w_notV ?_ | refine Shf.w_ife ?_
  | refine Shf.w_add ?_ | refine Shf.w_sub ?_ | refine Shf.w_neg ?_ | refine Shf.w_lt ?_ | refine Shf.w_le ?_ | refine Shf.w_gt ?_ | refine Shf.w_ge ?_ | refine Shf.eq_I ?_ | refine Shf.ne_I ?_ | refine Shf.eq_B ?_ | refine Shf.ne_B ?_
  | refine Shf.w_tup ?_ | refine Shf.w_lst ?_ | refine Shf.w_lrg ?_ | refine Shf.w_trg ?_ | refine Shf.w_rg1 ?_ | refine Shf.w_iex ?_ | refine Shf.w_bm ?_ | refine Shf.w_bm0 ?_ | refine Shf.w_un ?_ 
  | refine Shf.w_yes ?_ | refine L2.iteT ?_ | refine L2.iteF ?_ | refine Shf.w_irng1 ?_ | refine Shf.w_irng2 ?_ | refine Shf.w_ilist ?_ | refine Shf.w_itup ?_))
local macro_rules | `(tactic| walk_at "st") => `(tactic| with_reducible first | refine Shf.w_asg ?_ | refine Shf.w_drop ?_ | refine Shf.w_ret ?_ | refine Shf.w_next ?_ | refine Shf.w_asgS ?_ | refine Shf.w_for ?_ | refine Shf.w_if ?_)
local macro_rules | `(tactic| walk_at "sq") => `(tactic| with_reducible refine Shf.w_seq ?_)
local macro_rules | `(tactic| walk_at "re") => `(tactic| repeat (with_reducible first
  | refine Shf.w_asg ?_ | refine Shf.w_drop ?_ | refine Shf.w_ret ?_ | refine Shf.w_next ?_ | refine Shf.w_op ?_ | refine Shf.w_c ?_
  | (show L2.tVar _ _ _ _; with_unfolding_all refine Shf.w_var rfl ?_)
  | refine Shf.w_nil ?_ | refine Shf.w_cons ?_ | refine Shf.w_cb ?_ | refine Shf.w_call ?_ | refine Shf.w_test ?_ | refine Shf.w_b ?_ | refine Shf.w_bex ?_
  | refine Shf.w_and ?_ | refine Shf.w_or ?_ | refine Shf.w_not ?_ | refine Shf.w_andV ?_ | refine Shf.w_orV ?_ | refine Shf.w_notV ?_ | refine Shf.w_ife ?_
  | refine Shf.w_add ?_ | refine Shf.w_sub ?_ | refine Shf.w_neg ?_ | refine Shf.w_lt ?_ | refine Shf.w_le ?_ | refine Shf.w_gt ?_ | refine Shf.w_ge ?_ | refine Shf.eq_I ?_ | refine Shf.ne_I ?_ | refine Shf.eq_B ?_ | refine Shf.ne_B ?_
  | refine Shf.w_tup ?_ | refine Shf.w_lst ?_ | refine Shf.w_lrg ?_ | refine Shf.w_trg ?_ | refine Shf.w_rg1 ?_ | refine Shf.w_iex ?_ | refine Shf.w_bm ?_ | refine Shf.w_bm0 ?_ | refine Shf.w_un ?_ | refine Shf.w_asgS ?_
  | refine Shf.w_yes ?_ | refine L2.iteT ?_ | refine L2.iteF ?_ | refine Shf.w_irng1 ?_ | refine Shf.w_irng2 ?_ | refine Shf.w_ilist ?_ | refine Shf.w_itup ?_))
local macro_rules | `(tactic| walk_at "rd") => `(tactic| repeat (with_reducible first
  | refine Shf.w_seq ?_ | refine Shf.w_if ?_ | refine Shf.w_asg ?_ | refine Shf.w_drop ?_ | refine Shf.w_ret ?_ | refine Shf.w_next ?_ | refine Shf.w_op ?_ | refine Shf.w_c ?_
  | (show L2.tVar _ _ _ _; with_unfolding_all refine Shf.w_var rfl ?_)
  | refine Shf.w_nil ?_ | refine Shf.w_cons ?_ | refine Shf.w_cb ?_ | refine Shf.w_call ?_ | refine Shf.w_test ?_ | refine Shf.w_b ?_ | refine Shf.w_bex ?_
  | refine Shf.w_and ?_ | refine Shf.w_or ?_ | refine Shf.w_not ?_ | refine Shf.w_andV ?_ | refine Shf.w_orV ?_ | refine Shf.w_notV ?_ | refine Shf.w_ife ?_
  | refine Shf.w_add ?_ | refine Shf.w_sub ?_ | refine Shf.w_neg ?_ | refine Shf.w_lt ?_ | refine Shf.w_le ?_ | refine Shf.w_gt ?_ | refine Shf.w_ge ?_ | refine Shf.eq_I ?_ | refine Shf.ne_I ?_ | refine Shf.eq_B ?_ | refine Shf.ne_B ?_
  | refine Shf.w_tup ?_ | refine Shf.w_lst ?_ | refine Shf.w_lrg ?_ | refine Shf.w_trg ?_ | refine Shf.w_rg1 ?_ | refine Shf.w_iex ?_ | refine Shf.w_bm ?_ | refine Shf.w_bm0 ?_ | refine Shf.w_un ?_ | refine Shf.w_asgS ?_
  | refine Shf.w_yes ?_ | refine L2.iteT ?_ | refine L2.iteF ?_ | refine Shf.w_for ?_ | refine Shf.w_irng1 ?_ | refine Shf.w_irng2 ?_ | refine Shf.w_ilist ?_ | refine Shf.w_itup ?_))
/-! the seats: is_seating .. back; the laws' common helpers -/
namespace Shf
open PySem L2
def sp_law (K : PySem.W.Frag) : Sp := fun vs H Q _ => ∃ (a : Addr) (ns : List Int), vs = [.ref a] ∧ SqL K H a (ns.map V.int) ∧ ns.length ≤ 63 ∧ ∀ H', Q (.bl true) H'
theorem len_law (K : PySem.W.Frag) (g : Gd) (vs : List V) (H : Hp) (Q : VK) (E : XK) (h : sp_law K vs H Q E) : vs.length = 1 := by obtain ⟨_, _, rfl, _⟩ := h; rfl
/-- the reading of a def's body -/
abbrev Rd1 (t : TS) (N : List Str) (vs : List V) (H : Hp) (Q : VK) : Prop := t { nx := fun _ H' => Q .non H', rt := Q } (start N vs) H
/-- membership of an int in a list of ints -/
theorem inV_I (x : Int) (a : List Int) : inV (V.int x) (vI a) = decide (x ∈ a) := by
  unfold inV
  rw [List.any_map]
  induction a with
  | nil => rfl
  | cons y r ih =>
    rw [List.any_cons, ih]
    show (eqV (V.int y) (V.int x) || _) = _
    by_cases e : x = y
    · subst e
      have : eqV (V.int x) (V.int x) = true := by simp [eqV]
      rw [this, decide_eq_true (List.mem_cons_self)] <;> rfl
    · have : eqV (V.int y) (V.int x) = false := by simp [eqV]; exact fun z => e z.symm
      rw [this, Bool.false_or]
      by_cases m : x ∈ r
      · rw [decide_eq_true m, decide_eq_true (List.mem_cons_of_mem _ m)]
      · rw [decide_eq_false m, decide_eq_false (fun z => by rcases List.mem_cons.mp z with z | z; exact e z; exact m z)]
theorem flat_I (a : List Int) : (vI a).all flatV = true := by
  rw [List.all_map]
  exact List.all_eq_true.mpr fun _ _ => rfl
section
variable {K : PySem.W.Frag} {H : Hp} {Q : VK} {p : Addr}
theorem in_TI {a : List Int} {x : Int} (h : SqT K H p (vI a)) (k : Q (.bl (decide (x ∈ a))) H) : rIn K false (.int x) (.ref p) H Q := ⟨p, _, rfl, .inr h, rfl, flat_I a, by rw [inV_I]; exact k⟩
theorem notin_TI {a : List Int} {x : Int} (h : SqT K H p (vI a)) (k : Q (.bl (!decide (x ∈ a))) H) : rIn K true (.int x) (.ref p) H Q := ⟨p, _, rfl, .inr h, rfl, flat_I a, by rw [inV_I]; exact k⟩
theorem in_LI {a : List Int} {x : Int} (h : SqL K H p (vI a)) (k : Q (.bl (decide (x ∈ a))) H) : rIn K false (.int x) (.ref p) H Q := ⟨p, _, rfl, .inl h, rfl, flat_I a, by rw [inV_I]; exact k⟩
theorem notin_LI {a : List Int} {x : Int} (h : SqL K H p (vI a)) (k : Q (.bl (!decide (x ∈ a))) H) : rIn K true (.int x) (.ref p) H Q := ⟨p, _, rfl, .inl h, rfl, flat_I a, by rw [inV_I]; exact k⟩
end
def sp_L_cell_at (K : PySem.W.Frag) (g : Gd) : Sp := fun vs H Q _ => ∃ (a : Addr) (ns : List Int) (j : Nat), vs = [.ref a, .int (j : Int)] ∧ SqL K H a (vI ns) ∧ Q (.int (ns.getD j 0)) H
theorem len_L_cell_at (K : PySem.W.Frag) (g : Gd) (vs : List V) (H : Hp) (Q : VK) (E : XK) (h : sp_L_cell_at K g vs H Q E) : vs.length = 2 := by obtain ⟨_, _, _, rfl, _⟩ := h; rfl
abbrev N_L_cell_at : List Str := ["script", "k"]
/-- _law_cell_at -/
def t_L_cell_at (K : PySem.W.Frag) (g : Gd) (E : XK) : TS :=
  (tSeq (tIfS (tTest (tOp rLtI (tVar 1) (tCB (rLenQ K) (tCons (tVar 0) tNil)))) (tRet (tOp (rIxL K) (tVar 0) (tVar 1))) tNext)
    (tRet (tC (.int 0))))
theorem pure_L_cell_at {K : PySem.W.Frag} {g : Gd} (vs : List V) (H : Hp) (Q : VK) (E : XK) (h : sp_L_cell_at K g vs H Q E) : Rd1 (t_L_cell_at K g E) N_L_cell_at vs H Q := by
  obtain ⟨a, ns, j, rfl, hS, k⟩ := h
  unfold t_L_cell_at
  walk_at "rd"
  refine len_LI hS ?_
  walk_at "rd"
  refine if_d (fun c => ?_) (fun c => ?_)
  · walk_at "rd"
    have hj : j < ns.length := by omega
    refine ix_L (i := j) (v := .int (ns.getD j 0)) hS (vI_at ?_) rfl k
    rw [List.getD_eq_getElem?_getD, List.getElem?_eq_getElem hj] <;> rfl
  · have e : ns.getD j 0 = 0 := by
      rw [List.getD_eq_getElem?_getD, List.getElem?_eq_none (by omega)] <;> rfl
    rw [e] at k
    exact k
theorem joined_core {K : PySem.W.Frag} {p q : Addr} {a b : List Nat} {H : Hp} {Q : VK} {nx : L2.St → Hp → Prop} (hp : SqT K H p (vN a)) (hq : SqT K H q (vN b)) (hl : a.length ≤ 1000) (hlt : ∀ x ∈ a, x < b.length) (k : NewT H (jn a b) Q) :
    (tRet (tCB (rTupOf K) (tCons (tLc (iTup K (tVar 0)) (gName 2) tYes (tOp (rIxT K) (tVar 1) (tVar 2)) [2]) tNil))) { nx := nx, rt := Q } (start ["a", "b", "k"] [.ref p, .ref q]) H := by
  refine ⟨_, rfl, p, rfl, ⟨_, hp⟩, fun D hD => lc_tup (K := K) (a := p) (xs := vN a) (fun i H' => Same H H' ∧ H' D = some (.lst (vN (jn (a.take i) b)))) ⟨(Same.refl H).new hD, upd_same⟩ (fun i H' _ s => s.1.tup hp) ?_ ?_⟩
  · rintro i x H' hi ⟨s, hD'⟩
    obtain ⟨n, hn, rfl⟩ := vN_get hi
    have hnb : n < b.length := hlt n (List.mem_of_getElem? hn)
    refine ⟨rfl, ?_⟩
    walk_at "rd"
    refine ix_TN (i := n) (s.tup hq) hnb rfl ?_
    refine ⟨_, hD', ?_, s.up hD, ?_⟩
    · rw [vN_len, jn_len, List.length_take]; exact zlt (by omega)
    · rw [upd_same, vN_app, take_more hn]
      show _ = some (HO.lst (vN ((a.take i ++ [n]).map fun k => b.getD k 0)))
      rw [List.map_append] <;> rfl
  · rintro H' ⟨s, hD'⟩
    rw [vN_len, List.take_length] at hD'
    refine tup_L (sqL hD') fun r hr => k r _ (s.new hr) (s.free hr) upd_same
def sp_joined (K : PySem.W.Frag) (g : Gd) : Sp := fun vs H Q _ => ∃ (p q : Addr) (a b : List Nat), vs = [.ref p, .ref q] ∧ SqT K H p (vN a) ∧ SqT K H q (vN b) ∧ a.length ≤ 1000 ∧ (∀ x ∈ a, x < b.length) ∧ NewT H (jn a b) Q
theorem len_joined (K : PySem.W.Frag) (g : Gd) (vs : List V) (H : Hp) (Q : VK) (E : XK) (h : sp_joined K g vs H Q E) : vs.length = 2 := by obtain ⟨_, _, _, _, rfl, _⟩ := h; rfl
abbrev N_joined : List Str := ["a", "b", "k"]
/-- joined -/
def t_joined (K : PySem.W.Frag) (g : Gd) (E : XK) : TS :=
  (tRet (tCB (rTupOf K) (tCons (tLc (iTup K (tVar 0)) (gName 2) tYes (tOp (rIxT K) (tVar 1) (tVar 2)) [2]) tNil)))
theorem pure_joined {K : PySem.W.Frag} {g : Gd} (vs : List V) (H : Hp) (Q : VK) (E : XK) (h : sp_joined K g vs H Q E) : Rd1 (t_joined K g E) N_joined vs H Q := by
  obtain ⟨p, q, a, b, rfl, hp, hq, hl, hlt, k⟩ := h
  exact joined_core hp hq hl hlt k
def sp_is_seating (K : PySem.W.Frag) (g : Gd) : Sp := fun vs H Q _ => ∃ (p : Addr) (a : List Int), vs = [.ref p] ∧ SqT K H p (vI a) ∧ a.length ≤ 1000 ∧ Q (.bl (SeatB a)) H
theorem len_is_seating (K : PySem.W.Frag) (g : Gd) (vs : List V) (H : Hp) (Q : VK) (E : XK) (h : sp_is_seating K g vs H Q E) : vs.length = 1 := by obtain ⟨_, _, rfl, _⟩ := h; rfl
abbrev N_is_seating : List Str := ["row", "k"]
/-- is_seating -/
def t_is_seating (K : PySem.W.Frag) (g : Gd) (E : XK) : TS :=
  (tSeq (tIfS (tOr (tTest (tOp rLtI (tCB (rLenQ K) (tCons (tVar 0) tNil)) (tC (.int 1)))) (tTest (tOp rGtI (tCB (rLenQ K) (tCons (tVar 0) tNil)) (tC (.int 16))))) (tRet (tC (.bl false))) tNext)
    (tSeq (tFor (iRng1 (tCons (tCB (rLenQ K) (tCons (tVar 0) tNil)) tNil)) (gName 1) (tIfS (tTest (tOp (rIn K true) (tVar 1) (tVar 0))) (tRet (tC (.bl false))) tNext))
    (tRet (tC (.bl true)))))
theorem seatB_no {a : List Int} (h : ¬ (1 ≤ a.length ∧ a.length ≤ 16)) : SeatB a = false := by
  unfold SeatB
  by_cases h1 : 1 ≤ a.length
  · rw [decide_eq_true h1, decide_eq_false (fun z => h ⟨h1, z⟩)] <;> rfl
  · rw [decide_eq_false h1] <;> rfl
theorem seatB_no' {a : List Int} {k : Nat} (hk : k < a.length) (h : ¬ (k : Int) ∈ a) : SeatB a = false := by
  unfold SeatB
  have : ((List.range a.length).all fun k => decide ((k : Int) ∈ a)) = false := by
    refine Bool.eq_false_iff.mpr fun z => h ?_
    exact of_decide_eq_true (List.all_eq_true.mp z k (List.mem_range.mpr hk))
  rw [this, Bool.and_false]
theorem seatB_yes {a : List Int} (h1 : 1 ≤ a.length) (h2 : a.length ≤ 16) (h : ∀ k, k < a.length → (k : Int) ∈ a) : SeatB a = true := by
  unfold SeatB
  rw [decide_eq_true h1, decide_eq_true h2]
  exact List.all_eq_true.mpr fun k hk => decide_eq_true (h k (List.mem_range.mp hk))
theorem pure_is_seating {K : PySem.W.Frag} {g : Gd} (vs : List V) (H : Hp) (Q : VK) (E : XK) (h : sp_is_seating K g vs H Q E) : Rd1 (t_is_seating K g E) N_is_seating vs H Q := by
  obtain ⟨p, a, rfl, h, hl, k⟩ := h
  unfold t_is_seating
  walk_at "rd"
  refine len_TI h ?_
  walk_at "rd"
  refine if_d (fun c => ?_) (fun c => ?_)
  · walk_at "rd"
    rw [seatB_no (by omega)] at k
    exact k
  walk_at "rd"
  refine len_TI h ?_
  walk_at "rd"
  refine if_d (fun c2 => ?_) (fun c2 => ?_)
  · walk_at "rd"
    rw [seatB_no (by omega)] at k
    exact k
  walk_at "rd"
  refine len_TI h ?_
  walk_at "rd"
  refine w_for1 (by omega) (fun i σ H' => (∃ v, σ = [some (.ref p), v]) ∧ H' = H ∧ ∀ j, j < i → (j : Int) ∈ a) ⟨⟨_, rfl⟩, rfl, fun j hj => absurd hj (Nat.not_lt_zero j)⟩ ?_ ?_
  · rintro i σ H' hi ⟨⟨v, rfl⟩, rfl, hall⟩
    walk_at "rd"
    refine notin_TI h ?_
    walk_at "rd"
    refine if_nd (fun m => ?_) (fun m => ?_)
    · walk_at "rd"
      rw [seatB_no' hi m] at k
      exact k
    · walk_at "rd"
      refine ⟨⟨_, rfl⟩, rfl, fun j hj => ?_⟩
      by_cases e : j = i
      · rw [e]; exact m
      · exact hall j (by omega)
  · rintro σ H' ⟨⟨v, rfl⟩, rfl, hall⟩
    walk_at "rd"
    rw [seatB_yes (by omega) (by omega) hall] at k
    exact k
def sp_ask_seating (K : PySem.W.Frag) (g : Gd) : Sp := fun vs H Q E => ∃ (p : Addr) (a : List Int), vs = [.ref p] ∧ SqT K H p (vI a) ∧ a.length ≤ 1000 ∧ (SeatB a = true → Q .non H) ∧ (SeatB a = false → E (.ref g.NoSeating) none H)
theorem len_ask_seating (K : PySem.W.Frag) (g : Gd) (vs : List V) (H : Hp) (Q : VK) (E : XK) (h : sp_ask_seating K g vs H Q E) : vs.length = 1 := by obtain ⟨_, _, rfl, _⟩ := h; rfl
abbrev N_ask_seating : List Str := ["a"]
/-- ask_seating -/
def t_ask_seating (K : PySem.W.Frag) (g : Gd) (E : XK) : TS :=
  (tIfS (tNot (tB (tCallS (sp_is_seating K g) (fun _ => E0) (tCons (tVar 0) tNil)))) (tRaiseW (wE E) g.NoSeating) tNext)
theorem pure_ask_seating {K : PySem.W.Frag} {g : Gd} (vs : List V) (H : Hp) (Q : VK) (E : XK) (h : sp_ask_seating K g vs H Q E) : Rd1 (t_ask_seating K g E) N_ask_seating vs H Q := by
  obtain ⟨p, a, rfl, h, hl, k, e⟩ := h
  unfold t_ask_seating
  walk_at "rd"
  refine ⟨p, a, rfl, h, hl, ?_⟩
  walk_at "rd"
  refine if_nb (fun c => e c) (fun c => k c)
def sp_then (K : PySem.W.Frag) (g : Gd) : Sp := fun vs H Q E => ∃ (p q : Addr) (a b : List Int), vs = [.ref p, .ref q] ∧ SqT K H p (vI a) ∧ SqT K H q (vI b) ∧ a.length ≤ 1000 ∧ b.length ≤ 1000 ∧
  (SeatB a = false ∨ SeatB b = false → E (.ref g.NoSeating) none H) ∧ (SeatB a = true → SeatB b = true → a.length ≠ b.length → E (.ref g.OtherSize) none H) ∧
  (∀ n a' b', a = a'.map (fun (x : Nat) => (x : Int)) → b = b'.map (fun (x : Nat) => (x : Int)) → IsP n a' → IsP n b' → 1 ≤ n → n ≤ 16 → NewT H (jn a' b') Q)
theorem len_then (K : PySem.W.Frag) (g : Gd) (vs : List V) (H : Hp) (Q : VK) (E : XK) (h : sp_then K g vs H Q E) : vs.length = 2 := by obtain ⟨_, _, _, _, rfl, _⟩ := h; rfl
abbrev N_then : List Str := ["a", "b"]
/-- then -/
def t_then (K : PySem.W.Frag) (g : Gd) (E : XK) : TS :=
  (tSeq (tDrop (tCallS (sp_ask_seating K g) (WE (wE E)) (tCons (tVar 0) tNil)))
    (tSeq (tDrop (tCallS (sp_ask_seating K g) (WE (wE E)) (tCons (tVar 1) tNil)))
    (tSeq (tIfS (tTest (tOp rNe (tCB (rLenQ K) (tCons (tVar 0) tNil)) (tCB (rLenQ K) (tCons (tVar 1) tNil)))) (tRaiseW (wE E) g.OtherSize) tNext)
    (tRet (tCallS (sp_joined K g) (fun _ => E0) (tCons (tVar 0) (tCons (tVar 1) tNil)))))))
theorem pure_then {K : PySem.W.Frag} {g : Gd} (vs : List V) (H : Hp) (Q : VK) (E : XK) (h : sp_then K g vs H Q E) : Rd1 (t_then K g E) N_then vs H Q := by
  obtain ⟨p, q, a, b, rfl, hp, hq, hla, hlb, e1, e2, k⟩ := h
  unfold t_then
  walk_at "rd"
  refine ⟨p, a, rfl, hp, hla, fun ca => ?_, fun c => e1 (.inl c)⟩
  walk_at "rd"
  refine ⟨q, b, rfl, hq, hlb, fun cb => ?_, fun c => e1 (.inr c)⟩
  walk_at "rd"
  refine len_TI hp ?_
  walk_at "rd"
  refine len_TI hq ?_
  walk_at "rd"
  refine if_nd (fun c => ?_) (fun c => ?_)
  · exact e2 ca cb (fun z => c (by rw [z]))
  · obtain ⟨a', pa, ea, h1, h2⟩ := seatB_is ca
    obtain ⟨b', pb, eb, h3, h4⟩ := seatB_is cb
    have hl : a.length = b.length := by omega
    rw [← hl] at pb
    walk_at "rd"
    rw [ea, ← vN_eq] at hp
    rw [eb, ← vN_eq] at hq
    exact ⟨p, q, a', b', rfl, hp, hq, by rw [pa.len]; omega, fun x hx => by rw [pb.len]; exact pa.lt hx, k _ a' b' ea eb pa pb h1 h2⟩
theorem erase_perm {α : Type} : ∀ {l : List α} {i : Nat} (h : i < l.length), (l[i] :: l.eraseIdx i).Perm l
  | [], _, h => absurd h (Nat.not_lt_zero _)
  | _ :: _, 0, _ => List.Perm.refl _
  | a :: l, i + 1, h => by
    have h' : i < l.length := Nat.lt_of_succ_lt_succ h
    have ih := erase_perm (l := l) (i := i) h'
    show (l[i] :: a :: l.eraseIdx i).Perm (a :: l)
    exact (List.Perm.swap a l[i] _).trans (List.Perm.cons a ih)
/-- drawing: the i-th of what is left, put behind what is drawn -/
theorem draw_perm {left row : List Nat} {i : Nat} (h : i < left.length) : ((row ++ [left.getD i 0]) ++ left.eraseIdx i).Perm (row ++ left) := by
  rw [List.append_assoc]
  refine List.Perm.append_left row ?_
  have e : left.getD i 0 = left[i] := by rw [List.getD_eq_getElem?_getD, List.getElem?_eq_getElem h] <;> rfl
  rw [e]
  exact erase_perm h
def drawStep (n : Nat) (f : Int → Int) (d : Int → Int → Int) (s : Int × List Nat × List Nat) (k : Nat) : Int × List Nat × List Nat :=
  let c := f s.1
  let m : Int := (n : Int) - (k : Int)
  (d c m, s.2.1.eraseIdx (c % m).toNat, s.2.2 ++ [s.2.1.getD (c % m).toNat 0])
def drawSt (n : Nat) (f : Int → Int) (d : Int → Int → Int) (c : Int) (k : Nat) : Int × List Nat × List Nat := (List.range k).foldl (drawStep n f d) (c, List.range n, [])
theorem drawSt_succ (n : Nat) (f : Int → Int) (d : Int → Int → Int) (c : Int) (k : Nat) : drawSt n f d c (k + 1) = drawStep n f d (drawSt n f d c k) k := by
  unfold drawSt
  rw [List.range_succ, List.foldl_append] <;> rfl
theorem drawSt_ok (n : Nat) (f : Int → Int) (d : Int → Int → Int) (c : Int) : ∀ k, k ≤ n → (drawSt n f d c k).2.1.length = n - k ∧ (drawSt n f d c k).2.2.length = k ∧ ((drawSt n f d c k).2.2 ++ (drawSt n f d c k).2.1).Perm (List.range n)
  | 0, _ => ⟨List.length_range, rfl, List.Perm.refl _⟩
  | k + 1, hk => by
    obtain ⟨h1, h2, h3⟩ := drawSt_ok n f d c k (by omega)
    rw [drawSt_succ]
    have hm : (0 : Int) < (n : Int) - (k : Int) := by omega
    have hi : ((f (drawSt n f d c k).1) % ((n : Int) - (k : Int))).toNat < (drawSt n f d c k).2.1.length := by
      have a := Int.emod_nonneg (f (drawSt n f d c k).1) (Int.ne_of_gt hm)
      have b := Int.emod_lt_of_pos (f (drawSt n f d c k).1) hm
      omega
    refine ⟨?_, ?_, (draw_perm hi).trans h3⟩
    · show (List.eraseIdx _ _).length = _
      rw [List.length_eraseIdx_of_lt hi, h1]; omega
    · show (_ ++ [_]).length = _
      rw [List.length_append, h2]; rfl
theorem drawSt_perm (n : Nat) (f : Int → Int) (d : Int → Int → Int) (c : Int) : IsP n (drawSt n f d c n).2.2 := by
  obtain ⟨h1, h2, h3⟩ := drawSt_ok n f d c n (Nat.le_refl n)
  have e : (drawSt n f d c n).2.1 = [] := List.length_eq_zero_iff.mp (by omega)
  rw [e, List.append_nil] at h3
  exact h3
/-- any seating of n by a cell -/
def seatN (c : Int) (n : Nat) : List Nat := (drawSt n (fun c => c) (fun c m => c / m) c n).2.2
/-- .. by a cell mixed -/
def farN (c : Int) (n : Nat) : List Nat := (drawSt n (fun c => (c * 48271 + 11) % 2147483647) (fun c _ => c) c n).2.2
theorem isP_seat (c : Int) (n : Nat) : IsP n (seatN c n) := drawSt_perm _ _ _ _
theorem isP_far (c : Int) (n : Nat) : IsP n (farN c n) := drawSt_perm _ _ _ _
def sp_L_far (K : PySem.W.Frag) (g : Gd) : Sp := fun vs H Q _ => ∃ (c : Int) (n : Nat), vs = [.int c, .int (n : Int)] ∧ n ≤ 1000 ∧ NewT H (farN c n) Q
theorem len_L_far (K : PySem.W.Frag) (g : Gd) (vs : List V) (H : Hp) (Q : VK) (E : XK) (h : sp_L_far K g vs H Q E) : vs.length = 2 := by obtain ⟨_, _, rfl, _⟩ := h; rfl
abbrev N_L_far : List Str := ["cell", "size", "left", "row", "k"]
/-- _law_far -/
def t_L_far (K : PySem.W.Frag) (g : Gd) (E : XK) : TS :=
  (tSeq (tAsg (tLstRg (tRg1 (tVar 1))) (gName 2))
    (tSeq (tAsg (tLst tNil) (gName 3))
    (tSeq (tFor (iRng1 (tCons (tVar 1) tNil)) (gName 4) (tSeq (tAsg (tOp rModI (tOp rAddI (tOp rMulI (tVar 0) (tC (.int 48271))) (tC (.int 11))) (tC (.int 2147483647))) (gName 0))
    (tDrop (tBM K "list" rAppend (tVar 3) (tCons (tBM K "list" rPopAt (tVar 2) (tCons (tOp rModI (tVar 0) (tOp rSubI (tVar 1) (tVar 4))) tNil)) tNil)))))
    (tRet (tCB (rTupOf K) (tCons (tVar 3) tNil))))))
theorem pure_L_far {K : PySem.W.Frag} {g : Gd} (vs : List V) (H : Hp) (Q : VK) (E : XK) (h : sp_L_far K g vs H Q E) : Rd1 (t_L_far K g E) N_L_far vs H Q := by
  obtain ⟨c, n, rfl, hn, k⟩ := h
  unfold t_L_far
  walk_at "rd"
  refine ⟨rgOk_N (by omega), fun l hl => ?_⟩
  rw [rgV_N]
  have s1 : Same H (upd H l (.lst (vN (List.range n)))) := (Same.refl H).new hl
  walk_at "rd"
  refine ⟨zl (Nat.zero_le _), fun r hr => ?_⟩
  have hr0 := s1.free hr
  have s2 := s1.new (o := .lst []) hr
  have hlr : l ≠ r := ne_of_none upd_same hr
  walk_at "rd"
  refine w_for1 (by omega) (fun i σ H' => (∃ v, σ = [some (.int (drawSt n (fun c => (c * 48271 + 11) % 2147483647) (fun c _ => c) c i).1), some (.int (n : Int)), some (.ref l), some (.ref r), v]) ∧ Same H H' ∧
    H' l = some (.lst (vN (drawSt n (fun c => (c * 48271 + 11) % 2147483647) (fun c _ => c) c i).2.1)) ∧ H' r = some (.lst (vN (drawSt n (fun c => (c * 48271 + 11) % 2147483647) (fun c _ => c) c i).2.2))) ⟨⟨_, rfl⟩, s2, by rw [upd_ne hlr, upd_same] <;> rfl, upd_same⟩ ?_ ?_
  · rintro i σ H' hi ⟨⟨v, rfl⟩, s, hL, hR⟩
    have ok := drawSt_ok n (fun c => (c * 48271 + 11) % 2147483647) (fun c _ => c) c i (by omega)
    have hst := drawSt_succ n (fun c => (c * 48271 + 11) % 2147483647) (fun c _ => c) c i
    generalize drawSt n (fun c => (c * 48271 + 11) % 2147483647) (fun c _ => c) c i = st at ok hst hL hR ⊢
    obtain ⟨c1, left, row⟩ := st
    obtain ⟨o1, o2, _⟩ := ok
    dsimp only at o1 o2 hL hR ⊢
    rw [hst]
    have hm : (0 : Int) < (n : Int) - (i : Int) := by omega
    have b1 := Int.emod_nonneg ((c1 * 48271 + 11) % 2147483647) (Int.ne_of_gt hm)
    have b2 := Int.emod_lt_of_pos ((c1 * 48271 + 11) % 2147483647) hm
    walk_at "rd"
    refine mul_I (.inr ⟨by decide, by decide⟩) ?_
    walk_at "rd"
    refine mod_I (by decide) ?_
    walk_at "rd"
    refine ⟨isL (sqL hR), ?_⟩
    walk_at "rd"
    refine ⟨isL (sqL hL), ?_⟩
    walk_at "rd"
    refine mod_I hm ?_
    walk_at "rd"
    refine pop_N (i := (((c1 * 48271 + 11) % 2147483647) % ((n : Int) - (i : Int))).toNat) hL (by omega) (by omega) (by omega) ?_
    walk_at "rd"
    refine app_N (a := row) (by rw [upd_ne hlr.symm]; exact hR) (by omega) ?_
    refine ⟨⟨_, rfl⟩, (s.up hl).up hr0, ?_, upd_same⟩
    rw [upd_ne hlr, upd_same] <;> rfl
  · rintro σ H' ⟨⟨v, rfl⟩, s, hL, hR⟩
    walk_at "rd"
    exact tup_L (sqL hR) fun q hq => k q _ (s.new hq) (s.free hq) upd_same
end Shf

/-! law k01 -/
namespace Shf
open PySem L2
theorem size16 (z : Int) : ∃ n : Nat, 1 + z % 16 = (n : Int) ∧ 1 ≤ n ∧ n ≤ 16 := by
  have a := Int.emod_nonneg z (b := 16) (by decide)
  have b := Int.emod_lt_of_pos z (b := 16) (by decide)
  exact ⟨(1 + z % 16).toNat, by omega, by omega, by omega⟩
end Shf

/-! laws k03, k04: what is refused -/
namespace Shf
open PySem L2
section
variable {K : PySem.W.Frag} {H : Hp} {Q : VK} {p q : Addr}
theorem is_E {D C a : Addr} {b : Bool} (x : ExcC K D) (h : PySem.W.kitOne K (.ref D) (.ref C) = some b) (k : Q (.bl b) H) : rIsE2 K (.ref D) none a [.ref a, .ref C] H Q := ⟨D, rfl, rfl, x, .ref C, .ref C, b, rfl, fun _ r => r, h, k⟩
theorem is_ET {D a : Addr} {T : String} {b : Bool} (x : ExcC K D) (h : PySem.W.kitOne K (.ref D) (.type T) = some b) (k : Q (.bl b) H) : rIsE2 K (.ref D) none a [.ref a, .ty T] H Q := ⟨D, rfl, rfl, x, .ty T, .type T, b, rfl, fun _ r => r, h, k⟩
abbrev vB (a : List Bool) : List V := a.map V.bl
def dB (a : List Bool) : PyData := .tuple (a.map PyData.bool)
theorem dpAll_B : ∀ (a : List Bool), DpAll K H (vB a) (a.map PyData.bool)
  | [] => .nil
  | x :: r => .cons (.bl x) (dpAll_B r)
theorem eqv_bool (x y : Bool) : PyData.eqv (.bool x) (.bool y) = decide (x = y) := by
  unfold PyData.eqv
  cases x <;> cases y <;> rfl
theorem eqv_B (a b : List Bool) : PyData.eqv (dB a) (dB b) = decide (a = b) := by
  unfold dB PyData.eqv
  exact eqvAll_map eqv_bool a b
theorem shp_B (a : List Bool) : SeqAt.shaped (dB a) = true := by
  refine shp ?_ ?_
  · unfold dB PyData.canLay0
    exact canAll_map (fun x => by simp [PyData.canLay0]) a
  · unfold dB PyData.depth
    have := depthAll_map (f := PyData.bool) (n := 0) (fun x => by simp [PyData.depth]) a
    omega
theorem eq_TB {a b : List Bool} (ha : SqT K H p (vB a)) (hb : SqT K H q (vB b)) (k : Q (.bl (decide (a = b))) H) : rEqD K (.ref p) (.ref q) H Q := ⟨dB a, dB b, .tup ha (dpAll_B a), .tup hb (dpAll_B b), shp_B a, shp_B b, by rw [eqv_B]; exact k⟩
theorem ne_TB {a b : List Bool} (ha : SqT K H p (vB a)) (hb : SqT K H q (vB b)) (k : Q (.bl (!decide (a = b))) H) : rNeD K (.ref p) (.ref q) H Q := ⟨dB a, dB b, .tup ha (dpAll_B a), .tup hb (dpAll_B b), shp_B a, shp_B b, by rw [eqv_B]; exact k⟩
end
/-- one seat's number put in the place of another -/
def spoil (a : List Nat) (c : Int) : List Nat := if a.length < 2 then a else a.set (c % (a.length : Int)).toNat (a.getD ((c + 1) % (a.length : Int)).toNat 0)
def sp_L_spoiled (K : PySem.W.Frag) (g : Gd) : Sp := fun vs H Q _ => ∃ (p : Addr) (a : List Nat) (c : Int), vs = [.ref p, .int c] ∧ SqT K H p (vN a) ∧ a.length ≤ 1000 ∧ ∀ (r : Addr) (H' : Hp), Same H H' → SqT K H' r (vN (spoil a c)) → Q (.ref r) H'
theorem len_L_spoiled (K : PySem.W.Frag) (g : Gd) (vs : List V) (H : Hp) (Q : VK) (E : XK) (h : sp_L_spoiled K g vs H Q E) : vs.length = 2 := by obtain ⟨_, _, _, rfl, _⟩ := h; rfl
abbrev N_L_spoiled : List Str := ["row", "cell", "some"]
/-- _law_spoiled -/
def t_L_spoiled (K : PySem.W.Frag) (g : Gd) (E : XK) : TS :=
  (tSeq (tIfS (tTest (tOp rLtI (tCB (rLenQ K) (tCons (tVar 0) tNil)) (tC (.int 2)))) (tRet (tVar 0)) tNext)
    (tSeq (tAsg (tCB (rListOf K) (tCons (tVar 0) tNil)) (gName 2))
    (tSeq (tAsg (tOp (rIxT K) (tVar 0) (tOp rModI (tOp rAddI (tVar 1) (tC (.int 1))) (tCB (rLenQ K) (tCons (tVar 0) tNil)))) (gSub (tVar 2) (tOp rModI (tVar 1) (tCB (rLenQ K) (tCons (tVar 0) tNil))) rSetL))
    (tRet (tCB (rTupOf K) (tCons (tVar 2) tNil))))))
theorem pure_L_spoiled {K : PySem.W.Frag} {g : Gd} (vs : List V) (H : Hp) (Q : VK) (E : XK) (h : sp_L_spoiled K g vs H Q E) : Rd1 (t_L_spoiled K g E) N_L_spoiled vs H Q := by
  obtain ⟨p, a, c, rfl, hp, hl, k⟩ := h
  unfold t_L_spoiled
  walk_at "rd"
  refine len_TN hp ?_
  walk_at "rd"
  refine if_d (fun h2 => ?_) (fun h2 => ?_)
  · walk_at "rd"
    refine k p H (Same.refl H) ?_
    unfold spoil
    rw [if_pos (by omega)]
    exact hp
  walk_at "rd"
  refine ⟨p, _, rfl, .inr hp, fun l hl1 => ?_⟩
  have s1 := (Same.refl H).new (o := .lst (vN a)) hl1
  have hm : (0 : Int) < (a.length : Int) := by omega
  have b1 := Int.emod_nonneg c (Int.ne_of_gt hm)
  have b2 := Int.emod_lt_of_pos c hm
  have b3 := Int.emod_nonneg (c + 1) (Int.ne_of_gt hm)
  have b4 := Int.emod_lt_of_pos (c + 1) hm
  walk_at "rd"
  refine len_TN (s1.tup hp) ?_
  refine mod_I hm ?_
  refine ix_TN (i := ((c + 1) % (a.length : Int)).toNat) (s1.tup hp) (by omega) (by omega) ?_
  walk_at "rd"
  refine len_TN (s1.tup hp) ?_
  refine mod_I hm ?_
  refine set_N (i := (c % (a.length : Int)).toNat) upd_same (by omega) (by omega) ?_
  walk_at "rd"
  refine tup_L (sqL upd_same) fun r hr => k r _ ((s1.up hl1).new hr) (sqT ?_)
  unfold spoil
  rw [upd_same, if_neg (by omega)]
theorem spoil_len (a : List Nat) (c : Int) : (spoil a c).length = a.length := by
  unfold spoil
  split
  · rfl
  · rw [List.length_set]
/-- .. and it is no seating where it has two seats or more -/
theorem spoil_bad {n : Nat} {a : List Nat} (h : IsP n a) (h2 : 2 ≤ n) (c : Int) : SeatB ((spoil a c).map fun (x : Nat) => (x : Int)) = false := by
  refine Bool.eq_false_iff.mpr fun z => ?_
  obtain ⟨b, pb, eb, _, _⟩ := seatB_is z
  rw [vInj] at eb
  rw [List.length_map, spoil_len, h.len, ← eb] at pb
  have hm : (0 : Int) < (n : Int) := by omega
  have b1 := Int.emod_nonneg c (Int.ne_of_gt hm)
  have b2 := Int.emod_lt_of_pos c hm
  have b3 := Int.emod_nonneg (c + 1) (Int.ne_of_gt hm)
  have b4 := Int.emod_lt_of_pos (c + 1) hm
  have hs : spoil a c = a.set (c % (n : Int)).toNat (a.getD ((c + 1) % (n : Int)).toNat 0) := by
    unfold spoil
    rw [h.len, if_neg (by omega)]
  rw [hs] at pb
  have hne : (c % (n : Int)).toNat ≠ ((c + 1) % (n : Int)).toNat := fun e => by
    have e1 : c % (n : Int) = (c + 1) % (n : Int) := by omega
    have e2 : ((c + 1) - c) % (n : Int) = 0 := Int.emod_eq_emod_iff_emod_sub_eq_zero.mp e1.symm
    have e3 : (1 : Int) % (n : Int) = 1 := Int.emod_eq_of_lt (by decide) (by omega)
    have e4 : c + 1 - c = 1 := by omega
    rw [e4, e3] at e2
    cases e2
  have l1 : (c % (n : Int)).toNat < (a.set (c % (n : Int)).toNat (a.getD ((c + 1) % (n : Int)).toNat 0)).length := by rw [List.length_set, h.len]; omega
  have l2 : ((c + 1) % (n : Int)).toNat < (a.set (c % (n : Int)).toNat (a.getD ((c + 1) % (n : Int)).toNat 0)).length := by rw [List.length_set, h.len]; omega
  refine hne (nd_getD pb.nd l1 l2 ?_)
  have e1 : (a.set (c % (n : Int)).toNat (a.getD ((c + 1) % (n : Int)).toNat 0)).getD (c % (n : Int)).toNat 0 = a.getD ((c + 1) % (n : Int)).toNat 0 := by
    rw [List.getD_eq_getElem?_getD, List.getElem?_set_self (by rw [h.len]; omega)] <;> rfl
  have e2 : (a.set (c % (n : Int)).toNat (a.getD ((c + 1) % (n : Int)).toNat 0)).getD ((c + 1) % (n : Int)).toNat 0 = a.getD ((c + 1) % (n : Int)).toNat 0 := by
    rw [List.getD_eq_getElem?_getD, List.getElem?_set_ne hne, ← List.getD_eq_getElem?_getD]
  rw [e1, e2]
--@extra exm NoSeating RoomError
--@extra exm OtherSize RoomError
--@extra isE NoSeating
--@extra isE OtherSize
--@extra kit NoSeating NoSeating true
--@extra kit NoSeating OtherSize false
--@extra kit OtherSize NoSeating false
--@extra kit OtherSize OtherSize true
--@facts _law_told m_NoSeating_RoomError m_OtherSize_RoomError e_NoSeating e_OtherSize k_NoSeating_NoSeating k_NoSeating_OtherSize k_OtherSize_NoSeating k_OtherSize_OtherSize
/-- what then(one, two) ends in, told by two truths -/
def toldOf (a b : List Int) : List Bool := [!(SeatB a && SeatB b), SeatB a && SeatB b && !decide (a.length = b.length)]
def sp_L_told (K : PySem.W.Frag) (g : Gd) : Sp := fun vs H Q _ => ∃ (p q : Addr) (a b : List Int), vs = [.ref p, .ref q] ∧ SqT K H p (vI a) ∧ SqT K H q (vI b) ∧ a.length ≤ 1000 ∧ b.length ≤ 1000 ∧ ∀ (r : Addr) (H' : Hp), Same H H' → H' r = some (.tup (vB (toldOf a b))) → Q (.ref r) H'
theorem len_L_told (K : PySem.W.Frag) (g : Gd) (vs : List V) (H : Hp) (Q : VK) (E : XK) (h : sp_L_told K g vs H Q E) : vs.length = 2 := by obtain ⟨_, _, _, _, rfl, _⟩ := h; rfl
abbrev N_L_told : List Str := ["one", "two", "told", "e"]
/-- _law_told -/
def t_L_told (K : PySem.W.Frag) (g : Gd) (E : XK) : TS :=
  (tSeq (tAsg (tTup (tCons (tC (.bl false)) (tCons (tC (.bl false)) tNil))) (gName 2))
    (tSeq (fun D σ H => (fun W => (tDrop (tCallS (sp_then K g) (WE W) (tCons (tVar 0) (tCons (tVar 1) tNil))))) (wAs K (.ref g.RoomError) 3 (fun a cls d => (tAsg (tTup (tCons (tCB (rIsE2 K cls d a) (tCons (tVar 3) (tCons (tC (.ref g.NoSeating)) tNil))) (tCons (tCB (rIsE2 K cls d a) (tCons (tVar 3) (tCons (tC (.ref g.OtherSize)) tNil))) tNil))) (gName 2))) (wE E) D) D σ H)
    (tRet (tVar 2))))
theorem pure_L_told {K : PySem.W.Frag} {g : Gd} (f1 : PySem.W.exmOne K (.ref g.NoSeating) (.ref g.RoomError) = some true) (f2 : PySem.W.exmOne K (.ref g.OtherSize) (.ref g.RoomError) = some true) (f3 : ExcC K g.NoSeating) (f4 : ExcC K g.OtherSize)
    (f5 : PySem.W.kitOne K (.ref g.NoSeating) (.ref g.NoSeating) = some true) (f6 : PySem.W.kitOne K (.ref g.NoSeating) (.ref g.OtherSize) = some false) (f7 : PySem.W.kitOne K (.ref g.OtherSize) (.ref g.NoSeating) = some false) (f8 : PySem.W.kitOne K (.ref g.OtherSize) (.ref g.OtherSize) = some true)
    (vs : List V) (H : Hp) (Q : VK) (E : XK) (h : sp_L_told K g vs H Q E) : Rd1 (t_L_told K g E) N_L_told vs H Q := by
  obtain ⟨p, q, a, b, rfl, hp, hq, hla, hlb, k⟩ := h
  unfold t_L_told
  walk_at "rd"
  refine ⟨zl (by show 2 ≤ 100000; decide), fun r0 hr0 => ?_⟩
  have s0 := (Same.refl H).new (o := .tup [V.bl false, V.bl false]) hr0
  walk_at "rd"
  refine ⟨p, q, a, b, rfl, s0.tup hp, s0.tup hq, hla, hlb, fun hb => ?_, fun ba bb ne => ?_, fun n a' b' ea eb pa pb h1 h2 => ?_⟩
  · refine ⟨true, f1, fun _ ea hea => ?_, fun z => by cases z⟩
    walk_at "rd"
    refine is_E f3 f5 ?_
    walk_at "rd"
    refine is_E f3 f6 ?_
    walk_at "rd"
    refine ⟨zl (by show 2 ≤ 100000; decide), fun r hr => ?_⟩
    walk_at "rd"
    refine k r _ (s0.new hr) ?_
    rw [upd_same]
    have e : (SeatB a && SeatB b) = false := by rcases hb with hb | hb <;> rw [hb] <;> simp
    unfold toldOf
    rw [e] <;> rfl
  · refine ⟨true, f2, fun _ ea hea => ?_, fun z => by cases z⟩
    walk_at "rd"
    refine is_E f4 f7 ?_
    walk_at "rd"
    refine is_E f4 f8 ?_
    walk_at "rd"
    refine ⟨zl (by show 2 ≤ 100000; decide), fun r hr => ?_⟩
    walk_at "rd"
    refine k r _ (s0.new hr) ?_
    rw [upd_same]
    unfold toldOf
    rw [ba, bb, decide_eq_false ne] <;> rfl
  · intro r H1 s1 _ hr
    walk_at "rd"
    refine k r0 _ (s0.trans s1) ?_
    rw [s1 _ _ upd_same]
    unfold toldOf
    rw [ea, eb, seatB_N pa h1 h2, seatB_N pb h1 h2, List.length_map, List.length_map, pa.len, pb.len, decide_eq_true rfl] <;> rfl
abbrev N_law_k04 : List Str := ["script", "size", "other", "one", "two", "way", "bad"]
/-- law -/
def t_law_k04 (K : PySem.W.Frag) (g : Gd) (E : XK) : TS :=
  (tSeq (tAsg (tOp rAddI (tC (.int 1)) (tOp rModI (tCallS (sp_L_cell_at K g) (fun _ => E0) (tCons (tVar 0) (tCons (tC (.int 0)) tNil))) (tC (.int 16)))) (gName 1))
    (tSeq (tAsg (tVar 1) (gName 2))
    (tSeq (tIfS (tTest (tOp rEq (tOp rModI (tOp rDivI (tCallS (sp_L_cell_at K g) (fun _ => E0) (tCons (tVar 0) (tCons (tC (.int 0)) tNil))) (tC (.int 16))) (tC (.int 2))) (tC (.int 1)))) (tAsg (tOp rAddI (tC (.int 1)) (tOp rModI (tCallS (sp_L_cell_at K g) (fun _ => E0) (tCons (tVar 0) (tCons (tC (.int 1)) tNil))) (tC (.int 16)))) (gName 2)) tNext)
    (tSeq (tAsg (tCallS (sp_L_far K g) (fun _ => E0) (tCons (tCallS (sp_L_cell_at K g) (fun _ => E0) (tCons (tVar 0) (tCons (tC (.int 2)) tNil))) (tCons (tVar 1) tNil))) (gName 3))
    (tSeq (tAsg (tCallS (sp_L_far K g) (fun _ => E0) (tCons (tCallS (sp_L_cell_at K g) (fun _ => E0) (tCons (tVar 0) (tCons (tC (.int 3)) tNil))) (tCons (tVar 2) tNil))) (gName 4))
    (tSeq (tAsg (tOp rModI (tCallS (sp_L_cell_at K g) (fun _ => E0) (tCons (tVar 0) (tCons (tC (.int 4)) tNil))) (tC (.int 5))) (gName 5))
    (tSeq (tAsg (tC (.bl false)) (gName 6))
    (tSeq (tIfS (tOr (tTest (tOp rEq (tVar 5) (tC (.int 1)))) (tTest (tOp rEq (tVar 5) (tC (.int 3))))) (tSeq (tAsg (tCallS (sp_L_spoiled K g) (fun _ => E0) (tCons (tVar 3) (tCons (tCallS (sp_L_cell_at K g) (fun _ => E0) (tCons (tVar 0) (tCons (tC (.int 5)) tNil))) tNil))) (gName 3))
    (tAsg (tOp rGtI (tVar 1) (tC (.int 1))) (gName 6))) tNext)
    (tSeq (tIfS (tOr (tTest (tOp rEq (tVar 5) (tC (.int 2)))) (tTest (tOp rEq (tVar 5) (tC (.int 3))))) (tSeq (tAsg (tCallS (sp_L_spoiled K g) (fun _ => E0) (tCons (tVar 4) (tCons (tCallS (sp_L_cell_at K g) (fun _ => E0) (tCons (tVar 0) (tCons (tC (.int 6)) tNil))) tNil))) (gName 4))
    (tAsg (tOrV (tVar 6) (tOp rGtI (tVar 2) (tC (.int 1)))) (gName 6))) tNext)
    (tRet (tOp (rEqD K) (tCallS (sp_L_told K g) (fun _ => E0) (tCons (tVar 3) (tCons (tVar 4) tNil))) (tTup (tCons (tVar 6) (tCons (tAndV (tNotV (tVar 6)) (tOp rNe (tVar 1) (tVar 2))) tNil))))))))))))))
theorem pure_law_k04 {K : PySem.W.Frag} {g : Gd} (vs : List V) (H : Hp) (Q : VK) (E : XK) (h : sp_law K vs H Q E) : Rd1 (t_law_k04 K g E) N_law_k04 vs H Q := by
  obtain ⟨a, ns, rfl, hS, _, k⟩ := h
  unfold t_law_k04
  walk_at "rd"
  refine ⟨a, ns, 0, rfl, hS, ?_⟩
  walk_at "rd"
  refine mod_I (by decide) ?_
  obtain ⟨n, hn, h1, h2⟩ := size16 (ns.getD 0 0)
  walk_at "re"
  rw [hn]
  walk_at "sq"
  walk_at "re"
  walk_at "sq"
  refine w_join (t := tIfS _ _ _) (fun σ H' => ∃ m : Nat, σ = [some (.ref a), some (.int (n : Int)), some (.int (m : Int)), none, none, none, none] ∧ 1 ≤ m ∧ m ≤ 16 ∧ Same H H') ?_ fun key => ?_
  · rintro σ H' ⟨m, rfl, m1, m2, s⟩
    walk_at "rd"
    refine ⟨a, ns, 2, rfl, s.seq hS, ?_⟩
    walk_at "rd"
    refine ⟨_, n, rfl, by omega, fun p H1 s1 _ hp => ?_⟩
    have s1 := s.trans s1
    walk_at "rd"
    refine ⟨a, ns, 3, rfl, s1.seq hS, ?_⟩
    walk_at "rd"
    refine ⟨_, m, rfl, by omega, fun q H2 s2 _ hq => ?_⟩
    have hp := s2 _ _ hp
    have s2 := s1.trans s2
    walk_at "rd"
    refine ⟨a, ns, 4, rfl, s2.seq hS, ?_⟩
    walk_at "rd"
    refine mod_I (by decide) ?_
    walk_at "re"
    walk_at "sq"
    walk_at "re"
    walk_at "sq"
    have px := isP_far (ns.getD 2 0) n
    have py := isP_far (ns.getD 3 0) m
    generalize farN (ns.getD 2 0) n = x at hp px ⊢
    generalize farN (ns.getD 3 0) m = y at hq py ⊢
    generalize ns.getD 4 0 % 5 = way
    have bx : SeatB (x.map fun (x : Nat) => (x : Int)) = true := seatB_N px h1 h2
    have b2 : SeatB (y.map fun (x : Nat) => (x : Int)) = true := seatB_N py m1 m2
    refine w_join (t := tIfS _ _ _) (fun σ H' => ∃ (p : Addr) (x : List Nat) (bad : Bool), σ = [some (.ref a), some (.int (n : Int)), some (.int (m : Int)), some (.ref p), some (.ref q), some (.int way), some (.bl bad)] ∧ Same H2 H' ∧ SqT K H' p (vN x) ∧ x.length = n ∧
      SeatB (x.map fun (x : Nat) => (x : Int)) = !bad) ?_ fun key => ?_
    · clear hp
      rintro σ H' ⟨p, x, bad, rfl, s3, hp, hx, g1⟩
      walk_at "sq"
      refine w_join (t := tIfS _ _ _) (fun σ H' => ∃ (q : Addr) (y : List Nat) (bad' : Bool), σ = [some (.ref a), some (.int (n : Int)), some (.int (m : Int)), some (.ref p), some (.ref q), some (.int way), some (.bl (bad || bad'))] ∧ SqT K H' p (vN x) ∧ SqT K H' q (vN y) ∧ y.length = m ∧
        SeatB (y.map fun (x : Nat) => (x : Int)) = !bad') ?_ fun key => ?_
      · clear hp
        rintro σ H' ⟨q, y, bad', rfl, hp, hq, hy, g2⟩
        walk_at "rd"
        rw [vN_eq] at hp hq
        refine ⟨p, q, _, _, rfl, hp, hq, by rw [List.length_map]; omega, by rw [List.length_map]; omega, fun r H4 s4 hr => ?_⟩
        have et : toldOf (x.map fun (x : Nat) => (x : Int)) (y.map fun (x : Nat) => (x : Int)) = [bad || bad', !(bad || bad') && !decide ((n : Int) = (m : Int))] := by
          unfold toldOf
          rw [g1, g2, List.length_map, List.length_map, hx, hy, dec_iff (show (n = m) ↔ (n : Int) = (m : Int) by omega)]
          cases bad <;> cases bad' <;> rfl
        rw [et] at hr
        walk_at "rd"
        refine if_nb (fun c => ?_) (fun c => ?_)
        · walk_at "rd"
          refine ⟨zl (by show 2 ≤ 100000; decide), fun r2 hr2 => ?_⟩
          refine eq_TB (a := [bad || bad', !(bad || bad') && !decide ((n : Int) = (m : Int))]) (b := [bad || bad', !decide ((n : Int) = (m : Int))]) (sqT (by rw [upd_ne (ne_of_none hr hr2)]; exact hr)) (sqT upd_same) ?_
          rw [c, decide_eq_true (by simp)]
          exact k _
        · walk_at "rd"
          refine ⟨zl (by show 2 ≤ 100000; decide), fun r2 hr2 => ?_⟩
          refine eq_TB (a := [bad || bad', !(bad || bad') && !decide ((n : Int) = (m : Int))]) (b := [bad || bad', false]) (sqT (by rw [upd_ne (ne_of_none hr hr2)]; exact hr)) (sqT upd_same) ?_
          rw [c, decide_eq_true (by simp)]
          exact k _
      · have no : ∀ H', Same H2 H' → SqT K H' p (vN x) → ∃ (q : Addr) (y : List Nat) (bad' : Bool), [some (V.ref a), some (V.int (n : Int)), some (V.int (m : Int)), some (V.ref p), some (V.ref _), some (V.int way), some (V.bl bad)] = [some (V.ref a), some (V.int (n : Int)), some (V.int (m : Int)), some (V.ref p), some (V.ref q), some (V.int way), some (V.bl (bad || bad'))] ∧ SqT K H' p (vN x) ∧ SqT K H' q (vN y) ∧ y.length = m ∧ SeatB (y.map fun (x : Nat) => (x : Int)) = !bad' :=
          fun H' s h => ⟨q, y, false, by rw [Bool.or_false], h, sqT (s _ _ hq), py.len, b2⟩
        refine w_if ?_
        refine w_orP (b := decide (way = 2)) (c := decide (way = 3)) (fun R h => ?_) (fun R h => ?_) ?_
        · walk_at "re"
          exact h
        · walk_at "re"
          exact h
        refine if_b (fun c => ?_) (fun c => key _ _ (no _ s3 hp))
        · walk_at "rd"
          refine ⟨a, ns, 6, rfl, (s2.trans s3).seq hS, ?_⟩
          walk_at "rd"
          refine ⟨q, y, _, rfl, sqT (s3 _ _ hq), by rw [py.len]; omega, fun q2 H5 s5 hq2 => ?_⟩
          walk_at "rd"
          have bb : SeatB ((spoil y (ns.getD 6 0)).map fun (x : Nat) => (x : Int)) = !decide ((1 : Int) < (m : Int)) := by
            by_cases c : (1 : Int) < (m : Int)
            · rw [decide_eq_true c, spoil_bad py (by omega)] <;> rfl
            · rw [decide_eq_false c]
              unfold spoil
              rw [if_pos (by rw [py.len]; omega), b2] <;> rfl
          have hl : (spoil y (ns.getD 6 0)).length = m := by rw [spoil_len, py.len]
          refine if_b (fun c => ?_) (fun c => ?_)
          · walk_at "ex"
            refine key _ _ ⟨q2, _, _, ?_, s5.tup hp, hq2, hl, bb⟩
            rw [c, Bool.true_or] <;> rfl
          · walk_at "ex"
            refine key _ _ ⟨q2, _, _, ?_, s5.tup hp, hq2, hl, bb⟩
            rw [c, Bool.false_or] <;> rfl
    · refine w_if ?_
      refine w_orP (b := decide (way = 1)) (c := decide (way = 3)) (fun R h => ?_) (fun R h => ?_) ?_
      · walk_at "re"
        exact h
      · walk_at "re"
        exact h
      refine if_b (fun c => ?_) (fun c => key _ _ ⟨p, x, false, rfl, Same.refl _, sqT hp, px.len, bx⟩)
      · walk_at "rd"
        refine ⟨a, ns, 5, rfl, s2.seq hS, ?_⟩
        walk_at "rd"
        refine ⟨p, x, _, rfl, sqT hp, by rw [px.len]; omega, fun p2 H5 s5 hp2 => ?_⟩
        walk_at "re"
        have bb : SeatB ((spoil x (ns.getD 5 0)).map fun (x : Nat) => (x : Int)) = !decide ((1 : Int) < (n : Int)) := by
          by_cases c : (1 : Int) < (n : Int)
          · rw [decide_eq_true c, spoil_bad px (by omega)] <;> rfl
          · rw [decide_eq_false c]
            unfold spoil
            rw [if_pos (by rw [px.len]; omega), bx] <;> rfl
        walk_at "sq"
        walk_at "re"
        exact key _ _ ⟨p2, _, _, rfl, s5, hp2, by rw [spoil_len, px.len], bb⟩
  · walk_at "rd"
    refine ⟨a, ns, 0, rfl, hS, ?_⟩
    walk_at "rd"
    refine div_I (by decide) (by decide) ?_
    walk_at "rd"
    refine mod_I (by decide) ?_
    walk_at "rd"
    refine if_d (fun c => ?_) (fun c => key _ _ ⟨n, rfl, h1, h2, Same.refl H⟩)
    walk_at "rd"
    refine ⟨a, ns, 1, rfl, hS, ?_⟩
    walk_at "rd"
    refine mod_I (by decide) ?_
    obtain ⟨m, hm, m1, m2⟩ := size16 (ns.getD 1 0)
    walk_at "re"
    rw [hm]
    exact key _ _ ⟨m, rfl, m1, m2, Same.refl H⟩
end Shf

namespace Shf
open PySem L2
def top (i : Nat) : Stmt := PySem.Challenge.pw_shiftroom_k04_refused_in_order.main.body.getD i (.Pass ⟨0, 0, 0, 0⟩)
abbrev s_L_cell_at : Stmt := top 11
abbrev s_L_far : Stmt := top 12
abbrev s_L_spoiled : Stmt := top 13
abbrev s_is_seating : Stmt := top 6
abbrev s_ask_seating : Stmt := top 7
abbrev s_joined : Stmt := top 8
abbrev s_then : Stmt := top 9
abbrev s_L_told : Stmt := top 14
abbrev s_law_k04 : Stmt := top 15
structure Txt (K : PySem.W.Frag) (mg : Str → Option Value) (g : Gd) : Prop where
  z_isinstance : mg "isinstance" = none
  z_len : mg "len" = none
  z_list : mg "list" = none
  z_range : mg "range" = none
  z_tuple : mg "tuple" = none
  c_MOST : ∃ t, mg "MOST" = some (.int 16 t)
  g_NoSeating : mg "NoSeating" = some (.ref g.NoSeating)
  g_OtherSize : mg "OtherSize" = some (.ref g.OtherSize)
  g_RoomError : mg "RoomError" = some (.ref g.RoomError)
  x_NoSeating : ExB K mg "NoSeating" g.NoSeating
  x_OtherSize : ExB K mg "OtherSize" g.OtherSize
  x_RoomError : ExB K mg "RoomError" g.RoomError
  m_NoSeating_RoomError : PySem.W.exmOne K (.ref g.NoSeating) (.ref g.RoomError) = some true
  m_OtherSize_RoomError : PySem.W.exmOne K (.ref g.OtherSize) (.ref g.RoomError) = some true
  e_NoSeating : ExcC K g.NoSeating
  e_OtherSize : ExcC K g.OtherSize
  k_NoSeating_NoSeating : PySem.W.kitOne K (.ref g.NoSeating) (.ref g.NoSeating) = some true
  k_NoSeating_OtherSize : PySem.W.kitOne K (.ref g.NoSeating) (.ref g.OtherSize) = some false
  k_OtherSize_NoSeating : PySem.W.kitOne K (.ref g.OtherSize) (.ref g.NoSeating) = some false
  k_OtherSize_OtherSize : PySem.W.kitOne K (.ref g.OtherSize) (.ref g.OtherSize) = some true
section
variable {P : Program} {w : World} {K : PySem.W.Frag} {mg : Str → Option Value} {base : Heap} {g : Gd}
theorem sc_L_cell_at : FnScope N_L_cell_at ["script", "k"] (defScope s_L_cell_at) := ⟨rfl, rfl, rfl, by decide +kernel, rfl, by decide +kernel, by decide +kernel⟩
theorem ok_L_cell_at {f : Addr} {fd : FuncData} (T : Txt K mg g) (F : Fun K "_law_cell_at" "_law_cell_at" s_L_cell_at f fd)  : FnOk P w K mg base (L2.CX P w) 1 f fd ["script", "k"] (sp_L_cell_at K g) := by
  refine F.okX sc_L_cell_at (fun vs H Q E h => len_L_cell_at K g vs H Q E h) (fun cdv A outer s H vs Q E hr h => ⟨t_L_cell_at K g E, ?_, pure_L_cell_at  vs H Q E h⟩)
  have hu := hu_of hr
  have tkE : Takes (cxOf (L2.CX P w) P w K mg base N_L_cell_at "_law_cell_at" (defScope s_L_cell_at) f cdv A outer s H E) (wE E) := takes_of rfl rfl rfl rfl
  exact (pss_cons (ps_if (pt_cmpR op_lt (pv 1) (pe_callB call_len_seq (by rfl) T.z_len PySem.boot_len (pa_cons (pv 0) pa_nil)) (nomark _)) (pss_one (ps_ret (pe_ix ix_list (pv 0) (pv 1) (fun _ _ => rfl)))) pss_nil)
    (pss_one (ps_ret pe_int)))
theorem sc_L_far : FnScope N_L_far ["cell", "size"] (defScope s_L_far) := ⟨rfl, rfl, rfl, by decide +kernel, rfl, by decide +kernel, by decide +kernel⟩
theorem ok_L_far {f : Addr} {fd : FuncData} (T : Txt K mg g) (F : Fun K "_law_far" "_law_far" s_L_far f fd)  : FnOk P w K mg base (L2.CX P w) 1 f fd ["cell", "size"] (sp_L_far K g) := by
  refine F.okX sc_L_far (fun vs H Q E h => len_L_far K g vs H Q E h) (fun cdv A outer s H vs Q E hr h => ⟨t_L_far K g E, ?_, pure_L_far  vs H Q E h⟩)
  have hu := hu_of hr
  have tkE : Takes (cxOf (L2.CX P w) P w K mg base N_L_far "_law_far" (defScope s_L_far) f cdv A outer s H E) (wE E) := takes_of rfl rfl rfl rfl
  exact (pss_cons (ps_set (i := 2) sc_L_far.nd rfl (Or.inl rfl) (pe_listRg rfl (by rfl) T.z_list (prg_1 (by rfl) T.z_range (pv 1))))
    (pss_cons (ps_set (i := 3) sc_L_far.nd rfl (Or.inl rfl) (pe_lst pa_nil))
    (pss_cons (ps_for (passes_of rfl) rfl (pi_range1 (by rfl) T.z_range (pa_cons (pv 1) pa_nil)) (pg_name (i := 4) sc_L_far.nd rfl (Or.inl rfl)) (pss_cons (ps_set (i := 0) sc_L_far.nd rfl (Or.inl rfl) (pe_op op_modN (pe_op op_add (pe_op op_mul (pv 0) pe_int) pe_int) pe_int))
    (pss_one (ps_expr (pe_bm PySem.F.plainAttrs_list PySem.F.slot_list_append PySem.F.type_list_append mt_append (pv 3) (pa_cons (pe_bm PySem.F.plainAttrs_list PySem.F.slot_list_pop PySem.F.type_list_pop mt_popAt (pv 2) (pa_cons (pe_op op_modN (pv 0) (pe_op op_sub (pv 1) (pv 4))) pa_nil)) pa_nil))))))
    (pss_one (ps_ret (pe_callTy call_tuple_of (by rfl) T.z_tuple (by decide +kernel) (pa_cons (pv 3) pa_nil)))))))
theorem sc_L_spoiled : FnScope N_L_spoiled ["row", "cell"] (defScope s_L_spoiled) := ⟨rfl, rfl, rfl, by decide +kernel, rfl, by decide +kernel, by decide +kernel⟩
theorem ok_L_spoiled {f : Addr} {fd : FuncData} (T : Txt K mg g) (F : Fun K "_law_spoiled" "_law_spoiled" s_L_spoiled f fd)  : FnOk P w K mg base (L2.CX P w) 1 f fd ["row", "cell"] (sp_L_spoiled K g) := by
  refine F.okX sc_L_spoiled (fun vs H Q E h => len_L_spoiled K g vs H Q E h) (fun cdv A outer s H vs Q E hr h => ⟨t_L_spoiled K g E, ?_, pure_L_spoiled  vs H Q E h⟩)
  have hu := hu_of hr
  have tkE : Takes (cxOf (L2.CX P w) P w K mg base N_L_spoiled "_law_spoiled" (defScope s_L_spoiled) f cdv A outer s H E) (wE E) := takes_of rfl rfl rfl rfl
  exact (pss_cons (ps_if (pt_cmpR op_lt (pe_callB call_len_seq (by rfl) T.z_len PySem.boot_len (pa_cons (pv 0) pa_nil)) pe_int (nomark _)) (pss_one (ps_ret (pv 0))) pss_nil)
    (pss_cons (ps_set (i := 2) sc_L_spoiled.nd rfl (Or.inl rfl) (pe_callTy call_list_of (by rfl) T.z_list (by decide +kernel) (pa_cons (pv 0) pa_nil)))
    (pss_cons (ps_asg (pe_ix ix_tup (pv 0) (pe_op op_modN (pe_op op_add (pv 1) pe_int) (pe_callB call_len_seq (by rfl) T.z_len PySem.boot_len (pa_cons (pv 0) pa_nil))) (fun _ _ => rfl)) (pg_sub (pv 2) (pe_op op_modN (pv 1) (pe_callB call_len_seq (by rfl) T.z_len PySem.boot_len (pa_cons (pv 0) pa_nil))) set_list))
    (pss_one (ps_ret (pe_callTy call_tuple_of (by rfl) T.z_tuple (by decide +kernel) (pa_cons (pv 2) pa_nil)))))))
theorem sc_is_seating : FnScope N_is_seating ["row"] (defScope s_is_seating) := ⟨rfl, rfl, rfl, by decide +kernel, rfl, by decide +kernel, by decide +kernel⟩
theorem ok_is_seating {f : Addr} {fd : FuncData} (T : Txt K mg g) (F : Fun K "is_seating" "is_seating" s_is_seating f fd)  : FnOk P w K mg base (L2.CX P w) 1 f fd ["row"] (sp_is_seating K g) := by
  refine F.okX sc_is_seating (fun vs H Q E h => len_is_seating K g vs H Q E h) (fun cdv A outer s H vs Q E hr h => ⟨t_is_seating K g E, ?_, pure_is_seating  vs H Q E h⟩)
  have hu := hu_of hr
  have tkE : Takes (cxOf (L2.CX P w) P w K mg base N_is_seating "is_seating" (defScope s_is_seating) f cdv A outer s H E) (wE E) := takes_of rfl rfl rfl rfl
  exact (pss_cons (ps_if (PW.pt (pw_or (pt_cmpR op_lt (pe_callB call_len_seq (by rfl) T.z_len PySem.boot_len (pa_cons (pv 0) pa_nil)) pe_int (nomark _)) (pw_or1 (pt_cmpR op_gt (pe_callB call_len_seq (by rfl) T.z_len PySem.boot_len (pa_cons (pv 0) pa_nil)) (pe_globI T.c_MOST) (nomark _))))) (pss_one (ps_ret pe_bl)) pss_nil)
    (pss_cons (ps_for (passes_of rfl) rfl (pi_range1 (by rfl) T.z_range (pa_cons (pe_callB call_len_seq (by rfl) T.z_len PySem.boot_len (pa_cons (pv 0) pa_nil)) pa_nil)) (pg_name (i := 1) sc_is_seating.nd rfl (Or.inl rfl)) (pss_one (ps_if (pt_cmpR op_notIn_seq (pv 1) (pv 0) (by rfl)) (pss_one (ps_ret pe_bl)) pss_nil)))
    (pss_one (ps_ret pe_bl))))
theorem sc_ask_seating : FnScope N_ask_seating ["a"] (defScope s_ask_seating) := ⟨rfl, rfl, rfl, by decide +kernel, rfl, by decide +kernel, by decide +kernel⟩
theorem ok_ask_seating {f : Addr} {fd : FuncData} (T : Txt K mg g) (F : Fun K "ask_seating" "ask_seating" s_ask_seating f fd) (c_is_seating : Cal P w K mg base 1 "is_seating" ["row"] (sp_is_seating K g)) : FnOk P w K mg base (L2.CX P w) 2 f fd ["a"] (sp_ask_seating K g) := by
  refine F.okX sc_ask_seating (fun vs H Q E h => len_ask_seating K g vs H Q E h) (fun cdv A outer s H vs Q E hr h => ⟨t_ask_seating K g E, ?_, pure_ask_seating  vs H Q E h⟩)
  have hu := hu_of hr
  have tkE : Takes (cxOf (L2.CX P w) P w K mg base N_ask_seating "ask_seating" (defScope s_ask_seating) f cdv A outer s H E) (wE E) := takes_of rfl rfl rfl rfl
  exact (pss_one (ps_if (pt_not (pt_val (pe_cal c_is_seating (hr.mono (by decide)) rfl (fun σ => passE0 σ) (pa_cons (pv 0) pa_nil)))) (pss_one (ps_raise rfl tkE (pmk_own PySem.F.excBase_ValueError T.x_NoSeating.ex T.x_NoSeating.gC T.x_NoSeating.kC (raises_own T.x_NoSeating.bC T.x_NoSeating.tC) rfl))) pss_nil))
theorem sc_joined : FnScope N_joined ["a", "b"] (defScope s_joined) := ⟨rfl, rfl, rfl, by decide +kernel, rfl, by decide +kernel, by decide +kernel⟩
theorem ok_joined {f : Addr} {fd : FuncData} (T : Txt K mg g) (F : Fun K "joined" "joined" s_joined f fd)  : FnOk P w K mg base (L2.CX P w) 1 f fd ["a", "b"] (sp_joined K g) := by
  refine F.okX sc_joined (fun vs H Q E h => len_joined K g vs H Q E h) (fun cdv A outer s H vs Q E hr h => ⟨t_joined K g E, ?_, pure_joined  vs H Q E h⟩)
  have hu := hu_of hr
  have tkE : Takes (cxOf (L2.CX P w) P w K mg base N_joined "joined" (defScope s_joined) f cdv A outer s H E) (wE E) := takes_of rfl rfl rfl rfl
  exact (pss_one (ps_ret (pe_callTy call_tuple_of (by rfl) T.z_tuple (by decide +kernel) (pa_cons (pe_lc (own := [("k", 2)]) (g := gName 2) rfl sc_joined.nd (pi_tup (pv 0)) (blkOk_by (own := [("k", 2)]) (N := N_joined) (sc := defScope s_joined) (by decide +kernel)) (fun _ _ _ _ _ => pg_name (i := 2) sc_joined.nd rfl (Or.inl rfl)) (fun _ _ _ _ _ => pts_nil) (fun _ _ _ _ _ => (pe_ix ix_tup (pv 1) (pv 2) (fun _ _ => rfl)))) pa_nil))))
theorem sc_then : FnScope N_then ["a", "b"] (defScope s_then) := ⟨rfl, rfl, rfl, by decide +kernel, rfl, by decide +kernel, by decide +kernel⟩
theorem ok_then {f : Addr} {fd : FuncData} (T : Txt K mg g) (F : Fun K "then" "then" s_then f fd) (c_ask_seating : Cal P w K mg base 2 "ask_seating" ["a"] (sp_ask_seating K g)) (c_joined : Cal P w K mg base 1 "joined" ["a", "b"] (sp_joined K g)) : FnOk P w K mg base (L2.CX P w) 3 f fd ["a", "b"] (sp_then K g) := by
  refine F.okX sc_then (fun vs H Q E h => len_then K g vs H Q E h) (fun cdv A outer s H vs Q E hr h => ⟨t_then K g E, ?_, pure_then  vs H Q E h⟩)
  have hu := hu_of hr
  have tkE : Takes (cxOf (L2.CX P w) P w K mg base N_then "then" (defScope s_then) f cdv A outer s H E) (wE E) := takes_of rfl rfl rfl rfl
  exact (pss_cons (ps_expr (pe_cal c_ask_seating (hr.mono (by decide)) rfl (fun σ => passAt tkE σ) (pa_cons (pv 0) pa_nil)))
    (pss_cons (ps_expr (pe_cal c_ask_seating (hr.mono (by decide)) rfl (fun σ => passAt tkE σ) (pa_cons (pv 1) pa_nil)))
    (pss_cons (ps_if (pt_cmpR op_ne (pe_callB call_len_seq (by rfl) T.z_len PySem.boot_len (pa_cons (pv 0) pa_nil)) (pe_callB call_len_seq (by rfl) T.z_len PySem.boot_len (pa_cons (pv 1) pa_nil)) (nomark _)) (pss_one (ps_raise rfl tkE (pmk_own PySem.F.excBase_ValueError T.x_OtherSize.ex T.x_OtherSize.gC T.x_OtherSize.kC (raises_own T.x_OtherSize.bC T.x_OtherSize.tC) rfl))) pss_nil)
    (pss_one (ps_ret (pe_cal c_joined (hr.mono (by decide)) rfl (fun σ => passE0 σ) (pa_cons (pv 0) (pa_cons (pv 1) pa_nil))))))))
theorem sc_L_told : FnScope N_L_told ["one", "two"] (defScope s_L_told) := ⟨rfl, rfl, rfl, by decide +kernel, rfl, by decide +kernel, by decide +kernel⟩
theorem ok_L_told {f : Addr} {fd : FuncData} (T : Txt K mg g) (F : Fun K "_law_told" "_law_told" s_L_told f fd) (c_then : Cal P w K mg base 3 "then" ["a", "b"] (sp_then K g)) : FnOk P w K mg base (L2.CX P w) 4 f fd ["one", "two"] (sp_L_told K g) := by
  refine F.okX sc_L_told (fun vs H Q E h => len_L_told K g vs H Q E h) (fun cdv A outer s H vs Q E hr h => ⟨t_L_told K g E, ?_, pure_L_told T.m_NoSeating_RoomError T.m_OtherSize_RoomError T.e_NoSeating T.e_OtherSize T.k_NoSeating_NoSeating T.k_NoSeating_OtherSize T.k_OtherSize_NoSeating T.k_OtherSize_OtherSize vs H Q E h⟩)
  have hu := hu_of hr
  have tkE : Takes (cxOf (L2.CX P w) P w K mg base N_L_told "_law_told" (defScope s_L_told) f cdv A outer s H E) (wE E) := takes_of rfl rfl rfl rfl
  exact (pss_cons (ps_set (i := 2) sc_L_told.nd rfl (Or.inl rfl) (pe_tup (pa_cons pe_bl (pa_cons pe_bl pa_nil))))
    (pss_cons (ps_try_as (i := 3) (tb := fun W => (tDrop (tCallS (sp_then K g) (WE W) (tCons (tVar 0) (tCons (tVar 1) tNil))))) (ts := fun a cls d => (tAsg (tTup (tCons (tCB (rIsE2 K cls d a) (tCons (tVar 3) (tCons (tC (.ref g.NoSeating)) tNil))) (tCons (tCB (rIsE2 K cls d a) (tCons (tVar 3) (tCons (tC (.ref g.OtherSize)) tNil))) tNil))) (gName 2))) (Wout := wE E) rfl rfl sc_L_told.nd rfl rfl ⟨rfl, by decide, .inl T.g_RoomError⟩ tkE (fun W pn xe tk po => (pss_one (ps_expr (pe_cal c_then (hr.mono (by decide)) rfl (fun σ => passAt tk σ) (pa_cons (pv 0) (pa_cons (pv 1) pa_nil)))))) (fun a oe cls d pn hz hf => (pss_one (ps_set (i := 2) sc_L_told.nd rfl (Or.inl rfl) (pe_tup (pa_cons (pe_callB (call_isE2 hz hf) (by rfl) T.z_isinstance (by decide +kernel) (pa_cons (pv 3) (pa_cons (pe_glob rfl T.g_NoSeating rfl) pa_nil))) (pa_cons (pe_callB (call_isE2 hz hf) (by rfl) T.z_isinstance (by decide +kernel) (pa_cons (pv 3) (pa_cons (pe_glob rfl T.g_OtherSize rfl) pa_nil))) pa_nil)))))))
    (pss_one (ps_ret (pv 2)))))
theorem sc_law_k04 : FnScope N_law_k04 ["script"] (defScope s_law_k04) := ⟨rfl, rfl, rfl, by decide +kernel, rfl, by decide +kernel, by decide +kernel⟩
theorem ok_law_k04 {f : Addr} {fd : FuncData} (T : Txt K mg g) (F : Fun K "law" "law" s_law_k04 f fd) (c_L_cell_at : Cal P w K mg base 1 "_law_cell_at" ["script", "k"] (sp_L_cell_at K g)) (c_L_far : Cal P w K mg base 1 "_law_far" ["cell", "size"] (sp_L_far K g)) (c_L_spoiled : Cal P w K mg base 1 "_law_spoiled" ["row", "cell"] (sp_L_spoiled K g)) (c_L_told : Cal P w K mg base 4 "_law_told" ["one", "two"] (sp_L_told K g)) : FnOk P w K mg base (L2.CX P w) 5 f fd ["script"] (sp_law K) := by
  refine F.okX sc_law_k04 (fun vs H Q E h => len_law K g vs H Q E h) (fun cdv A outer s H vs Q E hr h => ⟨t_law_k04 K g E, ?_, pure_law_k04  vs H Q E h⟩)
  have hu := hu_of hr
  have tkE : Takes (cxOf (L2.CX P w) P w K mg base N_law_k04 "law" (defScope s_law_k04) f cdv A outer s H E) (wE E) := takes_of rfl rfl rfl rfl
  exact (pss_cons (ps_set (i := 1) sc_law_k04.nd rfl (Or.inl rfl) (pe_op op_add pe_int (pe_op op_modN (pe_cal c_L_cell_at (hr.mono (by decide)) rfl (fun σ => passE0 σ) (pa_cons (pv 0) (pa_cons pe_int pa_nil))) pe_int)))
    (pss_cons (ps_set (i := 2) sc_law_k04.nd rfl (Or.inl rfl) (pv 1))
    (pss_cons (ps_if (pt_cmpR op_eq (pe_op op_modN (pe_op op_fdivN (pe_cal c_L_cell_at (hr.mono (by decide)) rfl (fun σ => passE0 σ) (pa_cons (pv 0) (pa_cons pe_int pa_nil))) pe_int) pe_int) pe_int (nomark _)) (pss_one (ps_set (i := 2) sc_law_k04.nd rfl (Or.inl rfl) (pe_op op_add pe_int (pe_op op_modN (pe_cal c_L_cell_at (hr.mono (by decide)) rfl (fun σ => passE0 σ) (pa_cons (pv 0) (pa_cons pe_int pa_nil))) pe_int)))) pss_nil)
    (pss_cons (ps_set (i := 3) sc_law_k04.nd rfl (Or.inl rfl) (pe_cal c_L_far (hr.mono (by decide)) rfl (fun σ => passE0 σ) (pa_cons (pe_cal c_L_cell_at (hr.mono (by decide)) rfl (fun σ => passE0 σ) (pa_cons (pv 0) (pa_cons pe_int pa_nil))) (pa_cons (pv 1) pa_nil))))
    (pss_cons (ps_set (i := 4) sc_law_k04.nd rfl (Or.inl rfl) (pe_cal c_L_far (hr.mono (by decide)) rfl (fun σ => passE0 σ) (pa_cons (pe_cal c_L_cell_at (hr.mono (by decide)) rfl (fun σ => passE0 σ) (pa_cons (pv 0) (pa_cons pe_int pa_nil))) (pa_cons (pv 2) pa_nil))))
    (pss_cons (ps_set (i := 5) sc_law_k04.nd rfl (Or.inl rfl) (pe_op op_modN (pe_cal c_L_cell_at (hr.mono (by decide)) rfl (fun σ => passE0 σ) (pa_cons (pv 0) (pa_cons pe_int pa_nil))) pe_int))
    (pss_cons (ps_set (i := 6) sc_law_k04.nd rfl (Or.inl rfl) pe_bl)
    (pss_cons (ps_if (PW.pt (pw_or (pt_cmpR op_eq (pv 5) pe_int (nomark _)) (pw_or1 (pt_cmpR op_eq (pv 5) pe_int (nomark _))))) (pss_cons (ps_set (i := 3) sc_law_k04.nd rfl (Or.inl rfl) (pe_cal c_L_spoiled (hr.mono (by decide)) rfl (fun σ => passE0 σ) (pa_cons (pv 3) (pa_cons (pe_cal c_L_cell_at (hr.mono (by decide)) rfl (fun σ => passE0 σ) (pa_cons (pv 0) (pa_cons pe_int pa_nil))) pa_nil))))
    (pss_one (ps_set (i := 6) sc_law_k04.nd rfl (Or.inl rfl) (pe_cmpR op_gt (pv 1) pe_int (nomark _))))) pss_nil)
    (pss_cons (ps_if (PW.pt (pw_or (pt_cmpR op_eq (pv 5) pe_int (nomark _)) (pw_or1 (pt_cmpR op_eq (pv 5) pe_int (nomark _))))) (pss_cons (ps_set (i := 4) sc_law_k04.nd rfl (Or.inl rfl) (pe_cal c_L_spoiled (hr.mono (by decide)) rfl (fun σ => passE0 σ) (pa_cons (pv 4) (pa_cons (pe_cal c_L_cell_at (hr.mono (by decide)) rfl (fun σ => passE0 σ) (pa_cons (pv 0) (pa_cons pe_int pa_nil))) pa_nil))))
    (pss_one (ps_set (i := 6) sc_law_k04.nd rfl (Or.inl rfl) (pe_or (pv 6) (pe_one (pe_cmpR op_gt (pv 2) pe_int (nomark _))))))) pss_nil)
    (pss_one (ps_ret (pe_cmpR (op_eqD hr.units) (pe_cal c_L_told (hr.mono (by decide)) rfl (fun σ => passE0 σ) (pa_cons (pv 3) (pa_cons (pv 4) pa_nil))) (pe_tup (pa_cons (pv 6) (pa_cons (pe_and (pe_not (pv 6)) (pe_one (pe_cmpR op_ne (pv 1) (pv 2) (nomark _)))) pa_nil))) (nomark _)))))))))))))
end
theorem all_mk {l : PySem.W.OpenLaw} {w : World} {K : PySem.W.Frag} {h : Heap} {mg : Str → Option Value} {fa : Addr} {D_NoSeating : Addr} {D_OtherSize : Addr} {D_RoomError : Addr} (X : K.In h) (G : h.Ns mainGlobals mg) (hfa : mg "law" = some (.ref fa))
    {tk_MOST : Tok}
    {f_L_cell_at : Addr} {od_L_cell_at an_L_cell_at : Option Addr} {sl_L_cell_at : Array (Option Value)} {oc_L_cell_at kV_L_cell_at dc_L_cell_at pm_L_cell_at cd_L_cell_at ct_L_cell_at : Value}
    {f_L_far : Addr} {od_L_far an_L_far : Option Addr} {sl_L_far : Array (Option Value)} {oc_L_far kV_L_far dc_L_far pm_L_far cd_L_far ct_L_far : Value}
    {f_L_spoiled : Addr} {od_L_spoiled an_L_spoiled : Option Addr} {sl_L_spoiled : Array (Option Value)} {oc_L_spoiled kV_L_spoiled dc_L_spoiled pm_L_spoiled cd_L_spoiled ct_L_spoiled : Value}
    {f_is_seating : Addr} {od_is_seating an_is_seating : Option Addr} {sl_is_seating : Array (Option Value)} {oc_is_seating kV_is_seating dc_is_seating pm_is_seating cd_is_seating ct_is_seating : Value}
    {f_ask_seating : Addr} {od_ask_seating an_ask_seating : Option Addr} {sl_ask_seating : Array (Option Value)} {oc_ask_seating kV_ask_seating dc_ask_seating pm_ask_seating cd_ask_seating ct_ask_seating : Value}
    {f_joined : Addr} {od_joined an_joined : Option Addr} {sl_joined : Array (Option Value)} {oc_joined kV_joined dc_joined pm_joined cd_joined ct_joined : Value}
    {f_then : Addr} {od_then an_then : Option Addr} {sl_then : Array (Option Value)} {oc_then kV_then dc_then pm_then cd_then ct_then : Value}
    {f_L_told : Addr} {od_L_told an_L_told : Option Addr} {sl_L_told : Array (Option Value)} {oc_L_told kV_L_told dc_L_told pm_L_told cd_L_told ct_L_told : Value}
    {f_law_k04 : Addr} {od_law_k04 an_law_k04 : Option Addr} {sl_law_k04 : Array (Option Value)} {oc_law_k04 kV_law_k04 dc_law_k04 pm_law_k04 cd_law_k04 ct_law_k04 : Value}
    (z_isinstance : PySem.W.nsIn K mainGlobals "isinstance" = some none)
    (z_len : PySem.W.nsIn K mainGlobals "len" = some none)
    (z_list : PySem.W.nsIn K mainGlobals "list" = some none)
    (z_range : PySem.W.nsIn K mainGlobals "range" = some none)
    (z_tuple : PySem.W.nsIn K mainGlobals "tuple" = some none)
    (c_MOST : PySem.W.nsIn K mainGlobals "MOST" = some (some (.int 16 tk_MOST)))
    (ga_NoSeating : PySem.W.nsIn K mainGlobals "NoSeating" = some (some (.ref D_NoSeating)))
    (xe_NoSeating : PySem.W.excIn K D_NoSeating [.type "ValueError", .type "Exception", .type "BaseException", .type "object"] "ValueError.__new__" = true)
    (xk_NoSeating : PySem.W.keepIn K (.ref D_NoSeating) = true)
    (xb_NoSeating : PySem.W.subIn K (.ref D_NoSeating) (.type "BaseException") = some true)
    (xt_NoSeating : PySem.W.typeIn K (.ref D_NoSeating) = some (.type "type"))
    (ga_OtherSize : PySem.W.nsIn K mainGlobals "OtherSize" = some (some (.ref D_OtherSize)))
    (xe_OtherSize : PySem.W.excIn K D_OtherSize [.type "ValueError", .type "Exception", .type "BaseException", .type "object"] "ValueError.__new__" = true)
    (xk_OtherSize : PySem.W.keepIn K (.ref D_OtherSize) = true)
    (xb_OtherSize : PySem.W.subIn K (.ref D_OtherSize) (.type "BaseException") = some true)
    (xt_OtherSize : PySem.W.typeIn K (.ref D_OtherSize) = some (.type "type"))
    (ga_RoomError : PySem.W.nsIn K mainGlobals "RoomError" = some (some (.ref D_RoomError)))
    (xe_RoomError : PySem.W.excIn K D_RoomError [.type "ValueError", .type "Exception", .type "BaseException", .type "object"] "ValueError.__new__" = true)
    (xk_RoomError : PySem.W.keepIn K (.ref D_RoomError) = true)
    (xb_RoomError : PySem.W.subIn K (.ref D_RoomError) (.type "BaseException") = some true)
    (xt_RoomError : PySem.W.typeIn K (.ref D_RoomError) = some (.type "type"))
    (hdx_RoomError : PySem.W.hasDictIn K D_RoomError = true)
    (sb_NoSeating_RoomError : PySem.W.subIn K (.ref D_NoSeating) (.ref D_RoomError) = some true)
    (sb_OtherSize_RoomError : PySem.W.subIn K (.ref D_OtherSize) (.ref D_RoomError) = some true)
    (eg_NoSeating : PySem.W.findIn K (.ref D_NoSeating) "__getattribute__" = some (some (.builtin "BaseException.__getattribute__")))
    (ek_NoSeating : PySem.W.findIn K (.ref D_NoSeating) "__getattr__" = some none)
    (hdx_NoSeating : PySem.W.hasDictIn K D_NoSeating = true)
    (ea_NoSeating : PySem.W.findIn K (.ref D_NoSeating) "__class__" = some (some (.builtin "object.__class__")))
    (e_hn : PySem.W.specialIn K (.builtin "object.__class__") "__get__" = some (some (.builtin "getset_descriptor.__get__")))
    (e_ht : PySem.W.takesIn K (.builtin "object.__class__") = some true)
    (em_NoSeating : PySem.W.mroIn K D_NoSeating (.type "object") = some true)
    (eg_OtherSize : PySem.W.findIn K (.ref D_OtherSize) "__getattribute__" = some (some (.builtin "BaseException.__getattribute__")))
    (ek_OtherSize : PySem.W.findIn K (.ref D_OtherSize) "__getattr__" = some none)
    (hdx_OtherSize : PySem.W.hasDictIn K D_OtherSize = true)
    (ea_OtherSize : PySem.W.findIn K (.ref D_OtherSize) "__class__" = some (some (.builtin "object.__class__")))
    (em_OtherSize : PySem.W.mroIn K D_OtherSize (.type "object") = some true)
    (kf_NoSeating_NoSeating : PySem.W.kitOne K (.ref D_NoSeating) (.ref D_NoSeating) = some true)
    (kf_NoSeating_OtherSize : PySem.W.kitOne K (.ref D_NoSeating) (.ref D_OtherSize) = some false)
    (kf_OtherSize_NoSeating : PySem.W.kitOne K (.ref D_OtherSize) (.ref D_NoSeating) = some false)
    (kf_OtherSize_OtherSize : PySem.W.kitOne K (.ref D_OtherSize) (.ref D_OtherSize) = some true)
    (a_L_cell_at : PySem.W.nsIn K mainGlobals "_law_cell_at" = some (some (.ref f_L_cell_at)))
    (l_L_cell_at : K.lookup f_L_cell_at = some ⟨oc_L_cell_at, od_L_cell_at, .func (PySem.W.fnOf "_law_cell_at" "_law_cell_at" (defArgs s_L_cell_at) (defBody s_L_cell_at) (defScope s_L_cell_at) .none kV_L_cell_at dc_L_cell_at pm_L_cell_at an_L_cell_at cd_L_cell_at ct_L_cell_at), sl_L_cell_at⟩)
    (co_L_cell_at : PySem.W.codeIn K cd_L_cell_at "_law_cell_at" = true)
    (ke_L_cell_at : PySem.W.keepIn K (.ref f_L_cell_at) = true)
    (a_L_far : PySem.W.nsIn K mainGlobals "_law_far" = some (some (.ref f_L_far)))
    (l_L_far : K.lookup f_L_far = some ⟨oc_L_far, od_L_far, .func (PySem.W.fnOf "_law_far" "_law_far" (defArgs s_L_far) (defBody s_L_far) (defScope s_L_far) .none kV_L_far dc_L_far pm_L_far an_L_far cd_L_far ct_L_far), sl_L_far⟩)
    (co_L_far : PySem.W.codeIn K cd_L_far "_law_far" = true)
    (ke_L_far : PySem.W.keepIn K (.ref f_L_far) = true)
    (a_L_spoiled : PySem.W.nsIn K mainGlobals "_law_spoiled" = some (some (.ref f_L_spoiled)))
    (l_L_spoiled : K.lookup f_L_spoiled = some ⟨oc_L_spoiled, od_L_spoiled, .func (PySem.W.fnOf "_law_spoiled" "_law_spoiled" (defArgs s_L_spoiled) (defBody s_L_spoiled) (defScope s_L_spoiled) .none kV_L_spoiled dc_L_spoiled pm_L_spoiled an_L_spoiled cd_L_spoiled ct_L_spoiled), sl_L_spoiled⟩)
    (co_L_spoiled : PySem.W.codeIn K cd_L_spoiled "_law_spoiled" = true)
    (ke_L_spoiled : PySem.W.keepIn K (.ref f_L_spoiled) = true)
    (a_is_seating : PySem.W.nsIn K mainGlobals "is_seating" = some (some (.ref f_is_seating)))
    (l_is_seating : K.lookup f_is_seating = some ⟨oc_is_seating, od_is_seating, .func (PySem.W.fnOf "is_seating" "is_seating" (defArgs s_is_seating) (defBody s_is_seating) (defScope s_is_seating) .none kV_is_seating dc_is_seating pm_is_seating an_is_seating cd_is_seating ct_is_seating), sl_is_seating⟩)
    (co_is_seating : PySem.W.codeIn K cd_is_seating "is_seating" = true)
    (ke_is_seating : PySem.W.keepIn K (.ref f_is_seating) = true)
    (a_ask_seating : PySem.W.nsIn K mainGlobals "ask_seating" = some (some (.ref f_ask_seating)))
    (l_ask_seating : K.lookup f_ask_seating = some ⟨oc_ask_seating, od_ask_seating, .func (PySem.W.fnOf "ask_seating" "ask_seating" (defArgs s_ask_seating) (defBody s_ask_seating) (defScope s_ask_seating) .none kV_ask_seating dc_ask_seating pm_ask_seating an_ask_seating cd_ask_seating ct_ask_seating), sl_ask_seating⟩)
    (co_ask_seating : PySem.W.codeIn K cd_ask_seating "ask_seating" = true)
    (ke_ask_seating : PySem.W.keepIn K (.ref f_ask_seating) = true)
    (a_joined : PySem.W.nsIn K mainGlobals "joined" = some (some (.ref f_joined)))
    (l_joined : K.lookup f_joined = some ⟨oc_joined, od_joined, .func (PySem.W.fnOf "joined" "joined" (defArgs s_joined) (defBody s_joined) (defScope s_joined) .none kV_joined dc_joined pm_joined an_joined cd_joined ct_joined), sl_joined⟩)
    (co_joined : PySem.W.codeIn K cd_joined "joined" = true)
    (ke_joined : PySem.W.keepIn K (.ref f_joined) = true)
    (a_then : PySem.W.nsIn K mainGlobals "then" = some (some (.ref f_then)))
    (l_then : K.lookup f_then = some ⟨oc_then, od_then, .func (PySem.W.fnOf "then" "then" (defArgs s_then) (defBody s_then) (defScope s_then) .none kV_then dc_then pm_then an_then cd_then ct_then), sl_then⟩)
    (co_then : PySem.W.codeIn K cd_then "then" = true)
    (ke_then : PySem.W.keepIn K (.ref f_then) = true)
    (a_L_told : PySem.W.nsIn K mainGlobals "_law_told" = some (some (.ref f_L_told)))
    (l_L_told : K.lookup f_L_told = some ⟨oc_L_told, od_L_told, .func (PySem.W.fnOf "_law_told" "_law_told" (defArgs s_L_told) (defBody s_L_told) (defScope s_L_told) .none kV_L_told dc_L_told pm_L_told an_L_told cd_L_told ct_L_told), sl_L_told⟩)
    (co_L_told : PySem.W.codeIn K cd_L_told "_law_told" = true)
    (ke_L_told : PySem.W.keepIn K (.ref f_L_told) = true)
    (a_law_k04 : PySem.W.nsIn K mainGlobals "law" = some (some (.ref f_law_k04)))
    (l_law_k04 : K.lookup f_law_k04 = some ⟨oc_law_k04, od_law_k04, .func (PySem.W.fnOf "law" "law" (defArgs s_law_k04) (defBody s_law_k04) (defScope s_law_k04) .none kV_law_k04 dc_law_k04 pm_law_k04 an_law_k04 cd_law_k04 ct_law_k04), sl_law_k04⟩)
    (co_law_k04 : PySem.W.codeIn K cd_law_k04 "law" = true)
    (ke_law_k04 : PySem.W.keepIn K (.ref f_law_k04) = true) :
    ∃ fd : FuncData, (∀ (s : Shared) (v : Value), BindsTo s fd ⟨[v], []⟩ [("script", v)]) ∧ ∀ base : Heap, K.In base → base.Ns mainGlobals mg → FnOk l.prog w K mg base (L2.CX l.prog w) 5 fa fd ["script"] (sp_law K) := by
  have e := hfa.symm.trans (PySem.W.mg_of X G a_law_k04)
  cases e
  have T : Txt K mg { w := w, NoSeating := D_NoSeating, OtherSize := D_OtherSize, RoomError := D_RoomError } := {
    z_isinstance := PySem.W.mg_none_of X G z_isinstance
    z_len := PySem.W.mg_none_of X G z_len
    z_list := PySem.W.mg_none_of X G z_list
    z_range := PySem.W.mg_none_of X G z_range
    z_tuple := PySem.W.mg_none_of X G z_tuple
    c_MOST := ⟨_, PySem.W.mg_of X G c_MOST⟩
    g_NoSeating := PySem.W.mg_of X G ga_NoSeating
    g_OtherSize := PySem.W.mg_of X G ga_OtherSize
    g_RoomError := PySem.W.mg_of X G ga_RoomError
    x_NoSeating := ⟨PySem.W.mg_of X G ga_NoSeating, xe_NoSeating, xk_NoSeating, xb_NoSeating, xt_NoSeating⟩
    x_OtherSize := ⟨PySem.W.mg_of X G ga_OtherSize, xe_OtherSize, xk_OtherSize, xb_OtherSize, xt_OtherSize⟩
    x_RoomError := ⟨PySem.W.mg_of X G ga_RoomError, xe_RoomError, xk_RoomError, xb_RoomError, xt_RoomError⟩
    m_NoSeating_RoomError := PySem.W.exm_ref xb_RoomError hdx_RoomError xt_RoomError sb_NoSeating_RoomError
    m_OtherSize_RoomError := PySem.W.exm_ref xb_RoomError hdx_RoomError xt_RoomError sb_OtherSize_RoomError
    e_NoSeating := ⟨eg_NoSeating, ek_NoSeating, xb_NoSeating, hdx_NoSeating, ea_NoSeating, e_hn, e_ht, em_NoSeating⟩
    e_OtherSize := ⟨eg_OtherSize, ek_OtherSize, xb_OtherSize, hdx_OtherSize, ea_OtherSize, e_hn, e_ht, em_OtherSize⟩
    k_NoSeating_NoSeating := kf_NoSeating_NoSeating
    k_NoSeating_OtherSize := kf_NoSeating_OtherSize
    k_OtherSize_NoSeating := kf_OtherSize_NoSeating
    k_OtherSize_OtherSize := kf_OtherSize_OtherSize
  }
  have F_L_cell_at := fun_mk (st := s_L_cell_at) l_L_cell_at co_L_cell_at ke_L_cell_at
  have b_L_cell_at := F_L_cell_at.binds (ps := ["script", "k"]) fun _ _ _ _ _ _ us hl => match us, hl with | [_, _], _ => rfl
  have F_L_far := fun_mk (st := s_L_far) l_L_far co_L_far ke_L_far
  have b_L_far := F_L_far.binds (ps := ["cell", "size"]) fun _ _ _ _ _ _ us hl => match us, hl with | [_, _], _ => rfl
  have F_L_spoiled := fun_mk (st := s_L_spoiled) l_L_spoiled co_L_spoiled ke_L_spoiled
  have b_L_spoiled := F_L_spoiled.binds (ps := ["row", "cell"]) fun _ _ _ _ _ _ us hl => match us, hl with | [_, _], _ => rfl
  have F_is_seating := fun_mk (st := s_is_seating) l_is_seating co_is_seating ke_is_seating
  have b_is_seating := F_is_seating.binds (ps := ["row"]) fun _ _ _ _ _ _ us hl => match us, hl with | [_], _ => rfl
  have F_ask_seating := fun_mk (st := s_ask_seating) l_ask_seating co_ask_seating ke_ask_seating
  have b_ask_seating := F_ask_seating.binds (ps := ["a"]) fun _ _ _ _ _ _ us hl => match us, hl with | [_], _ => rfl
  have F_joined := fun_mk (st := s_joined) l_joined co_joined ke_joined
  have b_joined := F_joined.binds (ps := ["a", "b"]) fun _ _ _ _ _ _ us hl => match us, hl with | [_, _], _ => rfl
  have F_then := fun_mk (st := s_then) l_then co_then ke_then
  have b_then := F_then.binds (ps := ["a", "b"]) fun _ _ _ _ _ _ us hl => match us, hl with | [_, _], _ => rfl
  have F_L_told := fun_mk (st := s_L_told) l_L_told co_L_told ke_L_told
  have b_L_told := F_L_told.binds (ps := ["one", "two"]) fun _ _ _ _ _ _ us hl => match us, hl with | [_, _], _ => rfl
  have F_law_k04 := fun_mk (st := s_law_k04) l_law_k04 co_law_k04 ke_law_k04
  refine ⟨PySem.W.fnOf "law" "law" (defArgs s_law_k04) (defBody s_law_k04) (defScope s_law_k04) .none kV_law_k04 dc_law_k04 pm_law_k04 an_law_k04 cd_law_k04 ct_law_k04, fun s v => .of_eq rfl, fun base _ _ => ?_⟩
  have c_L_cell_at : Cal l.prog w K mg base 1 "_law_cell_at" ["script", "k"] (sp_L_cell_at K _) := ⟨_, _, PySem.W.mg_of X G a_L_cell_at, ke_L_cell_at, b_L_cell_at, ok_L_cell_at (P := l.prog) (w := w) (base := base) T F_L_cell_at ⟩
  have c_L_far : Cal l.prog w K mg base 1 "_law_far" ["cell", "size"] (sp_L_far K _) := ⟨_, _, PySem.W.mg_of X G a_L_far, ke_L_far, b_L_far, ok_L_far (P := l.prog) (w := w) (base := base) T F_L_far ⟩
  have c_L_spoiled : Cal l.prog w K mg base 1 "_law_spoiled" ["row", "cell"] (sp_L_spoiled K _) := ⟨_, _, PySem.W.mg_of X G a_L_spoiled, ke_L_spoiled, b_L_spoiled, ok_L_spoiled (P := l.prog) (w := w) (base := base) T F_L_spoiled ⟩
  have c_is_seating : Cal l.prog w K mg base 1 "is_seating" ["row"] (sp_is_seating K _) := ⟨_, _, PySem.W.mg_of X G a_is_seating, ke_is_seating, b_is_seating, ok_is_seating (P := l.prog) (w := w) (base := base) T F_is_seating ⟩
  have c_ask_seating : Cal l.prog w K mg base 2 "ask_seating" ["a"] (sp_ask_seating K _) := ⟨_, _, PySem.W.mg_of X G a_ask_seating, ke_ask_seating, b_ask_seating, ok_ask_seating (P := l.prog) (w := w) (base := base) T F_ask_seating c_is_seating⟩
  have c_joined : Cal l.prog w K mg base 1 "joined" ["a", "b"] (sp_joined K _) := ⟨_, _, PySem.W.mg_of X G a_joined, ke_joined, b_joined, ok_joined (P := l.prog) (w := w) (base := base) T F_joined ⟩
  have c_then : Cal l.prog w K mg base 3 "then" ["a", "b"] (sp_then K _) := ⟨_, _, PySem.W.mg_of X G a_then, ke_then, b_then, ok_then (P := l.prog) (w := w) (base := base) T F_then c_ask_seating c_joined⟩
  have c_L_told : Cal l.prog w K mg base 4 "_law_told" ["one", "two"] (sp_L_told K _) := ⟨_, _, PySem.W.mg_of X G a_L_told, ke_L_told, b_L_told, ok_L_told (P := l.prog) (w := w) (base := base) T F_L_told c_then⟩
  exact ok_law_k04 (P := l.prog) (w := w) (base := base) T F_law_k04 c_L_cell_at c_L_far c_L_spoiled c_L_told
theorem walk {l : PySem.W.OpenLaw} {q : Program} {loose : List Str} {XP : (Str → Option Value) → Heap → Prop} {YP : World → Heap → Prop} {d : DefRec} {K : Params → PySem.W.Frag} (hn : l.most = some 63) (hdf : d.params.defaults = [])
    (hY : ∀ (w : World) (h : Heap), YP w h → (K w.params).In h)
    (F : ∀ (w : World) (mg : Str → Option Value) (fa : Addr) (h : Heap), (K w.params).In h → h.Ns mainGlobals mg → mg d.name = some (.ref fa) →
      ∃ fd : FuncData, (∀ (s : Shared) (u : Value), BindsTo s fd ⟨[u], []⟩ [("script", u)]) ∧ ∀ base : Heap, (K w.params).In base → base.Ns mainGlobals mg → FnOk l.prog w (K w.params) mg base (L2.CX l.prog w) 5 fa fd ["script"] (sp_law (K w.params))) :
    PySem.W.WalkO q loose XP YP l.row.toRowW d [] (fun f vs => PySem.call f vs) :=
  L2.walk_of (n := 63) (k := 5) (x := "script") (CX := fun w => L2.CX l.prog w) (sp := fun w => sp_law (K w.params)) hn (by decide) hdf ⟨rfl, by decide, by decide⟩ hY F (fun _ _ a ns hl _ hS => ⟨a, ns, rfl, hS, hl, fun _ => rfl⟩) fun _ _ _ _ _ z => cx_none z
end Shf
open PySem PySem.W PyProof.Rows
set_option maxRecDepth 100000 in
set_option maxHeartbeats 0 in
theorem PySem.Challenge.cw_shiftroom_k04_refused_in_order_holds : PySem.Challenge.rw_shiftroom_k04_refused_in_order.Holds := by
  w_on; o_law; k_head; (case hw => w_witness2)
  k_fill
  refine Shf.walk (l := PySem.Challenge.rw_shiftroom_k04_refused_in_order) rfl rfl (fun w h Y => PySem.W.kIn_of Y) ?F
  case F =>
    intro w mg fa h KX G hmg
    refine' Shf.all_mk KX G hmg ?z_isinstance ?z_len ?z_list ?z_range ?z_tuple ?c_MOST ?ga_NoSeating ?xe_NoSeating ?xk_NoSeating ?xb_NoSeating ?xt_NoSeating ?ga_OtherSize ?xe_OtherSize ?xk_OtherSize ?xb_OtherSize ?xt_OtherSize ?ga_RoomError ?xe_RoomError ?xk_RoomError ?xb_RoomError ?xt_RoomError ?hdx_RoomError ?sb_NoSeating_RoomError ?sb_OtherSize_RoomError ?eg_NoSeating ?ek_NoSeating ?hdx_NoSeating ?ea_NoSeating ?e_hn ?e_ht ?em_NoSeating ?eg_OtherSize ?ek_OtherSize ?hdx_OtherSize ?ea_OtherSize ?em_OtherSize ?kf_NoSeating_NoSeating ?kf_NoSeating_OtherSize ?kf_OtherSize_NoSeating ?kf_OtherSize_OtherSize ?a_L_cell_at ?l_L_cell_at ?co_L_cell_at ?ke_L_cell_at ?a_L_far ?l_L_far ?co_L_far ?ke_L_far ?a_L_spoiled ?l_L_spoiled ?co_L_spoiled ?ke_L_spoiled ?a_is_seating ?l_is_seating ?co_is_seating ?ke_is_seating ?a_ask_seating ?l_ask_seating ?co_ask_seating ?ke_ask_seating ?a_joined ?l_joined ?co_joined ?ke_joined ?a_then ?l_then ?co_then ?ke_then ?a_L_told ?l_L_told ?co_L_told ?ke_L_told ?a_law_k04 ?l_law_k04 ?co_law_k04 ?ke_law_k04
    (case z_isinstance => k_is)
    (case z_len => k_is)
    (case z_list => k_is)
    (case z_range => k_is)
    (case z_tuple => k_is)
    (case c_MOST => k_is)
    (case ga_NoSeating => k_is)
    (case xe_NoSeating => k_exc)
    (case xk_NoSeating => k_is)
    (case xb_NoSeating => k_is)
    (case xt_NoSeating => k_is)
    (case ga_OtherSize => k_is)
    (case xe_OtherSize => k_exc)
    (case xk_OtherSize => k_is)
    (case xb_OtherSize => k_is)
    (case xt_OtherSize => k_is)
    (case ga_RoomError => k_is)
    (case xe_RoomError => k_exc)
    (case xk_RoomError => k_is)
    (case xb_RoomError => k_is)
    (case xt_RoomError => k_is)
    (case hdx_RoomError => k_is)
    (case sb_NoSeating_RoomError => k_is)
    (case sb_OtherSize_RoomError => k_is)
    (case eg_NoSeating => k_is)
    (case ek_NoSeating => k_is)
    (case hdx_NoSeating => k_is)
    (case ea_NoSeating => k_is)
    (case e_hn => k_is)
    (case e_ht => k_is)
    (case em_NoSeating => k_is)
    (case eg_OtherSize => k_is)
    (case ek_OtherSize => k_is)
    (case hdx_OtherSize => k_is)
    (case ea_OtherSize => k_is)
    (case em_OtherSize => k_is)
    (case kf_NoSeating_NoSeating => kit_is)
    (case kf_NoSeating_OtherSize => kit_is)
    (case kf_OtherSize_NoSeating => kit_is)
    (case kf_OtherSize_OtherSize => kit_is)
    (case a_L_cell_at => k_is)
    (case l_L_cell_at => k_is)
    (case co_L_cell_at => k_is)
    (case ke_L_cell_at => k_is)
    (case a_L_far => k_is)
    (case l_L_far => k_is)
    (case co_L_far => k_is)
    (case ke_L_far => k_is)
    (case a_L_spoiled => k_is)
    (case l_L_spoiled => k_is)
    (case co_L_spoiled => k_is)
    (case ke_L_spoiled => k_is)
    (case a_is_seating => k_is)
    (case l_is_seating => k_is)
    (case co_is_seating => k_is)
    (case ke_is_seating => k_is)
    (case a_ask_seating => k_is)
    (case l_ask_seating => k_is)
    (case co_ask_seating => k_is)
    (case ke_ask_seating => k_is)
    (case a_joined => k_is)
    (case l_joined => k_is)
    (case co_joined => k_is)
    (case ke_joined => k_is)
    (case a_then => k_is)
    (case l_then => k_is)
    (case co_then => k_is)
    (case ke_then => k_is)
    (case a_L_told => k_is)
    (case l_L_told => k_is)
    (case co_L_told => k_is)
    (case ke_L_told => k_is)
    (case a_law_k04 => k_is)
    (case l_law_k04 => k_is)
    (case co_law_k04 => k_is)
    (case ke_law_k04 => k_is)
#print axioms PySem.Challenge.cw_shiftroom_k04_refused_in_order_holds
