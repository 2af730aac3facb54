import PyProof.Rows.All
import Wide.All
import OpenK.AllK
import Wide.FinOn
import HandS.ForMost
import HandS.Exc
import HandS.TryOnly
import HandS.ExcOwn
import HandS.WordsExc
import HandS.ExcIs
import HandS.IsInst
import HandS.Conv
import HandS.SortInts
import HandS.SortRule
import HandS.Deep
import HandS.Steps
import HandS.TupAny
import HandS.More
import KE.RegKIsAll
import PySem.Challenge.RW_shiftroom_k02_the_way_back
set_option Elab.async false
set_option linter.all false
set_option maxRecDepth 100000
set_option maxHeartbeats 4000000
/-! Shiftroom: the rules that every def's proof here stands on. -/
namespace Shf
open PySem L2

/-- the addresses of the classes -/
structure Gd where
  w : World
  RoomError : Addr := 0
  NoSize : Addr := 0
  NoSeating : Addr := 0
  OtherSize : Addr := 0
  NoSeat : Addr := 0
  NoNumber : Addr := 0
  TooMany : Addr := 0
  Unreached : Addr := 0
  TooWide : Addr := 0
  NotRead : Addr := 0
  Room : Addr := 0
  Book : Addr := 0

/-! ### what an exception may be wished -/
abbrev wE (E : XK) : WX := fun cls d _ H => E cls d H
def tRaiseW (W : WX) (C : Addr) : TS := fun _ σ H => W (.ref C) none σ H
theorem passE0 {X : Cx} (σ : L2.St) : PassesAt (L2.CX X.prog X.w) X σ E0 := fun pins H s e s' I c => passL pins σ H s e s' I c
theorem cx_none {P : Program} {w : World} {H : Hp} {s : Shared} {e : Value} {s' : Shared} (z : L2.CX P w [] H s (fun _ _ _ => False) e s') : False := by
  obtain ⟨_, _, _, _, _, _, _, _, _, _, _, _, z⟩ := z
  exact z

/-! ### a def, a method, a class as a callee -/
structure Cal (P : Program) (w : World) (K : PySem.W.Frag) (mg : Str → Option Value) (base : Heap) (k : Nat) (x : Str) (ps : List Str) (sp : Sp) : Prop where mk' ::
  ex : ∃ f fd, mg x = some (.ref f) ∧ PySem.W.keepIn K (.ref f) = true ∧ Binds K fd ps [] ∧ FnOk P w K mg base (L2.CX P w) k f fd ps sp
theorem Cal.mk {P : Program} {w : World} {K : PySem.W.Frag} {mg : Str → Option Value} {base : Heap} {k : Nat} {x : Str} {ps : List Str} {sp : Sp} (f : Addr) (fd : FuncData) (a : mg x = some (.ref f)) (b : PySem.W.keepIn K (.ref f) = true) (c : Binds K fd ps []) (d : FnOk P w K mg base (L2.CX P w) k f fd ps sp) : Cal P w K mg base k x ps sp := ⟨⟨f, fd, a, b, c, d⟩⟩
structure CalM (P : Program) (w : World) (K : PySem.W.Frag) (mg : Str → Option Value) (base : Heap) (k : Nat) (C : Addr) (m : Str) (ps : List Str) (sp : Sp) : Prop where mk' ::
  ex : ∃ f fd, Meth K C m f ∧ Binds K fd ps [] ∧ FnOk P w K mg base (L2.CX P w) k f fd ps sp
theorem CalM.mk {P : Program} {w : World} {K : PySem.W.Frag} {mg : Str → Option Value} {base : Heap} {k : Nat} {C : Addr} {m : Str} {ps : List Str} {sp : Sp} (f : Addr) (fd : FuncData) (a : Meth K C m f) (c : Binds K fd ps []) (d : FnOk P w K mg base (L2.CX P w) k f fd ps sp) : CalM P w K mg base k C m ps sp := ⟨⟨f, fd, a, c, d⟩⟩
structure CalI (P : Program) (w : World) (K : PySem.W.Frag) (mg : Str → Option Value) (base : Heap) (k : Nat) (C : Addr) (ps : List Str) (sp : Sp) : Prop where mk' ::
  ex : ∃ f fd, Mk K C f ∧ Binds K fd ps [] ∧ FnOk P w K mg base (L2.CX P w) k f fd ps sp
theorem CalI.mk {P : Program} {w : World} {K : PySem.W.Frag} {mg : Str → Option Value} {base : Heap} {k : Nat} {C : Addr} {ps : List Str} {sp : Sp} (f : Addr) (fd : FuncData) (a : Mk K C f) (c : Binds K fd ps []) (d : FnOk P w K mg base (L2.CX P w) k f fd ps sp) : CalI P w K mg base k C ps sp := ⟨⟨f, fd, a, c, d⟩⟩

section
variable {X : Cx} {k : Nat} {x m : Str} {C : Addr} {ps : List Str} {sp : Sp} {E : L2.St → XK} {e o : Expr} {es : List Expr} {t : TA} {ta : TE} {p pos apos : Pos}
theorem pe_cal (c : Cal X.prog X.w X.K X.mg X.base k x ps sp) (hr : Room k X.A) (hg : Gl X x) (hx : ∀ σ, PassesAt (L2.CX X.prog X.w) X σ (E σ)) (ha : PA X (e :: es) t) (hdb : (x == ("__debug__" : Str)) = false := by decide)
    (he : starEach (e :: es) X.env = (false, eval e X.env) :: starEach es X.env := by rfl) (hpl : (backTo pos (starEach es X.env)).any (·.1) = false := by rfl) : PE X (.Call (.Name x p) (e :: es) [] pos) (tCallS sp E t) := by
  obtain ⟨f, fd, a, b, c, d⟩ := c.ex
  exact pe_callS d hr hg a b c hx ha hdb he hpl
theorem pe_cal0 (c : Cal X.prog X.w X.K X.mg X.base k x ps sp) (hr : Room k X.A) (hg : Gl X x) (hx : ∀ σ, PassesAt (L2.CX X.prog X.w) X σ (E σ)) (hdb : (x == ("__debug__" : Str)) = false := by decide) : PE X (.Call (.Name x p) [] [] pos) (tCallS sp E tNil) := by
  obtain ⟨f, fd, a, b, c, d⟩ := c.ex
  refine ⟨fun pins s σ H Q I h => ?_⟩
  refine wpAny_Call_Name_kw (ld_glob I hg a ?_ hdb)
  exact PySem.W.callWith_K0 I.kIn b (run_fnS (us := []) (vs := []) d hr c (hx σ) I .nil h)
def tMethS (C : Addr) (m : Str) (sp : Sp) (E : L2.St → XK) (ta : TE) (t : TA) : TE := fun σ H Q => ta σ H fun x H1 => ∃ a dx fs, x = .ref a ∧ H1 a = some (.ins C dx fs) ∧ fs.lookup m = none ∧
  t σ H1 fun vs H2 => sp (x :: vs) H2 Q (E σ)
theorem pe_calM {pl : Sem Bool} (he : PE X o ta) (c : Cls X.K C) (cm : CalM X.prog X.w X.K X.mg X.base k C m ps sp) (hr : Room k X.A) (hx : ∀ σ, PassesAt (L2.CX X.prog X.w) X σ (E σ)) (ha : PA X (e :: es) t)
    (hst : starEach (e :: es) X.env = (false, eval e X.env) :: starEach es X.env := by rfl) (hpl : (backTo pos (starEach es X.env)).any (·.1) = false := by rfl)
    (ht : eval (.Call (.Attribute o m apos) (e :: es) [] pos) X.env = (do
      let ov ← eval o X.env
      standAt apos.atName
      let (f, first) ← holding [ov] (getMethod ov m pl)
      callWith pos f first (backTo pos (starEach (e :: es) X.env)) (backToKw pos (keywordEach [] X.env))) := by rfl) : PE X (.Call (.Attribute o m apos) (e :: es) [] pos) (tMethS C m sp E ta t) := by
  obtain ⟨f, fd, hm, hb, d⟩ := cm.ex
  refine ⟨fun pins s σ H Q I h => ?_⟩
  refine PySem.W.methodCall_KW (pl := pl) (thn (he.run pins s σ H _ I h) fun u s1 ⟨x, H1, I1, rx, a, dx, fs, ex, ea, l, q⟩ => ?_) ht
  subst ex
  obtain rfl : u = Value.ref a := rx
  refine getmeth_ok I1 ea c hm l ?_
  refine PySem.W.callWith_K (first := [.ref a]) (h₀ := X.base) I.ok.mod.kin hm.kp (thn (ha.run pos pins s1 σ H1 _ I1 q) fun us s2 ⟨vs, H2, I2, r, q2⟩ => ⟨I2.kIn, ?_⟩) hst hpl
  exact run_fnS (us := .ref a :: us) (vs := .ref a :: vs) d hr hb (hx σ) I2 (.cons rfl r) q2
theorem pe_calM0 {pl : Sem Bool} (he : PE X o ta) (c : Cls X.K C) (cm : CalM X.prog X.w X.K X.mg X.base k C m ps sp) (hr : Room k X.A) (hx : ∀ σ, PassesAt (L2.CX X.prog X.w) X σ (E σ))
    (ht : eval (.Call (.Attribute o m apos) [] [] pos) X.env = (do
      let ov ← eval o X.env
      standAt apos.atName
      let (f, first) ← holding [ov] (getMethod ov m pl)
      callWith pos f first (backTo pos (starEach [] X.env)) (backToKw pos (keywordEach [] X.env))) := by rfl) : PE X (.Call (.Attribute o m apos) [] [] pos) (tMethS C m sp E ta tNil) := by
  obtain ⟨f, fd, hm, hb, d⟩ := cm.ex
  refine ⟨fun pins s σ H Q I h => ?_⟩
  refine PySem.W.methodCall_KW (pl := pl) (thn (he.run pins s σ H _ I h) fun u s1 ⟨x, H1, I1, rx, a, dx, fs, ex, ea, l, q⟩ => ?_) ht
  subst ex
  obtain rfl : u = Value.ref a := rx
  refine getmeth_ok I1 ea c hm l ?_
  exact PySem.W.callWith_K0 (first := [.ref a]) I1.kIn hm.kp (run_fnS (us := [.ref a]) (vs := [.ref a]) d hr hb (hx σ) I1 (.cons rfl .nil) q)
end

/-! ### operators by short names -/
def rAddI : R2 := rI0 fun i j => V.int (i + j)
def rSubI : R2 := rI0 fun i j => V.int (i - j)
def rMulI : R2 := rI CMul fun i j => V.int (i * j)
def rDivI : R2 := rI CDivN fun i j => V.int (i.fdiv j)
def rModI : R2 := rI (fun _ j => j ≠ 0) fun i j => V.int (i.fmod j)
def rPowI : R2 := rI CPow fun i j => V.int (i ^ j.toNat)
def rLtI : R2 := rI0 fun i j => V.bl (decide (i < j))
def rLeI : R2 := rI0 fun i j => V.bl (decide (i ≤ j))
def rGtI : R2 := rI0 fun i j => V.bl (decide (j < i))
def rGeI : R2 := rI0 fun i j => V.bl (decide (j ≤ i))
def rAddS : R2 := fun x y H Q => ∃ i j, x = V.str i ∧ y = V.str j ∧ i.length + j.length ≤ sizeLine ∧ Q (.str (i ++ j)) H
def rLenQ (K : PySem.W.Frag) : List V → Hp → VK → Prop := fun xs H Q => ∃ p ys, xs = [.ref p] ∧ (SqL K H p ys ∨ SqT K H p ys) ∧ Q (.int ys.length) H
def rLenDk : List V → Hp → VK → Prop := fun xs H Q => ∃ a kvs, xs = [V.ref a] ∧ H a = some (.dK kvs) ∧ Q (.int kvs.length) H
def rLenSt : List V → Hp → VK → Prop := fun xs H Q => ∃ z, xs = [.str z] ∧ z.length ≤ sizeLine ∧ Q (.int z.length) H
def rListOf (K : PySem.W.Frag) : List V → Hp → VK → Prop := fun xs H Q => ∃ p ys, xs = [.ref p] ∧ (SqL K H p ys ∨ SqT K H p ys) ∧ ∀ l, H l = none → Q (.ref l) (upd H l (.lst ys))
def rTupOf (K : PySem.W.Frag) : List V → Hp → VK → Prop := fun xs H Q => ∃ p ys, xs = [.ref p] ∧ ((SqL K H p ys ∧ ∀ l, H l = none → Q (.ref l) (upd H l (.tup ys))) ∨ (SqT K H p ys ∧ Q (.ref p) H))
def rStrI : List V → Hp → VK → Prop := fun xs H Q => ∃ i, xs = [.int i] ∧ i.natAbs.log2 < 1920 ∧ Q (.str (toString i)) H
def rIntS : List V → Hp → VK → Prop := fun xs H Q => ∃ a n, xs = [.str a] ∧ PySem.intText? a = some n ∧ a.length ≤ 640 ∧ Q (.int n) H
def rMax2 : List V → Hp → VK → Prop := fun xs H Q => ∃ i j, xs = [.int i, .int j] ∧ Q (.int (if j > i then j else i)) H
def rMin2 : List V → Hp → VK → Prop := fun xs H Q => ∃ i j, xs = [.int i, .int j] ∧ Q (.int (if j < i then j else i)) H
def rInsert : V → List V → Hp → VK → Prop := fun x vs H Q => ∃ (l : Addr) (xs : List V) (i : Int) (y : V), x = .ref l ∧ vs = [.int i, y] ∧ H l = some (.lst xs) ∧ xs.length < sizeLine ∧ 0 ≤ i ∧ i < 2 ^ 63 ∧
    Q .non (upd H l (.lst (xs.take i.toNat ++ [y] ++ xs.drop i.toNat)))
def rJoin (K : PySem.W.Frag) : V → List V → Hp → VK → Prop := fun x xs H Q => ∃ a p, ∃ ys : List Str, x = .str a ∧ xs = [.ref p] ∧ (SqL K H p (ys.map V.str) ∨ SqT K H p (ys.map V.str)) ∧
      (ys.map (·.length)).sum + ys.length * a.length ≤ 16777216 ∧ Q (.str (Txt.join a ys)) H
def rSplit : V → List V → Hp → VK → Prop := fun x xs H Q => ∃ a b, x = .str a ∧ xs = [.str b] ∧ (b.length == 0) = false ∧ a.length + 2 ≤ sizeLine ∧ rNewStrs (Txt.split a b) H Q
theorem hu65 {k : Nat} {A : Around} (hr : Room k A) : A.units + 65 < cLine := by have := hr.un; omega

section
variable {X : Cx}
theorem pe_globI {x : Str} {i : Int} {pos : Pos} (hm : ∃ t, X.mg x = some (.int i t)) (hg : Gl X x := by rfl) (hd : (x == ("__debug__" : Str)) = false := by decide) : PE X (.Name x pos) (tC (.int i)) := by
  obtain ⟨t, h⟩ := hm
  exact pe_glob hg h ⟨_, rfl⟩ hd
theorem pe_globS {x : Str} {i : Str} {pos : Pos} (hm : ∃ t, X.mg x = some (.str i t)) (hg : Gl X x := by rfl) (hd : (x == ("__debug__" : Str)) = false := by decide) : PE X (.Name x pos) (tC (.str i)) := by
  obtain ⟨t, h⟩ := hm
  exact pe_glob hg h ⟨_, rfl⟩ hd
end

/-! ### own exceptions -/
structure ExB (K : PySem.W.Frag) (mg : Str → Option Value) (x : Str) (D : Addr) : Prop where
  gC : mg x = some (.ref D)
  ex : PySem.W.excIn K D [.type "ValueError", .type "Exception", .type "BaseException", .type "object"] "ValueError.__new__" = true
  kC : PySem.W.keepIn K (.ref D) = true
  bC : PySem.W.subIn K (.ref D) (.type "BaseException") = some true
  tC : PySem.W.typeIn K (.ref D) = some (.type "type")
/-- isinstance(e, c) in an except suite that holds an exception of class cls -/
def rIsE2 (K : PySem.W.Frag) (cls : Value) (d : Option Addr) (a : Addr) : List V → Hp → VK → Prop := fun xs H Q => ∃ D, cls = .ref D ∧ d = none ∧ ExcC K D ∧ rIsE K D a xs H Q
theorem call_isE2 {X : Cx} {a : Addr} {oe : Obj} {cls : Value} {d : Option Addr} {pn : List (Addr × Obj)} (hz : Zc cls d oe) (hf : ∃ vs, oe.data = .fields vs) : CallR (X.suite a ((a, oe) :: pn)) (.builtin "isinstance") (rIsE2 X.K cls d a) := by
  intro pins s σ H xs us Q I r h
  obtain ⟨D, rfl, rfl, C, h⟩ := h
  exact call_isE C hz hf pins s σ H xs us Q I r h

/-! ### data -/
/-- numbers as values -/
abbrev vI (a : List Int) : List V := a.map V.int
abbrev vN (a : List Nat) : List V := a.map fun (n : Nat) => V.int (n : Int)
/-- a new tuple of numbers is handed back, all else as it was -/
def NewT (H : Hp) (a : List Nat) (Q : VK) : Prop := ∀ (r : Addr) (H' : Hp), Same H H' → H r = none → H' r = some (.tup (vN a)) → Q (.ref r) H'
theorem vN_at {a : List Nat} {i n : Nat} (h : a[i]? = some n) : (vN a)[i]? = some (V.int (n : Int)) := by
  show (a.map _)[i]? = _
  rw [List.getElem?_map, h] <;> rfl
theorem vI_at {a : List Int} {i : Nat} {n : Int} (h : a[i]? = some n) : (vI a)[i]? = some (V.int n) := by
  show (a.map _)[i]? = _
  rw [List.getElem?_map, h] <;> rfl
theorem getD_at {a : List Nat} {i : Nat} (h : i < a.length) : a[i]? = some (a.getD i 0) := by
  rw [List.getD_eq_getElem?_getD, List.getElem?_eq_getElem h] <;> rfl
theorem at_vN {a : List Nat} {z : Int} {i : Nat} (e : z = (i : Int)) (h : i < a.length) : atI (vN a) z = some (V.int ((a.getD i 0 : Nat) : Int)) := at_of e (vN_at (getD_at h))
theorem vN_eq (a : List Nat) : vN a = vI (a.map fun (n : Nat) => (n : Int)) := by
  show a.map _ = (a.map _).map _
  rw [List.map_map] <;> rfl
theorem vN_len (a : List Nat) : (vN a).length = a.length := List.length_map ..
theorem vI_len (a : List Int) : (vI a).length = a.length := List.length_map ..
theorem _root_.L2.Same.up {H H' : Hp} {p : Addr} {o : HO} (s : Same H H') (h : H p = none) : Same H (upd H' p o) := fun b u e => by
  rw [upd_ne (ne_of_none e h)]
  exact s b u e
theorem _root_.L2.Same.new {H H' : Hp} {p : Addr} {o : HO} (s : Same H H') (h : H' p = none) : Same H (upd H' p o) := s.up (s.free h)
theorem _root_.L2.Same.tup {K : PySem.W.Frag} {H H' : Hp} {a : Addr} {xs : List V} (e : Same H H') (h : SqT K H a xs) : SqT K H' a xs := by
  rcases h with (h | ⟨o, h⟩) | h
  · exact .inl (.inl (e _ _ h))
  · exact .inl (.inr ⟨o, e _ _ h⟩)
  · exact .inr h
theorem sqT {K : PySem.W.Frag} {H : Hp} {a : Addr} {xs : List V} (h : H a = some (.tup xs)) : SqT K H a xs := .inl (.inl h)
theorem sqL {K : PySem.W.Frag} {H : Hp} {a : Addr} {xs : List V} (h : H a = some (.lst xs)) : SqL K H a xs := .inl (.inl h)
theorem zl {n : Nat} (h : n ≤ 100000) : n ≤ sizeLine := Nat.le_trans h (by decide)
theorem zlt {n : Nat} (h : n < 100000) : n < sizeLine := Nat.lt_of_lt_of_le h (by decide)
theorem if_t {c : Bool} {A B : Prop} (hc : c = true) (h : A) : if c = true then A else B := by rw [if_pos hc]; exact h
theorem if_f {c : Bool} {A B : Prop} (hc : c = false) (h : B) : if c = true then A else B := by rw [hc, if_neg Bool.false_ne_true]; exact h
theorem if_d {c : Prop} [Decidable c] {A B : Prop} (h1 : c → A) (h2 : ¬ c → B) : if decide c = true then A else B := by
  by_cases h : c
  · exact if_t (decide_eq_true h) (h1 h)
  · exact if_f (decide_eq_false h) (h2 h)
theorem if_b {c : Bool} {A B : Prop} (h1 : c = true → A) (h2 : c = false → B) : if c = true then A else B := by
  cases c with
  | true => exact if_t rfl (h1 rfl)
  | false => exact if_f rfl (h2 rfl)
theorem fmod_pos {a b : Int} (h : 0 < b) : a.fmod b = a % b := Int.fmod_eq_emod_of_nonneg a (Int.le_of_lt h)
theorem fdiv_pos {a b : Int} (h : 0 < b) : a.fdiv b = a / b := Int.fdiv_eq_ediv_of_nonneg a (Int.le_of_lt h)
end Shf

/-! numbers, lists, permutations; steps of the reading by names -/
namespace Shf
open PySem L2
/-! ### steps: one a combinator -/
section
variable {K : PySem.W.Frag} {σ : L2.St} {H : Hp} {Q : VK} {QA : List V → Hp → Prop} {QB : Bool → Hp → Prop} {D : Ends} {te tf : TE} {ta : TA} {tt tu : TT} {t u : TS} {g : TG}
theorem w_seq (h : t { D with nx := u D } σ H) : tSeq t u D σ H := h
theorem w_asg {i : Nat} (h : te σ H fun x H1 => D.nx (σ.set i (some x)) H1) : tAsg te (gName i) D σ H := h
theorem w_asgS {to ti : TE} {r : TSet} (h : te σ H fun x H1 => to σ H1 fun o H1 => ti σ H1 fun i H2 => r o i x H2 fun H3 => D.nx σ H3) : tAsg te (gSub to ti r) D σ H := h
theorem w_drop (h : te σ H fun _ H1 => D.nx σ H1) : tDrop te D σ H := h
theorem w_ret (h : te σ H D.rt) : tRet te D σ H := h
theorem w_next (h : D.nx σ H) : tNext D σ H := h
theorem w_if (h : tt σ H fun b H1 => if b = true then t D σ H1 else u D σ H1) : tIfS tt t u D σ H := h
theorem w_var {i : Nat} {v : V} (e : σ[i]? = some (some v)) (q : Q v H) : tVar i σ H Q := ⟨v, e, q⟩
theorem w_c {v : V} (q : Q v H) : tC v σ H Q := q
theorem w_op {r : R2} (h : te σ H fun x H1 => tf σ H1 fun y H2 => r x y H2 Q) : tOp r te tf σ H Q := h
theorem w_un {r : V → Hp → VK → Prop} (h : te σ H fun x H1 => r x H1 Q) : tUn r te σ H Q := h
theorem w_nil (h : QA [] H) : tNil σ H QA := h
theorem w_cons (h : te σ H fun x H1 => ta σ H1 fun xs H2 => QA (x :: xs) H2) : tCons te ta σ H QA := h
theorem w_cb {r : List V → Hp → VK → Prop} (h : ta σ H fun vs H1 => r vs H1 Q) : tCB r ta σ H Q := h
theorem w_call {sp : Sp} {E : L2.St → XK} (h : ta σ H fun vs H1 => sp vs H1 Q (E σ)) : tCallS sp E ta σ H Q := h
theorem w_test (h : te σ H fun x H' => ∃ k, x = .bl k ∧ QB k H') : tTest te σ H QB := h
theorem w_b (h : te σ H fun x H' => ∃ k, x = .bl k ∧ QB k H') : tB te σ H QB := h
theorem w_bex {b : Bool} {P : Bool → Prop} (h : P b) : ∃ k, V.bl b = .bl k ∧ P k := ⟨b, rfl, h⟩
theorem w_and (h : tt σ H fun c H1 => if c = true then tu σ H1 QB else QB false H1) : tAnd tt tu σ H QB := h
theorem w_or (h : tt σ H fun c H1 => if c = true then QB true H1 else tu σ H1 QB) : tOr tt tu σ H QB := h
theorem w_not (h : tt σ H fun c H1 => QB (!c) H1) : tNot tt σ H QB := h
theorem w_andV (h : te σ H fun x H1 => ∃ c, x = .bl c ∧ if c = true then tf σ H1 Q else Q (.bl false) H1) : tAndV te tf σ H Q := h
theorem w_orV (h : te σ H fun x H1 => ∃ c, x = .bl c ∧ if c = true then Q (.bl true) H1 else tf σ H1 Q) : tOrV te tf σ H Q := h
theorem w_notV (h : te σ H fun x H1 => ∃ c, x = .bl c ∧ Q (.bl (!c)) H1) : tNotV te σ H Q := h
theorem w_ife (h : tt σ H fun c H1 => if c = true then te σ H1 Q else tf σ H1 Q) : tIf tt te tf σ H Q := h
theorem w_add {i j : Int} (q : Q (.int (i + j)) H) : rAddI (.int i) (.int j) H Q := ⟨i, j, rfl, rfl, q⟩
theorem w_sub {i j : Int} (q : Q (.int (i - j)) H) : rSubI (.int i) (.int j) H Q := ⟨i, j, rfl, rfl, q⟩
theorem w_neg {i : Int} (q : Q (.int (-i)) H) : rU (fun i => V.int (-i)) (.int i) H Q := ⟨i, rfl, q⟩
theorem w_lt {i j : Int} (q : Q (.bl (decide (i < j))) H) : rLtI (.int i) (.int j) H Q := ⟨i, j, rfl, rfl, q⟩
theorem w_le {i j : Int} (q : Q (.bl (decide (i ≤ j))) H) : rLeI (.int i) (.int j) H Q := ⟨i, j, rfl, rfl, q⟩
theorem w_gt {i j : Int} (q : Q (.bl (decide (j < i))) H) : rGtI (.int i) (.int j) H Q := ⟨i, j, rfl, rfl, q⟩
theorem w_ge {i j : Int} (q : Q (.bl (decide (j ≤ i))) H) : rGeI (.int i) (.int j) H Q := ⟨i, j, rfl, rfl, q⟩
theorem w_tup (h : ta σ H fun xs H1 => xs.length ≤ sizeLine ∧ ∀ p, H1 p = none → Q (.ref p) (upd H1 p (.tup xs))) : tTup ta σ H Q := h
theorem w_lst (h : ta σ H fun xs H1 => xs.length ≤ sizeLine ∧ ∀ p, H1 p = none → Q (.ref p) (upd H1 p (.lst xs))) : tLst ta σ H Q := h
theorem w_lrg {tr : L2.St → Hp → (Int → Int → Hp → Prop) → Prop} (h : tr σ H fun a b H1 => RgOk a b ∧ ∀ q, H1 q = none → Q (.ref q) (upd H1 q (.lst (rgV a b)))) : tLstRg tr σ H Q := h
theorem w_trg {tr : L2.St → Hp → (Int → Int → Hp → Prop) → Prop} (h : tr σ H fun a b H1 => RgOk a b ∧ ∀ q, H1 q = none → Q (.ref q) (upd H1 q (.tup (rgV a b)))) : tTupRg tr σ H Q := h
theorem w_rg1 {QR : Int → Int → Hp → Prop} (h : te σ H fun x H1 => ∃ n, x = .int n ∧ QR 0 n H1) : tRg1 te σ H QR := h
theorem w_iex {i : Int} {P : Int → Prop} (h : P i) : ∃ n, V.int i = .int n ∧ P n := ⟨i, rfl, h⟩
theorem w_yes (q : QB true H) : tYes σ H QB := q
theorem w_bm {T : String} {r : V → List V → Hp → VK → Prop} (h : te σ H fun x H1 => tyV K T x H1 ∧ ta σ H1 fun xs H2 => r x xs H2 Q) : tBM K T r te ta σ H Q := h
theorem w_bm0 {T : String} {r : V → List V → Hp → VK → Prop} (h : te σ H fun x H1 => tyV K T x H1 ∧ r x [] H1 Q) : tBM0 K T r te σ H Q := h
end
/-- ways that meet: what holds where they meet -/
theorem w_join {t : TS} {D : Ends} {σ : L2.St} {H : Hp} (M : L2.St → Hp → Prop) (key : ∀ σ' H', M σ' H' → D.nx σ' H') (h : (∀ σ' H', M σ' H' → D.nx σ' H') → t D σ H) : t D σ H := h key
/-- for .. in range(n), behind n's reading -/
theorem w_for1 {σ : L2.St} {H : Hp} {D : Ends} {i n : Nat} {t : TS} (hn : n ≤ 1000000) (Pv : Nat → L2.St → Hp → Prop) (h0 : Pv 0 σ H)
    (hs : ∀ k σ H, k < n → Pv k σ H → t { D with nx := Pv (k + 1), ct := Pv (k + 1), bk := D.nx } (σ.set i (some (.int (k : Int)))) H) (hd : ∀ σ H, Pv n σ H → D.nx σ H) :
    ∃ j : Int, [V.int (n : Int)] = [.int j] ∧ -(2 ^ 62) ≤ j ∧ j < 2 ^ 62 ∧ ∃ W : Nat → Nat → L2.St → Hp → Prop, (∃ m, W 0 m σ H) ∧ ∀ i' m σ H, W i' m σ H →
      ((Itr 0 j.toNat).stop i' H ∧ D.nx σ H) ∨ ((Itr 0 j.toNat).go i' H ∧ ∃ N : L2.St → Hp → Prop, (∀ σ' H', N σ' H' → ∃ m', m' < m ∧ W (i' + 1) m' σ' H') ∧ ∀ x H', (Itr 0 j.toNat).yld i' H x H' → gName i x σ H' fun σ2 H2 => t { D with nx := N, ct := N, bk := D.nx } σ2 H2) :=
  ⟨_, rfl, by omega, by omega, for_range (n := n) Pv h0 (fun k σ H hk p => by
    show t _ (σ.set i (some (V.int (0 + (k : Int))))) H
    rw [Int.zero_add]
    exact hs k σ H hk p) hd⟩
theorem w_for {σ : L2.St} {H : Hp} {D : Ends} {wi : TI} {g : TG} {tb : TS} (h : wi σ H fun J H1 => ∃ W : Nat → Nat → L2.St → Hp → Prop, (∃ m, W 0 m σ H1) ∧ ∀ i m σ H, W i m σ H →
  (J.stop i H ∧ D.nx σ H) ∨ (J.go i H ∧ ∃ N : L2.St → Hp → Prop, (∀ σ' H', N σ' H' → ∃ m', m' < m ∧ W (i + 1) m' σ' H') ∧ ∀ x H', J.yld i H x H' → g x σ H' fun σ2 H2 => tb { D with nx := N, ct := N, bk := D.nx } σ2 H2)) : tFor wi g tb D σ H := h
theorem w_irng1 {σ : L2.St} {H : Hp} {ta : TA} {R : It → Hp → Prop} (h : ta σ H fun vs H1 => ∃ j : Int, vs = [.int j] ∧ -(2 ^ 62) ≤ j ∧ j < 2 ^ 62 ∧ R (Itr 0 j.toNat) H1) : iRng1 ta σ H R := h
theorem w_irng2 {σ : L2.St} {H : Hp} {ta : TA} {R : It → Hp → Prop} (h : ta σ H fun vs H1 => ∃ i j : Int, vs = [.int i, .int j] ∧ (-(2 ^ 62) ≤ i ∧ i < 2 ^ 62 ∧ -(2 ^ 62) ≤ j ∧ j < 2 ^ 62) ∧ R (Itr i (j - i).toNat) H1) : iRng2 ta σ H R := h
theorem w_ilist {K : PySem.W.Frag} {σ : L2.St} {H : Hp} {te : TE} {R : It → Hp → Prop} (h : te σ H fun x H1 => ∃ a, x = .ref a ∧ (∃ xs, SqL K H1 a xs) ∧ R (Itl K a) H1) : iList K te σ H R := h
theorem w_itup {K : PySem.W.Frag} {σ : L2.St} {H : Hp} {te : TE} {R : It → Hp → Prop} (h : te σ H fun x H1 => ∃ a, x = .ref a ∧ (∃ xs, SqT K H1 a xs) ∧ R (Itt K a) H1) : iTup K te σ H R := h
/-! ### steps -/
section
variable {K : PySem.W.Frag} {H : Hp} {Q : VK} {p : Addr}
theorem ix_LN {a : List Nat} {z : Int} {i : Nat} (h : SqL K H p (vN a)) (hi : i < a.length) (e : z = (i : Int)) (q : Q (.int ((a.getD i 0 : Nat) : Int)) H) : rIxL K (.ref p) (.int z) H Q := ⟨p, _, _, _, rfl, rfl, h, at_vN e hi, q⟩
theorem ix_TN {a : List Nat} {z : Int} {i : Nat} (h : SqT K H p (vN a)) (hi : i < a.length) (e : z = (i : Int)) (q : Q (.int ((a.getD i 0 : Nat) : Int)) H) : rIxT K (.ref p) (.int z) H Q := ⟨p, _, _, _, rfl, rfl, h, at_vN e hi, q⟩
theorem ix_L {xs : List V} {z : Int} {i : Nat} {v : V} (h : SqL K H p xs) (hi : xs[i]? = some v) (e : z = (i : Int)) (q : Q v H) : rIxL K (.ref p) (.int z) H Q := ⟨p, _, _, _, rfl, rfl, h, at_of e hi, q⟩
theorem ix_T {xs : List V} {z : Int} {i : Nat} {v : V} (h : SqT K H p xs) (hi : xs[i]? = some v) (e : z = (i : Int)) (q : Q v H) : rIxT K (.ref p) (.int z) H Q := ⟨p, _, _, _, rfl, rfl, h, at_of e hi, q⟩
theorem len_L {xs : List V} (h : SqL K H p xs) (q : Q (.int (xs.length : Nat)) H) : rLenQ K [.ref p] H Q := ⟨p, xs, rfl, .inl h, q⟩
theorem len_T {xs : List V} (h : SqT K H p xs) (q : Q (.int (xs.length : Nat)) H) : rLenQ K [.ref p] H Q := ⟨p, xs, rfl, .inr h, q⟩
theorem len_LN {a : List Nat} (h : SqL K H p (vN a)) (q : Q (.int (a.length : Nat)) H) : rLenQ K [.ref p] H Q := ⟨p, _, rfl, .inl h, by rw [vN_len]; exact q⟩
theorem len_TN {a : List Nat} (h : SqT K H p (vN a)) (q : Q (.int (a.length : Nat)) H) : rLenQ K [.ref p] H Q := ⟨p, _, rfl, .inr h, by rw [vN_len]; exact q⟩
theorem len_TI {a : List Int} (h : SqT K H p (vI a)) (q : Q (.int (a.length : Nat)) H) : rLenQ K [.ref p] H Q := ⟨p, _, rfl, .inr h, by rw [vI_len]; exact q⟩
theorem len_LI {a : List Int} (h : SqL K H p (vI a)) (q : Q (.int (a.length : Nat)) H) : rLenQ K [.ref p] H Q := ⟨p, _, rfl, .inl h, by rw [vI_len]; exact q⟩
theorem eq_I {i j : Int} (q : Q (.bl (decide (i = j))) H) : rEq (.int i) (.int j) H Q := ⟨rfl, by
  have e : decide (V.int i = V.int j) = decide (i = j) := by
    by_cases h : i = j
    · rw [decide_eq_true h, decide_eq_true (by rw [h])]
    · rw [decide_eq_false h, decide_eq_false (fun z => h (V.int.inj z))]
  rw [e]; exact q⟩
theorem ne_I {i j : Int} (q : Q (.bl (!decide (i = j))) H) : rNe (.int i) (.int j) H Q := ⟨rfl, by
  have e : decide (V.int i = V.int j) = decide (i = j) := by
    by_cases h : i = j
    · rw [decide_eq_true h, decide_eq_true (by rw [h])]
    · rw [decide_eq_false h, decide_eq_false (fun z => h (V.int.inj z))]
  rw [e]; exact q⟩
theorem eq_B {i j : Bool} (q : Q (.bl (i == j)) H) : rEq (.bl i) (.bl j) H Q := ⟨rfl, by
  have e : decide (V.bl i = V.bl j) = (i == j) := by cases i <;> cases j <;> decide
  rw [e]; exact q⟩
theorem ne_B {i j : Bool} (q : Q (.bl (i != j)) H) : rNe (.bl i) (.bl j) H Q := ⟨rfl, by
  have e : (!decide (V.bl i = V.bl j)) = (i != j) := by cases i <;> cases j <;> decide
  rw [e]; exact q⟩
/-- % and // by a positive number below 2 ^ 30 -/
theorem mod_I {i j : Int} (h : 0 < j) (q : Q (.int (i % j)) H) : rModI (.int i) (.int j) H Q := ⟨i, j, rfl, rfl, by omega, by show Q (.int (i.fmod j)) H; rw [fmod_pos h]; exact q⟩
theorem div_I {i j : Int} (h : 0 < j) (h2 : j < 1073741824) (q : Q (.int (i / j)) H) : rDivI (.int i) (.int j) H Q := ⟨i, j, rfl, rfl, ⟨by omega, by omega⟩, by show Q (.int (i.fdiv j)) H; rw [fdiv_pos h]; exact q⟩
theorem mul_I {i j : Int} (h : (-(2 ^ 64) < i ∧ i < 2 ^ 64) ∨ (-(2 ^ 64) < j ∧ j < 2 ^ 64)) (q : Q (.int (i * j)) H) : rMulI (.int i) (.int j) H Q := ⟨i, j, rfl, rfl, h, q⟩
theorem seqIx {i n : Nat} {z : Int} (e : z = (i : Int)) (h : i < n) : seqIndex? z n = some i := by
  subst e
  unfold seqIndex?
  first
    | (rw [if_neg (by omega), if_pos (by omega)]; rfl)
    | (simp; omega)
theorem eraseIdx_map' {α β : Type} (f : α → β) : ∀ (l : List α) (i : Nat), (l.map f).eraseIdx i = (l.eraseIdx i).map f
  | [], _ => rfl
  | _ :: _, 0 => rfl
  | a :: l, i + 1 => by
    show f a :: (l.map f).eraseIdx i = f a :: (l.eraseIdx i).map f
    rw [eraseIdx_map' f l i]
theorem pop_N {a : List Nat} {z : Int} {i : Nat} (h : H p = some (.lst (vN a))) (hi : i < a.length) (hz : a.length ≤ 100000) (e : z = (i : Int)) (q : Q (.int ((a.getD i 0 : Nat) : Int)) (upd H p (.lst (vN (a.eraseIdx i))))) : rPopAt (.ref p) [.int z] H Q := by
  refine ⟨p, _, z, i, _, rfl, rfl, h, by omega, by omega, seqIx e (by rw [vN_len]; exact hi), vN_at (getD_at hi), ?_⟩
  have e2 : (vN a).eraseIdx i = vN (a.eraseIdx i) := by
    show (a.map _).eraseIdx i = (a.eraseIdx i).map _
    exact eraseIdx_map' _ _ _
  rw [e2]
  exact q
theorem app_N {a : List Nat} {n : Nat} (h : H p = some (.lst (vN a))) (hz : a.length < 100000) (q : Q .non (upd H p (.lst (vN (a ++ [n]))))) : rAppend (.ref p) [.int (n : Int)] H Q :=
  ⟨p, _, _, rfl, rfl, h, by rw [vN_len]; exact zlt hz, by
    have e : vN a ++ [V.int (n : Int)] = vN (a ++ [n]) := by
      show a.map _ ++ _ = (a ++ [n]).map _
      rw [List.map_append] <;> rfl
    rw [e]; exact q⟩
theorem app_V {xs : List V} {v : V} (h : H p = some (.lst xs)) (hz : xs.length < 100000) (q : Q .non (upd H p (.lst (xs ++ [v])))) : rAppend (.ref p) [v] H Q := ⟨p, _, _, rfl, rfl, h, zlt hz, q⟩
theorem isL {xs : List V} (h : SqL K H p xs) : tyV K "list" (.ref p) H := .inl ⟨rfl, _, h⟩
theorem tup_L {xs : List V} (h : SqL K H p xs) (q : ∀ l, H l = none → Q (.ref l) (upd H l (.tup xs))) : rTupOf K [.ref p] H Q := ⟨p, xs, rfl, .inl ⟨h, q⟩⟩
end
theorem rgV_N (n : Nat) : rgV 0 (n : Int) = vN (List.range n) := by
  show (List.range ((n : Int) - 0).toNat).map _ = (List.range n).map _
  have e : ((n : Int) - 0).toNat = n := by omega
  rw [e]
  refine List.map_congr_left fun i _ => ?_
  show V.int (0 + (i : Nat)) = V.int (i : Int)
  rw [Int.zero_add]
theorem rgOk_N {n : Nat} (h : n ≤ 100000) : RgOk 0 (n : Int) := .of_le (by omega) (by omega) (by omega) (by omega)

/-! ### permutations of 0 .. n - 1 -/
/-- the numbers 0 .. n - 1 in some order -/
def IsP (n : Nat) (a : List Nat) : Prop := a.Perm (List.range n)
theorem IsP.len {n : Nat} {a : List Nat} (h : IsP n a) : a.length = n := by rw [List.Perm.length_eq h, List.length_range]
theorem IsP.lt {n : Nat} {a : List Nat} (h : IsP n a) {x : Nat} (m : x ∈ a) : x < n := List.mem_range.mp ((List.Perm.mem_iff h).mp m)
theorem IsP.mem {n : Nat} {a : List Nat} (h : IsP n a) {x : Nat} (m : x < n) : x ∈ a := (List.Perm.mem_iff h).mpr (List.mem_range.mpr m)
theorem IsP.nd {n : Nat} {a : List Nat} (h : IsP n a) : a.Nodup := (List.Perm.nodup_iff h).mpr List.nodup_range
theorem IsP.getD_lt {n : Nat} {a : List Nat} (h : IsP n a) {i : Nat} (m : i < n) : a.getD i 0 < n := by
  have e := getD_at (a := a) (i := i) (by rw [h.len]; exact m)
  exact h.lt (List.mem_of_getElem? e)
theorem nd_sub_len {α : Type} [DecidableEq α] : ∀ {a m : List α}, a.Nodup → (∀ x ∈ a, x ∈ m) → a.length ≤ m.length
  | [], _, _, _ => Nat.zero_le _
  | x :: r, m, nd, hs => by
    obtain ⟨hx, nr⟩ := List.nodup_cons.mp nd
    have hm : x ∈ m := hs x List.mem_cons_self
    have ih : r.length ≤ (m.erase x).length := nd_sub_len nr fun y hy => by
      have hne : y ≠ x := fun e => hx (by rw [← e]; exact hy)
      exact (List.mem_erase_of_ne hne).mpr (hs y (List.mem_cons_of_mem _ hy))
    rw [List.length_erase_of_mem hm] at ih
    have : 0 < m.length := List.length_pos_of_mem hm
    show r.length + 1 ≤ _
    omega
/-- a list without twice the same, as long as it is told to be within m's: all of m -/
theorem perm_of_nd_sub : ∀ {a m : List Nat}, a.Nodup → (∀ x ∈ a, x ∈ m) → m.length ≤ a.length → a.Perm m
  | [], m, _, _, hl => by
    have : m = [] := List.length_eq_zero_iff.mp (Nat.le_zero.mp hl)
    rw [this]
  | x :: r, m, nd, hs, hl => by
    obtain ⟨hx, nr⟩ := List.nodup_cons.mp nd
    have hm : x ∈ m := hs x List.mem_cons_self
    have p1 : m.Perm (x :: m.erase x) := List.perm_cons_erase hm
    have ih : r.Perm (m.erase x) := by
      refine perm_of_nd_sub nr (fun y hy => ?_) ?_
      · have hne : y ≠ x := fun e => hx (e ▸ hy)
        exact (List.mem_erase_of_ne hne).mpr (hs y (List.mem_cons_of_mem _ hy))
      · rw [List.length_erase_of_mem hm]
        have : (x :: r).length = r.length + 1 := rfl
        omega
    exact (List.Perm.cons x ih).trans p1.symm
theorem isP_of_nd {n : Nat} {a : List Nat} (nd : a.Nodup) (hl : a.length = n) (hlt : ∀ x ∈ a, x < n) : IsP n a :=
  perm_of_nd_sub nd (fun x hx => List.mem_range.mpr (hlt x hx)) (by rw [List.length_range, hl]; exact Nat.le_refl n)
theorem isP_of_all {n : Nat} {a : List Nat} (hl : a.length = n) (h : ∀ k, k < n → k ∈ a) : IsP n a :=
  (perm_of_nd_sub List.nodup_range (fun x hx => h x (List.mem_range.mp hx)) (by rw [List.length_range, hl]; exact Nat.le_refl n)).symm

/-! ### joined and turned -/
def jn (a b : List Nat) : List Nat := a.map fun k => b.getD k 0
theorem jn_len (a b : List Nat) : (jn a b).length = a.length := List.length_map ..
theorem jn_get {a b : List Nat} {i : Nat} (h : i < a.length) : (jn a b).getD i 0 = b.getD (a.getD i 0) 0 := by
  unfold jn
  rw [List.getD_eq_getElem?_getD, List.getElem?_map, getD_at h] <;> rfl
theorem ext_getD {a b : List Nat} (hl : a.length = b.length) (h : ∀ i, i < a.length → a.getD i 0 = b.getD i 0) : a = b := by
  refine List.ext_getElem? fun i => ?_
  by_cases hi : i < a.length
  · rw [getD_at hi, getD_at (hl ▸ hi), h i hi]
  · rw [List.getElem?_eq_none (by omega), List.getElem?_eq_none (by omega)]
theorem nd_getD {a : List Nat} (nd : a.Nodup) {i j : Nat} (hi : i < a.length) (hj : j < a.length) (e : a.getD i 0 = a.getD j 0) : i = j := nd_ix nd (getD_at hi) (by rw [getD_at hj, e])
theorem nd_of_getD {a : List Nat} (h : ∀ i j, i < a.length → j < a.length → a.getD i 0 = a.getD j 0 → i = j) : a.Nodup := by
  refine List.pairwise_iff_getElem.mpr fun i j hi hj hij e => ?_
  have := h i j hi hj (by rw [List.getD_eq_getElem?_getD, List.getD_eq_getElem?_getD, List.getElem?_eq_getElem hi, List.getElem?_eq_getElem hj, e])
  omega
theorem isP_jn {n : Nat} {a b : List Nat} (ha : IsP n a) (hb : IsP n b) : IsP n (jn a b) := by
  refine isP_of_nd (nd_of_getD fun i j hi hj e => ?_) (by rw [jn_len, ha.len]) fun x hx => ?_
  · rw [jn_len] at hi hj
    rw [jn_get hi, jn_get hj] at e
    have hi' : a.getD i 0 < b.length := by rw [hb.len]; exact ha.getD_lt (by rw [← ha.len]; exact hi)
    have hj' : a.getD j 0 < b.length := by rw [hb.len]; exact ha.getD_lt (by rw [← ha.len]; exact hj)
    exact nd_getD ha.nd hi hj (nd_getD hb.nd hi' hj' e)
  · obtain ⟨k, hk, rfl⟩ := List.mem_map.mp hx
    exact hb.getD_lt (ha.lt hk)
theorem isP_id (n : Nat) : IsP n (List.range n) := List.Perm.refl _
/-- the way back as the program makes it -/
def trnSt (a : List Nat) (k : Nat) : List Nat := (List.range k).foldl (fun row i => row.set (a.getD i 0) i) (List.replicate a.length 0)
def trn (a : List Nat) : List Nat := trnSt a a.length
theorem trnSt_succ (a : List Nat) (k : Nat) : trnSt a (k + 1) = (trnSt a k).set (a.getD k 0) k := by
  unfold trnSt
  rw [List.range_succ, List.foldl_append] <;> rfl
theorem trnSt_len (a : List Nat) : ∀ k, (trnSt a k).length = a.length
  | 0 => List.length_replicate
  | k + 1 => by rw [trnSt_succ, List.length_set, trnSt_len a k]
theorem trnSt_get {n : Nat} {a : List Nat} (h : IsP n a) : ∀ k, k ≤ n → ∀ i, i < k → (trnSt a k).getD (a.getD i 0) 0 = i
  | 0, _, i, hi => absurd hi (Nat.not_lt_zero i)
  | k + 1, hk, i, hi => by
    have hka : k < a.length := by rw [h.len]; omega
    rw [trnSt_succ, List.getD_eq_getElem?_getD]
    by_cases e : i = k
    · subst e
      rw [List.getElem?_set_self (by rw [trnSt_len, h.len]; exact h.getD_lt (by omega))] <;> rfl
    · have hne : a.getD k 0 ≠ a.getD i 0 := fun z => e (nd_getD h.nd (by omega) hka z.symm)
      rw [List.getElem?_set_ne hne, ← List.getD_eq_getElem?_getD]
      exact trnSt_get h k (by omega) i (by omega)
theorem trn_len (a : List Nat) : (trn a).length = a.length := trnSt_len a _
theorem trn_get {n : Nat} {a : List Nat} (h : IsP n a) {i : Nat} (hi : i < n) : (trn a).getD (a.getD i 0) 0 = i := trnSt_get h a.length (by rw [h.len]; exact Nat.le_refl n) i (by rw [h.len]; exact hi)
theorem isP_get_of {n : Nat} {a : List Nat} (h : IsP n a) {x : Nat} (hx : x < n) : ∃ i, i < n ∧ a.getD i 0 = x := by
  obtain ⟨i, hi, e⟩ := List.getElem_of_mem (h.mem hx)
  refine ⟨i, by rw [← h.len]; exact hi, ?_⟩
  rw [List.getD_eq_getElem?_getD, List.getElem?_eq_getElem hi, e] <;> rfl
theorem isP_trn {n : Nat} {a : List Nat} (h : IsP n a) : IsP n (trn a) := by
  refine isP_of_all (by rw [trn_len, h.len]) fun k hk => ?_
  have e := trn_get h hk
  have hl : a.getD k 0 < (trn a).length := by rw [trn_len, h.len]; exact h.getD_lt hk
  have m := List.mem_of_getElem? (getD_at hl)
  rw [e] at m
  exact m
theorem trn_get' {n : Nat} {a : List Nat} (h : IsP n a) {x : Nat} (hx : x < n) : a.getD ((trn a).getD x 0) 0 = x := by
  obtain ⟨i, hi, e⟩ := isP_get_of h hx
  rw [← e, trn_get h hi]
theorem jn_trn {n : Nat} {a : List Nat} (h : IsP n a) : jn a (trn a) = List.range n := by
  refine ext_getD (by rw [jn_len, h.len, List.length_range]) fun i hi => ?_
  rw [jn_len] at hi
  have hi' : i < n := by rw [← h.len]; exact hi
  rw [jn_get hi, trn_get h hi', List.getD_eq_getElem?_getD, List.getElem?_range hi'] <;> rfl
theorem trn_jn {n : Nat} {a : List Nat} (h : IsP n a) : jn (trn a) a = List.range n := by
  refine ext_getD (by rw [jn_len, trn_len, h.len, List.length_range]) fun i hi => ?_
  rw [jn_len, trn_len] at hi
  have hi' : i < n := by rw [← h.len]; exact hi
  rw [jn_get (by rw [trn_len]; exact hi), trn_get' h hi', List.getD_eq_getElem?_getD, List.getElem?_range hi'] <;> rfl
theorem range_getD {n i : Nat} (h : i < n) : (List.range n).getD i 0 = i := by rw [List.getD_eq_getElem?_getD, List.getElem?_range h] <;> rfl
theorem jn_id {n : Nat} {a : List Nat} (h : ∀ x ∈ a, x < n) : jn a (List.range n) = a := by
  unfold jn
  conv => rhs; rw [← List.map_id a]
  exact List.map_congr_left fun x hx => range_getD (h x hx)
theorem id_jn (a : List Nat) : jn (List.range a.length) a = a := by
  refine ext_getD (by rw [jn_len, List.length_range]) fun i hi => ?_
  rw [jn_len, List.length_range] at hi
  rw [jn_get (by rw [List.length_range]; exact hi), range_getD hi]
theorem jn_assoc {a b c : List Nat} (h : ∀ x ∈ a, x < b.length) : jn (jn a b) c = jn a (jn b c) := by
  unfold jn
  rw [List.map_map]
  refine List.map_congr_left fun x hx => ?_
  show c.getD (b.getD x 0) 0 = (jn b c).getD x 0
  rw [jn_get (h x hx)]
/-- a seating -/
def SeatB (a : List Int) : Bool := decide (1 ≤ a.length) && decide (a.length ≤ 16) && (List.range a.length).all fun k => decide ((k : Int) ∈ a)
theorem seatB_N {n : Nat} {a : List Nat} (h : IsP n a) (h1 : 1 ≤ n) (h2 : n ≤ 16) : SeatB (a.map fun (x : Nat) => (x : Int)) = true := by
  unfold SeatB
  rw [List.length_map, h.len, decide_eq_true h1, decide_eq_true h2]
  refine List.all_eq_true.mpr fun k hk => decide_eq_true ?_
  exact List.mem_map.mpr ⟨k, h.mem (List.mem_range.mp hk), rfl⟩
theorem seatB_is {a : List Int} (h : SeatB a = true) : ∃ b : List Nat, IsP a.length b ∧ a = b.map (fun (x : Nat) => (x : Int)) ∧ 1 ≤ a.length ∧ a.length ≤ 16 := by
  unfold SeatB at h
  rw [Bool.and_eq_true, Bool.and_eq_true] at h
  obtain ⟨⟨h1, h2⟩, h3⟩ := h
  have h3 := List.all_eq_true.mp h3
  have hin : ∀ k, k < a.length → k ∈ a.map Int.toNat := fun k hk => by
    have q := of_decide_eq_true (h3 k (List.mem_range.mpr hk))
    exact List.mem_map.mpr ⟨_, q, by omega⟩
  have P : IsP a.length (a.map Int.toNat) := isP_of_all (List.length_map ..) hin
  have nn : ∀ x ∈ a, 0 ≤ x := by
    -- were one below nought, its place would be free for none of 0 .. n - 1
    have hall : ∀ k, k < a.length → (k : Int) ∈ a := fun k hk => of_decide_eq_true (h3 k (List.mem_range.mpr hk))
    have : (List.range a.length).map (fun (x : Nat) => (x : Int)) |>.Nodup := by
      refine List.pairwise_map.mpr (List.Pairwise.imp (fun hne e => hne (Int.ofNat.inj e)) (List.nodup_range (n := a.length)))
    intro x hx
    refine Decidable.byContradiction fun hneg => ?_
    have hsub : ∀ y ∈ (List.range a.length).map (fun (x : Nat) => (x : Int)), y ∈ a.erase x := fun y hy => by
      obtain ⟨k, hk, e⟩ := List.mem_map.mp hy
      have hne : y ≠ x := fun z => by
        have : (k : Int) = x := e.trans z
        omega
      refine (List.mem_erase_of_ne hne).mpr ?_
      rw [← e]
      exact hall k (List.mem_range.mp hk)
    have hle := nd_sub_len this hsub
    rw [List.length_map, List.length_range, List.length_erase_of_mem hx] at hle
    have : 0 < a.length := List.length_pos_of_mem hx
    omega
  refine ⟨a.map Int.toNat, P, ?_, of_decide_eq_true h1, of_decide_eq_true h2⟩
  rw [List.map_map]
  conv => lhs; rw [← List.map_id a]
  exact List.map_congr_left fun x hx => by
    show x = ((x.toNat : Nat) : Int)
    have := nn x hx
    omega
/-! ### data as a whole -/
section
variable {K : PySem.W.Frag} {H : Hp} {Q : VK} {p q : Addr}
theorem dpAll_of : ∀ {xs : List V} {ds : List PyData}, (∀ (i : Nat) (x : V) (d : PyData), xs[i]? = some x → ds[i]? = some d → Dp K H x d) → xs.length = ds.length → DpAll K H xs ds
  | [], [], _, _ => .nil
  | [], _ :: _, _, h => by simp at h
  | _ :: _, [], _, h => by simp at h
  | x :: xs, d :: ds, h, hl => .cons (h 0 x d rfl rfl) (dpAll_of (fun i y e h1 h2 => h (i + 1) y e (by simpa using h1) (by simpa using h2)) (by simpa using hl))
theorem dpAll_I : ∀ (a : List Int), DpAll K H (vI a) (a.map PyData.int)
  | [] => .nil
  | x :: r => .cons (.int x) (dpAll_I r)
def dT (a : List Int) : PyData := .tuple (a.map PyData.int)
def dL (a : List Int) : PyData := .list (a.map PyData.int)
theorem dp_T {a : List Int} (h : SqT K H p (vI a)) : Dp K H (.ref p) (dT a) := .tup h (dpAll_I a)
theorem dp_L {a : List Int} (h : SqL K H p (vI a)) : Dp K H (.ref p) (dL a) := .lst h (dpAll_I a)
theorem eqvAll_map {α : Type} [DecidableEq α] {f : α → PyData} (h : ∀ x y, PyData.eqv (f x) (f y) = decide (x = y)) : ∀ (a b : List α), PyData.eqvAll (a.map f) (b.map f) = decide (a = b)
  | [], [] => by rw [decide_eq_true rfl] <;> simp [PyData.eqvAll]
  | [], _ :: _ => by rw [decide_eq_false (fun z => by cases z)] <;> simp [PyData.eqvAll]
  | _ :: _, [] => by rw [decide_eq_false (fun z => by cases z)] <;> simp [PyData.eqvAll]
  | x :: a, y :: b => by
    show PyData.eqvAll (f x :: a.map f) (f y :: b.map f) = _
    unfold PyData.eqvAll
    rw [h, eqvAll_map h a b]
    by_cases e : x = y
    · subst e
      by_cases e2 : a = b
      · subst e2; simp
      · rw [decide_eq_false e2, Bool.and_false, decide_eq_false (fun z => e2 (List.cons.inj z).2)]
    · rw [decide_eq_false e, Bool.false_and, decide_eq_false (fun z => e (List.cons.inj z).1)]
theorem eqv_int (x y : Int) : PyData.eqv (.int x) (.int y) = decide (x = y) := by
  unfold PyData.eqv
  by_cases e : x = y
  · subst e; simp
  · rw [decide_eq_false e]; simpa using e
theorem eqv_T (a b : List Int) : PyData.eqv (dT a) (dT b) = decide (a = b) := by
  unfold dT PyData.eqv
  exact eqvAll_map eqv_int a b
theorem eqv_L (a b : List Int) : PyData.eqv (dL a) (dL b) = decide (a = b) := by
  unfold dL PyData.eqv
  exact eqvAll_map eqv_int a b
theorem canAll_map {α : Type} {f : α → PyData} (h : ∀ x, (f x).canLay0 = true) : ∀ (a : List α), PyData.canLayAll0 (a.map f) = true
  | [] => by simp [PyData.canLayAll0]
  | x :: a => by
    show PyData.canLayAll0 (f x :: a.map f) = true
    unfold PyData.canLayAll0
    rw [h x, canAll_map h a] <;> rfl
theorem depthAll_map {α : Type} {f : α → PyData} {n : Nat} (h : ∀ x, (f x).depth ≤ n) : ∀ (a : List α), PyData.depthAll (a.map f) ≤ n
  | [] => by simp [PyData.depthAll]
  | x :: a => by
    show PyData.depthAll (f x :: a.map f) ≤ n
    have h1 := h x
    have h2 := depthAll_map h a
    unfold PyData.depthAll
    omega
theorem can_T (a : List Int) : (dT a).canLay0 = true := by
  unfold dT PyData.canLay0
  exact canAll_map (fun x => by simp [PyData.canLay0]) a
theorem can_L (a : List Int) : (dL a).canLay0 = true := by
  unfold dL PyData.canLay0
  exact canAll_map (fun x => by simp [PyData.canLay0]) a
theorem dep_T (a : List Int) : (dT a).depth ≤ 1 := by
  unfold dT PyData.depth
  have := depthAll_map (f := PyData.int) (n := 0) (fun x => by simp [PyData.depth]) a
  omega
theorem dep_L (a : List Int) : (dL a).depth ≤ 1 := by
  unfold dL PyData.depth
  have := depthAll_map (f := PyData.int) (n := 0) (fun x => by simp [PyData.depth]) a
  omega
theorem shp {d : PyData} (h : d.canLay0 = true) (h2 : d.depth ≤ 64) : SeqAt.shaped d = true := by
  unfold SeqAt.shaped
  rw [h, decide_eq_true h2] <;> rfl
theorem shp_T (a : List Int) : SeqAt.shaped (dT a) = true := shp (can_T a) (by have := dep_T a; omega)
theorem shp_L (a : List Int) : SeqAt.shaped (dL a) = true := shp (can_L a) (by have := dep_L a; omega)
theorem eq_TI {a b : List Int} (ha : SqT K H p (vI a)) (hb : SqT K H q (vI b)) (k : Q (.bl (decide (a = b))) H) : rEqD K (.ref p) (.ref q) H Q := ⟨dT a, dT b, dp_T ha, dp_T hb, shp_T a, shp_T b, by rw [eqv_T]; exact k⟩
theorem ne_TI {a b : List Int} (ha : SqT K H p (vI a)) (hb : SqT K H q (vI b)) (k : Q (.bl (!decide (a = b))) H) : rNeD K (.ref p) (.ref q) H Q := ⟨dT a, dT b, dp_T ha, dp_T hb, shp_T a, shp_T b, by rw [eqv_T]; exact k⟩
theorem vInj {a b : List Nat} : (a.map (fun (x : Nat) => (x : Int)) = b.map (fun (x : Nat) => (x : Int))) ↔ a = b := by
  constructor
  · intro h
    have e := congrArg (List.map Int.toNat) h
    rw [List.map_map, List.map_map] at e
    have i : (Int.toNat ∘ fun (x : Nat) => (x : Int)) = id := by funext x; rfl
    rw [i, List.map_id, List.map_id] at e
    exact e
  · intro h; rw [h]
theorem dec_iff {p q : Prop} [Decidable p] [Decidable q] (h : p ↔ q) : decide p = decide q := by
  by_cases hp : p
  · rw [decide_eq_true hp, decide_eq_true (h.mp hp)]
  · rw [decide_eq_false hp, decide_eq_false (fun z => hp (h.mpr z))]
theorem eq_TN {a b : List Nat} (ha : SqT K H p (vN a)) (hb : SqT K H q (vN b)) (k : Q (.bl (decide (a = b))) H) : rEqD K (.ref p) (.ref q) H Q := by
  rw [vN_eq] at ha hb
  refine eq_TI ha hb ?_
  rw [dec_iff vInj]
  exact k
theorem ne_TN {a b : List Nat} (ha : SqT K H p (vN a)) (hb : SqT K H q (vN b)) (k : Q (.bl (!decide (a = b))) H) : rNeD K (.ref p) (.ref q) H Q := by
  rw [vN_eq] at ha hb
  refine ne_TI ha hb ?_
  rw [dec_iff vInj]
  exact k
theorem set_N {a : List Nat} {z : Int} {i n : Nat} {R : Hp → Prop} (h : H p = some (.lst (vN a))) (hi : i < a.length) (e : z = (i : Int)) (k : R (upd H p (.lst (vN (a.set i n))))) : rSetL (.ref p) (.int z) (.int (n : Int)) H R := by
  refine ⟨p, _, z, i, rfl, rfl, h, ?_, ?_⟩
  · unfold ixN
    rw [vN_len, if_pos (by omega), if_pos (by omega), e] <;> rfl
  · have e2 : (vN a).set i (V.int (n : Int)) = vN (a.set i n) := by
      show (a.map _).set i _ = (a.set i n).map _
      rw [List.map_set]
    rw [e2]
    exact k
theorem rep_0 {n : Nat} (hn : n ≤ 100000) (h : H p = some (.lst [V.int 0])) (k : ∀ l, H l = none → Q (.ref l) (upd H l (.lst (vN (List.replicate n 0))))) : rRep (.ref p) (.int (n : Int)) H Q := by
  refine ⟨p, _, _, rfl, rfl, h, by omega, by omega, zl (by show 1 * ((n : Int)).toNat ≤ 100000; omega), fun l hl => ?_⟩
  have e : (List.replicate ((n : Int)).toNat [V.int 0]).flatten = vN (List.replicate n 0) := by
    show (List.replicate n [V.int 0]).flatten = (List.replicate n 0).map _
    rw [List.map_replicate]
    clear k hl
    induction n with
    | zero => rfl
    | succ m ih => rw [List.replicate_succ, List.flatten_cons, ih (by omega), List.replicate_succ] <;> rfl
  rw [e]
  exact k l hl
end
theorem if_nd {c : Prop} [Decidable c] {A B : Prop} (h1 : ¬ c → A) (h2 : c → B) : if (!decide c) = true then A else B := by
  by_cases h : c
  · rw [decide_eq_true h]; exact if_f rfl (h2 h)
  · rw [decide_eq_false h]; exact if_t rfl (h1 h)
theorem if_nb {c : Bool} {A B : Prop} (h1 : c = false → A) (h2 : c = true → B) : if (!c) = true then A else B := by
  cases c with
  | true => exact if_f rfl (h2 rfl)
  | false => exact if_t rfl (h1 rfl)
theorem take_more {α : Type} {l : List α} {i : Nat} {x : α} (h : l[i]? = some x) : l.take (i + 1) = l.take i ++ [x] := by
  rw [List.take_add_one, h] <;> rfl
theorem vN_get {a : List Nat} {i : Nat} {x : V} (h : (vN a)[i]? = some x) : ∃ n, a[i]? = some n ∧ x = V.int (n : Int) := by
  have h : (a.map fun (n : Nat) => V.int (n : Int))[i]? = some x := h
  rw [List.getElem?_map] at h
  cases e : a[i]? with
  | none => rw [e] at h; cases h
  | some n => rw [e] at h; exact ⟨n, rfl, (Option.some.inj h).symm⟩
theorem vN_app (a : List Nat) (n : Nat) : vN a ++ [V.int (n : Int)] = vN (a ++ [n]) := by
  show a.map _ ++ _ = (a ++ [n]).map _
  rw [List.map_append] <;> rfl
end Shf

local macro_rules | `(tactic| walk_at "sq") => `(tactic| with_reducible refine Shf.w_seq ?_)
local macro_rules | `(tactic| walk_at "re") => `(tactic| repeat (with_reducible first
  | refine Shf.w_asg ?_ | refine Shf.w_drop ?_ | refine Shf.w_ret ?_ | refine Shf.w_next ?_ | refine Shf.w_op ?_ | refine Shf.w_c ?_
  | (show L2.tVar _ _ _ _; with_unfolding_all refine Shf.w_var rfl ?_)
  | refine Shf.w_nil ?_ | refine Shf.w_cons ?_ | refine Shf.w_cb ?_ | refine Shf.w_call ?_ | refine Shf.w_test ?_ | refine Shf.w_b ?_ | refine Shf.w_bex ?_
  | refine Shf.w_and ?_ | refine Shf.w_or ?_ | refine Shf.w_not ?_ | refine Shf.w_andV ?_ | refine Shf.w_orV ?_ | refine Shf.w_notV ?_ | refine Shf.w_ife ?_
  | refine Shf.w_add ?_ | refine Shf.w_sub ?_ | refine Shf.w_neg ?_ | refine Shf.w_lt ?_ | refine Shf.w_le ?_ | refine Shf.w_gt ?_ | refine Shf.w_ge ?_ | refine Shf.eq_I ?_ | refine Shf.ne_I ?_ | refine Shf.eq_B ?_ | refine Shf.ne_B ?_
  | refine Shf.w_tup ?_ | refine Shf.w_lst ?_ | refine Shf.w_lrg ?_ | refine Shf.w_trg ?_ | refine Shf.w_rg1 ?_ | refine Shf.w_iex ?_ | refine Shf.w_bm ?_ | refine Shf.w_bm0 ?_ | refine Shf.w_un ?_ | refine Shf.w_asgS ?_
  | refine Shf.w_yes ?_ | refine L2.iteT ?_ | refine L2.iteF ?_ | refine Shf.w_irng1 ?_ | refine Shf.w_irng2 ?_ | refine Shf.w_ilist ?_ | refine Shf.w_itup ?_))
local macro_rules | `(tactic| walk_at "rd") => `(tactic| repeat (with_reducible first
  | refine Shf.w_seq ?_ | refine Shf.w_if ?_ | refine Shf.w_asg ?_ | refine Shf.w_drop ?_ | refine Shf.w_ret ?_ | refine Shf.w_next ?_ | refine Shf.w_op ?_ | refine Shf.w_c ?_
  | (show L2.tVar _ _ _ _; with_unfolding_all refine Shf.w_var rfl ?_)
  | refine Shf.w_nil ?_ | refine Shf.w_cons ?_ | refine Shf.w_cb ?_ | refine Shf.w_call ?_ | refine Shf.w_test ?_ | refine Shf.w_b ?_ | refine Shf.w_bex ?_
  | refine Shf.w_and ?_ | refine Shf.w_or ?_ | refine Shf.w_not ?_ | refine Shf.w_andV ?_ | refine Shf.w_orV ?_ | refine Shf.w_notV ?_ | refine Shf.w_ife ?_
  | refine Shf.w_add ?_ | refine Shf.w_sub ?_ | refine Shf.w_neg ?_ | refine Shf.w_lt ?_ | refine Shf.w_le ?_ | refine Shf.w_gt ?_ | refine Shf.w_ge ?_ | refine Shf.eq_I ?_ | refine Shf.ne_I ?_ | refine Shf.eq_B ?_ | refine Shf.ne_B ?_
  | refine Shf.w_tup ?_ | refine Shf.w_lst ?_ | refine Shf.w_lrg ?_ | refine Shf.w_trg ?_ | refine Shf.w_rg1 ?_ | refine Shf.w_iex ?_ | refine Shf.w_bm ?_ | refine Shf.w_bm0 ?_ | refine Shf.w_un ?_ | refine Shf.w_asgS ?_
  | refine Shf.w_yes ?_ | refine L2.iteT ?_ | refine L2.iteF ?_ | refine Shf.w_for ?_ | refine Shf.w_irng1 ?_ | refine Shf.w_irng2 ?_ | refine Shf.w_ilist ?_ | refine Shf.w_itup ?_))
/-! the seats: is_seating .. back; the laws' common helpers -/
namespace Shf
open PySem L2
def sp_law (K : PySem.W.Frag) : Sp := fun vs H Q _ => ∃ (a : Addr) (ns : List Int), vs = [.ref a] ∧ SqL K H a (ns.map V.int) ∧ ns.length ≤ 63 ∧ ∀ H', Q (.bl true) H'
theorem len_law (K : PySem.W.Frag) (g : Gd) (vs : List V) (H : Hp) (Q : VK) (E : XK) (h : sp_law K vs H Q E) : vs.length = 1 := by obtain ⟨_, _, rfl, _⟩ := h; rfl
/-- the reading of a def's body -/
abbrev Rd1 (t : TS) (N : List Str) (vs : List V) (H : Hp) (Q : VK) : Prop := t { nx := fun _ H' => Q .non H', rt := Q } (start N vs) H
/-- membership of an int in a list of ints -/
theorem inV_I (x : Int) (a : List Int) : inV (V.int x) (vI a) = decide (x ∈ a) := by
  unfold inV
  rw [List.any_map]
  induction a with
  | nil => rfl
  | cons y r ih =>
    rw [List.any_cons, ih]
    show (eqV (V.int y) (V.int x) || _) = _
    by_cases e : x = y
    · subst e
      have : eqV (V.int x) (V.int x) = true := by simp [eqV]
      rw [this, decide_eq_true (List.mem_cons_self)] <;> rfl
    · have : eqV (V.int y) (V.int x) = false := by simp [eqV]; exact fun z => e z.symm
      rw [this, Bool.false_or]
      by_cases m : x ∈ r
      · rw [decide_eq_true m, decide_eq_true (List.mem_cons_of_mem _ m)]
      · rw [decide_eq_false m, decide_eq_false (fun z => by rcases List.mem_cons.mp z with z | z; exact e z; exact m z)]
theorem flat_I (a : List Int) : (vI a).all flatV = true := by
  rw [List.all_map]
  exact List.all_eq_true.mpr fun _ _ => rfl
section
variable {K : PySem.W.Frag} {H : Hp} {Q : VK} {p : Addr}
theorem in_TI {a : List Int} {x : Int} (h : SqT K H p (vI a)) (k : Q (.bl (decide (x ∈ a))) H) : rIn K false (.int x) (.ref p) H Q := ⟨p, _, rfl, .inr h, rfl, flat_I a, by rw [inV_I]; exact k⟩
theorem notin_TI {a : List Int} {x : Int} (h : SqT K H p (vI a)) (k : Q (.bl (!decide (x ∈ a))) H) : rIn K true (.int x) (.ref p) H Q := ⟨p, _, rfl, .inr h, rfl, flat_I a, by rw [inV_I]; exact k⟩
theorem in_LI {a : List Int} {x : Int} (h : SqL K H p (vI a)) (k : Q (.bl (decide (x ∈ a))) H) : rIn K false (.int x) (.ref p) H Q := ⟨p, _, rfl, .inl h, rfl, flat_I a, by rw [inV_I]; exact k⟩
theorem notin_LI {a : List Int} {x : Int} (h : SqL K H p (vI a)) (k : Q (.bl (!decide (x ∈ a))) H) : rIn K true (.int x) (.ref p) H Q := ⟨p, _, rfl, .inl h, rfl, flat_I a, by rw [inV_I]; exact k⟩
end
def sp_L_cell_at (K : PySem.W.Frag) (g : Gd) : Sp := fun vs H Q _ => ∃ (a : Addr) (ns : List Int) (j : Nat), vs = [.ref a, .int (j : Int)] ∧ SqL K H a (vI ns) ∧ Q (.int (ns.getD j 0)) H
theorem len_L_cell_at (K : PySem.W.Frag) (g : Gd) (vs : List V) (H : Hp) (Q : VK) (E : XK) (h : sp_L_cell_at K g vs H Q E) : vs.length = 2 := by obtain ⟨_, _, _, rfl, _⟩ := h; rfl
abbrev N_L_cell_at : List Str := ["script", "k"]
/-- _law_cell_at -/
def t_L_cell_at (K : PySem.W.Frag) (g : Gd) (E : XK) : TS :=
  (tSeq (tIfS (tTest (tOp rLtI (tVar 1) (tCB (rLenQ K) (tCons (tVar 0) tNil)))) (tRet (tOp (rIxL K) (tVar 0) (tVar 1))) tNext)
    (tRet (tC (.int 0))))
theorem pure_L_cell_at {K : PySem.W.Frag} {g : Gd} (vs : List V) (H : Hp) (Q : VK) (E : XK) (h : sp_L_cell_at K g vs H Q E) : Rd1 (t_L_cell_at K g E) N_L_cell_at vs H Q := by
  obtain ⟨a, ns, j, rfl, hS, k⟩ := h
  unfold t_L_cell_at
  walk_at "rd"
  refine len_LI hS ?_
  walk_at "rd"
  refine if_d (fun c => ?_) (fun c => ?_)
  · walk_at "rd"
    have hj : j < ns.length := by omega
    refine ix_L (i := j) (v := .int (ns.getD j 0)) hS (vI_at ?_) rfl k
    rw [List.getD_eq_getElem?_getD, List.getElem?_eq_getElem hj] <;> rfl
  · have e : ns.getD j 0 = 0 := by
      rw [List.getD_eq_getElem?_getD, List.getElem?_eq_none (by omega)] <;> rfl
    rw [e] at k
    exact k
def sp_L_whole (K : PySem.W.Frag) (g : Gd) : Sp := fun vs H Q _ => ∃ i : Int, vs = [.int i] ∧ Q (.bl true) H
theorem len_L_whole (K : PySem.W.Frag) (g : Gd) (vs : List V) (H : Hp) (Q : VK) (E : XK) (h : sp_L_whole K g vs H Q E) : vs.length = 1 := by obtain ⟨_, rfl, _⟩ := h; rfl
abbrev N_L_whole : List Str := ["found"]
/-- _law_whole -/
def t_L_whole (K : PySem.W.Frag) (g : Gd) (E : XK) : TS :=
  (tRet (tAndV (tCB (rIsi K) (tCons (tVar 0) (tCons (tC (.ty "int")) tNil))) (tNotV (tCB (rIsi K) (tCons (tVar 0) (tCons (tC (.ty "bool")) tNil))))))
theorem pure_L_whole {K : PySem.W.Frag} {g : Gd} (vs : List V) (H : Hp) (Q : VK) (E : XK) (h : sp_L_whole K g vs H Q E) : Rd1 (t_L_whole K g E) N_L_whole vs H Q := by
  obtain ⟨i, rfl, k⟩ := h
  refine ⟨_, rfl, _, _, .type "int", _, true, rfl, .ty "int", .base (.int i), kit_ty (by decide +kernel), true, rfl, iteT ?_⟩
  exact ⟨_, rfl, _, _, .type "int", _, false, rfl, .ty "bool", .base (.int i), kit_ty (by decide +kernel), _, rfl, k⟩
def sp_is_seating (K : PySem.W.Frag) (g : Gd) : Sp := fun vs H Q _ => ∃ (p : Addr) (a : List Int), vs = [.ref p] ∧ SqT K H p (vI a) ∧ a.length ≤ 1000 ∧ Q (.bl (SeatB a)) H
theorem len_is_seating (K : PySem.W.Frag) (g : Gd) (vs : List V) (H : Hp) (Q : VK) (E : XK) (h : sp_is_seating K g vs H Q E) : vs.length = 1 := by obtain ⟨_, _, rfl, _⟩ := h; rfl
abbrev N_is_seating : List Str := ["row", "k"]
/-- is_seating -/
def t_is_seating (K : PySem.W.Frag) (g : Gd) (E : XK) : TS :=
  (tSeq (tIfS (tOr (tTest (tOp rLtI (tCB (rLenQ K) (tCons (tVar 0) tNil)) (tC (.int 1)))) (tTest (tOp rGtI (tCB (rLenQ K) (tCons (tVar 0) tNil)) (tC (.int 16))))) (tRet (tC (.bl false))) tNext)
    (tSeq (tFor (iRng1 (tCons (tCB (rLenQ K) (tCons (tVar 0) tNil)) tNil)) (gName 1) (tIfS (tTest (tOp (rIn K true) (tVar 1) (tVar 0))) (tRet (tC (.bl false))) tNext))
    (tRet (tC (.bl true)))))
theorem seatB_no {a : List Int} (h : ¬ (1 ≤ a.length ∧ a.length ≤ 16)) : SeatB a = false := by
  unfold SeatB
  by_cases h1 : 1 ≤ a.length
  · rw [decide_eq_true h1, decide_eq_false (fun z => h ⟨h1, z⟩)] <;> rfl
  · rw [decide_eq_false h1] <;> rfl
theorem seatB_no' {a : List Int} {k : Nat} (hk : k < a.length) (h : ¬ (k : Int) ∈ a) : SeatB a = false := by
  unfold SeatB
  have : ((List.range a.length).all fun k => decide ((k : Int) ∈ a)) = false := by
    refine Bool.eq_false_iff.mpr fun z => h ?_
    exact of_decide_eq_true (List.all_eq_true.mp z k (List.mem_range.mpr hk))
  rw [this, Bool.and_false]
theorem seatB_yes {a : List Int} (h1 : 1 ≤ a.length) (h2 : a.length ≤ 16) (h : ∀ k, k < a.length → (k : Int) ∈ a) : SeatB a = true := by
  unfold SeatB
  rw [decide_eq_true h1, decide_eq_true h2]
  exact List.all_eq_true.mpr fun k hk => decide_eq_true (h k (List.mem_range.mp hk))
theorem pure_is_seating {K : PySem.W.Frag} {g : Gd} (vs : List V) (H : Hp) (Q : VK) (E : XK) (h : sp_is_seating K g vs H Q E) : Rd1 (t_is_seating K g E) N_is_seating vs H Q := by
  obtain ⟨p, a, rfl, h, hl, k⟩ := h
  unfold t_is_seating
  walk_at "rd"
  refine len_TI h ?_
  walk_at "rd"
  refine if_d (fun c => ?_) (fun c => ?_)
  · walk_at "rd"
    rw [seatB_no (by omega)] at k
    exact k
  walk_at "rd"
  refine len_TI h ?_
  walk_at "rd"
  refine if_d (fun c2 => ?_) (fun c2 => ?_)
  · walk_at "rd"
    rw [seatB_no (by omega)] at k
    exact k
  walk_at "rd"
  refine len_TI h ?_
  walk_at "rd"
  refine w_for1 (by omega) (fun i σ H' => (∃ v, σ = [some (.ref p), v]) ∧ H' = H ∧ ∀ j, j < i → (j : Int) ∈ a) ⟨⟨_, rfl⟩, rfl, fun j hj => absurd hj (Nat.not_lt_zero j)⟩ ?_ ?_
  · rintro i σ H' hi ⟨⟨v, rfl⟩, rfl, hall⟩
    walk_at "rd"
    refine notin_TI h ?_
    walk_at "rd"
    refine if_nd (fun m => ?_) (fun m => ?_)
    · walk_at "rd"
      rw [seatB_no' hi m] at k
      exact k
    · walk_at "rd"
      refine ⟨⟨_, rfl⟩, rfl, fun j hj => ?_⟩
      by_cases e : j = i
      · rw [e]; exact m
      · exact hall j (by omega)
  · rintro σ H' ⟨⟨v, rfl⟩, rfl, hall⟩
    walk_at "rd"
    rw [seatB_yes (by omega) (by omega) hall] at k
    exact k
def sp_ask_seating (K : PySem.W.Frag) (g : Gd) : Sp := fun vs H Q E => ∃ (p : Addr) (a : List Int), vs = [.ref p] ∧ SqT K H p (vI a) ∧ a.length ≤ 1000 ∧ (SeatB a = true → Q .non H) ∧ (SeatB a = false → E (.ref g.NoSeating) none H)
theorem len_ask_seating (K : PySem.W.Frag) (g : Gd) (vs : List V) (H : Hp) (Q : VK) (E : XK) (h : sp_ask_seating K g vs H Q E) : vs.length = 1 := by obtain ⟨_, _, rfl, _⟩ := h; rfl
abbrev N_ask_seating : List Str := ["a"]
/-- ask_seating -/
def t_ask_seating (K : PySem.W.Frag) (g : Gd) (E : XK) : TS :=
  (tIfS (tNot (tB (tCallS (sp_is_seating K g) (fun _ => E0) (tCons (tVar 0) tNil)))) (tRaiseW (wE E) g.NoSeating) tNext)
theorem pure_ask_seating {K : PySem.W.Frag} {g : Gd} (vs : List V) (H : Hp) (Q : VK) (E : XK) (h : sp_ask_seating K g vs H Q E) : Rd1 (t_ask_seating K g E) N_ask_seating vs H Q := by
  obtain ⟨p, a, rfl, h, hl, k, e⟩ := h
  unfold t_ask_seating
  walk_at "rd"
  refine ⟨p, a, rfl, h, hl, ?_⟩
  walk_at "rd"
  refine if_nb (fun c => e c) (fun c => k c)
def sp_ask_size (K : PySem.W.Frag) (g : Gd) : Sp := fun vs H Q E => ∃ n : Int, vs = [.int n] ∧ (1 ≤ n ∧ n ≤ 16 → Q .non H) ∧ (¬ (1 ≤ n ∧ n ≤ 16) → E (.ref g.NoSize) none H)
theorem len_ask_size (K : PySem.W.Frag) (g : Gd) (vs : List V) (H : Hp) (Q : VK) (E : XK) (h : sp_ask_size K g vs H Q E) : vs.length = 1 := by obtain ⟨_, rfl, _⟩ := h; rfl
abbrev N_ask_size : List Str := ["size"]
/-- ask_size -/
def t_ask_size (K : PySem.W.Frag) (g : Gd) (E : XK) : TS :=
  (tIfS (tOr (tTest (tOp rLtI (tVar 0) (tC (.int 1)))) (tTest (tOp rGtI (tVar 0) (tC (.int 16))))) (tRaiseW (wE E) g.NoSize) tNext)
theorem pure_ask_size {K : PySem.W.Frag} {g : Gd} (vs : List V) (H : Hp) (Q : VK) (E : XK) (h : sp_ask_size K g vs H Q E) : Rd1 (t_ask_size K g E) N_ask_size vs H Q := by
  obtain ⟨n, rfl, k, e⟩ := h
  unfold t_ask_size
  walk_at "rd"
  refine if_d (fun c => ?_) (fun c => ?_)
  · walk_at "rd"
    exact e (by omega)
  walk_at "rd"
  refine if_d (fun c2 => ?_) (fun c2 => ?_)
  · exact e (by omega)
  · exact k (by omega)
def sp_rest (K : PySem.W.Frag) (g : Gd) : Sp := fun vs H Q E => ∃ n : Int, vs = [.int n] ∧ (1 ≤ n ∧ n ≤ 16 → NewT H (List.range n.toNat) Q) ∧ (¬ (1 ≤ n ∧ n ≤ 16) → E (.ref g.NoSize) none H)
theorem len_rest (K : PySem.W.Frag) (g : Gd) (vs : List V) (H : Hp) (Q : VK) (E : XK) (h : sp_rest K g vs H Q E) : vs.length = 1 := by obtain ⟨_, rfl, _⟩ := h; rfl
abbrev N_rest : List Str := ["size"]
/-- rest -/
def t_rest (K : PySem.W.Frag) (g : Gd) (E : XK) : TS :=
  (tSeq (tDrop (tCallS (sp_ask_size K g) (WE (wE E)) (tCons (tVar 0) tNil)))
    (tRet (tTupRg (tRg1 (tVar 0)))))
theorem pure_rest {K : PySem.W.Frag} {g : Gd} (vs : List V) (H : Hp) (Q : VK) (E : XK) (h : sp_rest K g vs H Q E) : Rd1 (t_rest K g E) N_rest vs H Q := by
  obtain ⟨n, rfl, k, e⟩ := h
  unfold t_rest
  walk_at "rd"
  refine ⟨n, rfl, fun c => ?_, e⟩
  obtain ⟨m, rfl⟩ : ∃ m : Nat, n = (m : Int) := ⟨n.toNat, by omega⟩
  walk_at "rd"
  refine ⟨rgOk_N (by omega), fun r hr => ?_⟩
  exact k c r _ ((Same.refl H).new hr) hr (by rw [upd_same, rgV_N] <;> rfl)
theorem turned_core {K : PySem.W.Frag} {p : Addr} {n : Nat} {a : List Nat} {H : Hp} {Q : VK} {nx : L2.St → Hp → Prop} (hp : SqT K H p (vN a)) (ha : IsP n a) (hn : n ≤ 1000) (k : NewT H (trn a) Q) :
    (tSeq (tAsg (tOp rRep (tLst (tCons (tC (.int 0)) tNil)) (tCB (rLenQ K) (tCons (tVar 0) tNil))) (gName 1))
    (tSeq (tFor (iRng1 (tCons (tCB (rLenQ K) (tCons (tVar 0) tNil)) tNil)) (gName 2) (tAsg (tVar 2) (gSub (tVar 1) (tOp (rIxT K) (tVar 0) (tVar 2)) rSetL)))
    (tRet (tCB (rTupOf K) (tCons (tVar 1) tNil))))) { nx := nx, rt := Q } (start ["a", "row", "k"] [.ref p]) H := by
  have hlen := ha.len
  walk_at "rd"
  refine ⟨zl (by show 1 ≤ 100000; decide), fun z hz => ?_⟩
  walk_at "rd"
  have s1 : Same H (upd H z (.lst [V.int 0])) := (Same.refl H).new hz
  refine len_TN (s1.tup hp) ?_
  refine rep_0 (by omega) upd_same fun l hl => ?_
  have s2 := s1.new (o := .lst (vN (List.replicate a.length 0))) hl
  have hl0 : H l = none := s1.free hl
  walk_at "rd"
  refine len_TN (s2.tup hp) ?_
  walk_at "rd"
  refine w_for1 (by omega) (fun i σ H' => (∃ v, σ = [some (.ref p), some (.ref l), v]) ∧ Same H H' ∧ H' l = some (.lst (vN (trnSt a i)))) ⟨⟨_, rfl⟩, s2, upd_same⟩ ?_ ?_
  · rintro i σ H' hi ⟨⟨v, rfl⟩, s, hL⟩
    walk_at "rd"
    refine ix_TN (i := i) (s.tup hp) hi rfl ?_
    refine set_N (i := a.getD i 0) (n := i) hL (by rw [trnSt_len, ha.len]; exact ha.getD_lt (by omega)) rfl ?_
    exact ⟨⟨_, rfl⟩, s.up hl0, by rw [upd_same, trnSt_succ]⟩
  · rintro σ H' ⟨⟨v, rfl⟩, s, hL⟩
    walk_at "rd"
    exact tup_L (sqL hL) fun r hr => k r _ (s.new hr) (s.free hr) upd_same
def sp_turned (K : PySem.W.Frag) (g : Gd) : Sp := fun vs H Q _ => ∃ (p : Addr) (n : Nat) (a : List Nat), vs = [.ref p] ∧ SqT K H p (vN a) ∧ IsP n a ∧ n ≤ 1000 ∧ NewT H (trn a) Q
theorem len_turned (K : PySem.W.Frag) (g : Gd) (vs : List V) (H : Hp) (Q : VK) (E : XK) (h : sp_turned K g vs H Q E) : vs.length = 1 := by obtain ⟨_, _, _, rfl, _⟩ := h; rfl
abbrev N_turned : List Str := ["a", "row", "k"]
/-- turned -/
def t_turned (K : PySem.W.Frag) (g : Gd) (E : XK) : TS :=
  (tSeq (tAsg (tOp rRep (tLst (tCons (tC (.int 0)) tNil)) (tCB (rLenQ K) (tCons (tVar 0) tNil))) (gName 1))
    (tSeq (tFor (iRng1 (tCons (tCB (rLenQ K) (tCons (tVar 0) tNil)) tNil)) (gName 2) (tAsg (tVar 2) (gSub (tVar 1) (tOp (rIxT K) (tVar 0) (tVar 2)) rSetL)))
    (tRet (tCB (rTupOf K) (tCons (tVar 1) tNil)))))
theorem pure_turned {K : PySem.W.Frag} {g : Gd} (vs : List V) (H : Hp) (Q : VK) (E : XK) (h : sp_turned K g vs H Q E) : Rd1 (t_turned K g E) N_turned vs H Q := by
  obtain ⟨p, n, a, rfl, hp, ha, hn, k⟩ := h
  exact turned_core hp ha hn k
def sp_L_turned (K : PySem.W.Frag) (g : Gd) : Sp := fun vs H Q _ => ∃ (p : Addr) (n : Nat) (a : List Nat), vs = [.ref p] ∧ SqT K H p (vN a) ∧ IsP n a ∧ n ≤ 1000 ∧ NewT H (trn a) Q
theorem len_L_turned (K : PySem.W.Frag) (g : Gd) (vs : List V) (H : Hp) (Q : VK) (E : XK) (h : sp_L_turned K g vs H Q E) : vs.length = 1 := by obtain ⟨_, _, _, rfl, _⟩ := h; rfl
abbrev N_L_turned : List Str := ["a", "row", "k"]
/-- _law_turned -/
def t_L_turned (K : PySem.W.Frag) (g : Gd) (E : XK) : TS :=
  (tSeq (tAsg (tOp rRep (tLst (tCons (tC (.int 0)) tNil)) (tCB (rLenQ K) (tCons (tVar 0) tNil))) (gName 1))
    (tSeq (tFor (iRng1 (tCons (tCB (rLenQ K) (tCons (tVar 0) tNil)) tNil)) (gName 2) (tAsg (tVar 2) (gSub (tVar 1) (tOp (rIxT K) (tVar 0) (tVar 2)) rSetL)))
    (tRet (tCB (rTupOf K) (tCons (tVar 1) tNil)))))
theorem pure_L_turned {K : PySem.W.Frag} {g : Gd} (vs : List V) (H : Hp) (Q : VK) (E : XK) (h : sp_L_turned K g vs H Q E) : Rd1 (t_L_turned K g E) N_L_turned vs H Q := by
  obtain ⟨p, n, a, rfl, hp, ha, hn, k⟩ := h
  exact turned_core hp ha hn k
def sp_back (K : PySem.W.Frag) (g : Gd) : Sp := fun vs H Q E => ∃ (p : Addr) (a : List Int), vs = [.ref p] ∧ SqT K H p (vI a) ∧ a.length ≤ 1000 ∧
  (SeatB a = false → E (.ref g.NoSeating) none H) ∧ (∀ n a', a = a'.map (fun (x : Nat) => (x : Int)) → IsP n a' → 1 ≤ n → n ≤ 16 → NewT H (trn a') Q)
theorem len_back (K : PySem.W.Frag) (g : Gd) (vs : List V) (H : Hp) (Q : VK) (E : XK) (h : sp_back K g vs H Q E) : vs.length = 1 := by obtain ⟨_, _, rfl, _⟩ := h; rfl
abbrev N_back : List Str := ["a"]
/-- back -/
def t_back (K : PySem.W.Frag) (g : Gd) (E : XK) : TS :=
  (tSeq (tDrop (tCallS (sp_ask_seating K g) (WE (wE E)) (tCons (tVar 0) tNil)))
    (tRet (tCallS (sp_turned K g) (fun _ => E0) (tCons (tVar 0) tNil))))
theorem pure_back {K : PySem.W.Frag} {g : Gd} (vs : List V) (H : Hp) (Q : VK) (E : XK) (h : sp_back K g vs H Q E) : Rd1 (t_back K g E) N_back vs H Q := by
  obtain ⟨p, a, rfl, hp, hla, e1, k⟩ := h
  unfold t_back
  walk_at "rd"
  refine ⟨p, a, rfl, hp, hla, fun ca => ?_, fun c => e1 c⟩
  walk_at "rd"
  obtain ⟨a', pa, ea, h1, h2⟩ := seatB_is ca
  rw [ea, ← vN_eq] at hp
  exact ⟨p, _, a', rfl, hp, pa, by omega, k _ a' ea pa h1 h2⟩
theorem erase_perm {α : Type} : ∀ {l : List α} {i : Nat} (h : i < l.length), (l[i] :: l.eraseIdx i).Perm l
  | [], _, h => absurd h (Nat.not_lt_zero _)
  | _ :: _, 0, _ => List.Perm.refl _
  | a :: l, i + 1, h => by
    have h' : i < l.length := Nat.lt_of_succ_lt_succ h
    have ih := erase_perm (l := l) (i := i) h'
    show (l[i] :: a :: l.eraseIdx i).Perm (a :: l)
    exact (List.Perm.swap a l[i] _).trans (List.Perm.cons a ih)
/-- drawing: the i-th of what is left, put behind what is drawn -/
theorem draw_perm {left row : List Nat} {i : Nat} (h : i < left.length) : ((row ++ [left.getD i 0]) ++ left.eraseIdx i).Perm (row ++ left) := by
  rw [List.append_assoc]
  refine List.Perm.append_left row ?_
  have e : left.getD i 0 = left[i] := by rw [List.getD_eq_getElem?_getD, List.getElem?_eq_getElem h] <;> rfl
  rw [e]
  exact erase_perm h
def drawStep (n : Nat) (f : Int → Int) (d : Int → Int → Int) (s : Int × List Nat × List Nat) (k : Nat) : Int × List Nat × List Nat :=
  let c := f s.1
  let m : Int := (n : Int) - (k : Int)
  (d c m, s.2.1.eraseIdx (c % m).toNat, s.2.2 ++ [s.2.1.getD (c % m).toNat 0])
def drawSt (n : Nat) (f : Int → Int) (d : Int → Int → Int) (c : Int) (k : Nat) : Int × List Nat × List Nat := (List.range k).foldl (drawStep n f d) (c, List.range n, [])
theorem drawSt_succ (n : Nat) (f : Int → Int) (d : Int → Int → Int) (c : Int) (k : Nat) : drawSt n f d c (k + 1) = drawStep n f d (drawSt n f d c k) k := by
  unfold drawSt
  rw [List.range_succ, List.foldl_append] <;> rfl
theorem drawSt_ok (n : Nat) (f : Int → Int) (d : Int → Int → Int) (c : Int) : ∀ k, k ≤ n → (drawSt n f d c k).2.1.length = n - k ∧ (drawSt n f d c k).2.2.length = k ∧ ((drawSt n f d c k).2.2 ++ (drawSt n f d c k).2.1).Perm (List.range n)
  | 0, _ => ⟨List.length_range, rfl, List.Perm.refl _⟩
  | k + 1, hk => by
    obtain ⟨h1, h2, h3⟩ := drawSt_ok n f d c k (by omega)
    rw [drawSt_succ]
    have hm : (0 : Int) < (n : Int) - (k : Int) := by omega
    have hi : ((f (drawSt n f d c k).1) % ((n : Int) - (k : Int))).toNat < (drawSt n f d c k).2.1.length := by
      have a := Int.emod_nonneg (f (drawSt n f d c k).1) (Int.ne_of_gt hm)
      have b := Int.emod_lt_of_pos (f (drawSt n f d c k).1) hm
      omega
    refine ⟨?_, ?_, (draw_perm hi).trans h3⟩
    · show (List.eraseIdx _ _).length = _
      rw [List.length_eraseIdx_of_lt hi, h1]; omega
    · show (_ ++ [_]).length = _
      rw [List.length_append, h2]; rfl
theorem drawSt_perm (n : Nat) (f : Int → Int) (d : Int → Int → Int) (c : Int) : IsP n (drawSt n f d c n).2.2 := by
  obtain ⟨h1, h2, h3⟩ := drawSt_ok n f d c n (Nat.le_refl n)
  have e : (drawSt n f d c n).2.1 = [] := List.length_eq_zero_iff.mp (by omega)
  rw [e, List.append_nil] at h3
  exact h3
/-- any seating of n by a cell -/
def seatN (c : Int) (n : Nat) : List Nat := (drawSt n (fun c => c) (fun c m => c / m) c n).2.2
/-- .. by a cell mixed -/
def farN (c : Int) (n : Nat) : List Nat := (drawSt n (fun c => (c * 48271 + 11) % 2147483647) (fun c _ => c) c n).2.2
theorem isP_seat (c : Int) (n : Nat) : IsP n (seatN c n) := drawSt_perm _ _ _ _
theorem isP_far (c : Int) (n : Nat) : IsP n (farN c n) := drawSt_perm _ _ _ _
def sp_L_seating (K : PySem.W.Frag) (g : Gd) : Sp := fun vs H Q _ => ∃ (c : Int) (n : Nat), vs = [.int c, .int (n : Int)] ∧ n ≤ 1000 ∧ NewT H (seatN c n) Q
theorem len_L_seating (K : PySem.W.Frag) (g : Gd) (vs : List V) (H : Hp) (Q : VK) (E : XK) (h : sp_L_seating K g vs H Q E) : vs.length = 2 := by obtain ⟨_, _, rfl, _⟩ := h; rfl
abbrev N_L_seating : List Str := ["cell", "size", "left", "row", "k"]
/-- _law_seating -/
def t_L_seating (K : PySem.W.Frag) (g : Gd) (E : XK) : TS :=
  (tSeq (tAsg (tLstRg (tRg1 (tVar 1))) (gName 2))
    (tSeq (tAsg (tLst tNil) (gName 3))
    (tSeq (tFor (iRng1 (tCons (tVar 1) tNil)) (gName 4) (tSeq (tDrop (tBM K "list" rAppend (tVar 3) (tCons (tBM K "list" rPopAt (tVar 2) (tCons (tOp rModI (tVar 0) (tOp rSubI (tVar 1) (tVar 4))) tNil)) tNil)))
    (tAsg (tOp rDivI (tVar 0) (tOp rSubI (tVar 1) (tVar 4))) (gName 0))))
    (tRet (tCB (rTupOf K) (tCons (tVar 3) tNil))))))
theorem pure_L_seating {K : PySem.W.Frag} {g : Gd} (vs : List V) (H : Hp) (Q : VK) (E : XK) (h : sp_L_seating K g vs H Q E) : Rd1 (t_L_seating K g E) N_L_seating vs H Q := by
  obtain ⟨c, n, rfl, hn, k⟩ := h
  unfold t_L_seating
  walk_at "rd"
  refine ⟨rgOk_N (by omega), fun l hl => ?_⟩
  rw [rgV_N]
  have s1 : Same H (upd H l (.lst (vN (List.range n)))) := (Same.refl H).new hl
  walk_at "rd"
  refine ⟨zl (Nat.zero_le _), fun r hr => ?_⟩
  have hr0 := s1.free hr
  have s2 := s1.new (o := .lst []) hr
  have hlr : l ≠ r := ne_of_none upd_same hr
  walk_at "rd"
  refine w_for1 (by omega) (fun i σ H' => (∃ v, σ = [some (.int (drawSt n (fun c => c) (fun c m => c / m) c i).1), some (.int (n : Int)), some (.ref l), some (.ref r), v]) ∧ Same H H' ∧
    H' l = some (.lst (vN (drawSt n (fun c => c) (fun c m => c / m) c i).2.1)) ∧ H' r = some (.lst (vN (drawSt n (fun c => c) (fun c m => c / m) c i).2.2))) ⟨⟨_, rfl⟩, s2, by rw [upd_ne hlr, upd_same] <;> rfl, upd_same⟩ ?_ ?_
  · rintro i σ H' hi ⟨⟨v, rfl⟩, s, hL, hR⟩
    have ok := drawSt_ok n (fun c => c) (fun c m => c / m) c i (by omega)
    have hst := drawSt_succ n (fun c => c) (fun c m => c / m) c i
    generalize drawSt n (fun c => c) (fun c m => c / m) c i = st at ok hst hL hR ⊢
    obtain ⟨c1, left, row⟩ := st
    obtain ⟨o1, o2, _⟩ := ok
    dsimp only at o1 o2 hL hR ⊢
    rw [hst]
    have hm : (0 : Int) < (n : Int) - (i : Int) := by omega
    have b1 := Int.emod_nonneg c1 (Int.ne_of_gt hm)
    have b2 := Int.emod_lt_of_pos c1 hm
    walk_at "rd"
    refine ⟨isL (sqL hR), ?_⟩
    walk_at "rd"
    refine ⟨isL (sqL hL), ?_⟩
    walk_at "rd"
    refine mod_I hm ?_
    walk_at "rd"
    refine pop_N (i := (c1 % ((n : Int) - (i : Int))).toNat) hL (by omega) (by omega) (by omega) ?_
    walk_at "rd"
    refine app_N (a := row) (by rw [upd_ne hlr.symm]; exact hR) (by omega) ?_
    walk_at "rd"
    refine div_I hm (by omega) ?_
    refine ⟨⟨_, rfl⟩, (s.up hl).up hr0, ?_, upd_same⟩
    rw [upd_ne hlr, upd_same] <;> rfl
  · rintro σ H' ⟨⟨v, rfl⟩, s, hL, hR⟩
    walk_at "rd"
    exact tup_L (sqL hR) fun q hq => k q _ (s.new hq) (s.free hq) upd_same
def sp_L_far (K : PySem.W.Frag) (g : Gd) : Sp := fun vs H Q _ => ∃ (c : Int) (n : Nat), vs = [.int c, .int (n : Int)] ∧ n ≤ 1000 ∧ NewT H (farN c n) Q
theorem len_L_far (K : PySem.W.Frag) (g : Gd) (vs : List V) (H : Hp) (Q : VK) (E : XK) (h : sp_L_far K g vs H Q E) : vs.length = 2 := by obtain ⟨_, _, rfl, _⟩ := h; rfl
abbrev N_L_far : List Str := ["cell", "size", "left", "row", "k"]
/-- _law_far -/
def t_L_far (K : PySem.W.Frag) (g : Gd) (E : XK) : TS :=
  (tSeq (tAsg (tLstRg (tRg1 (tVar 1))) (gName 2))
    (tSeq (tAsg (tLst tNil) (gName 3))
    (tSeq (tFor (iRng1 (tCons (tVar 1) tNil)) (gName 4) (tSeq (tAsg (tOp rModI (tOp rAddI (tOp rMulI (tVar 0) (tC (.int 48271))) (tC (.int 11))) (tC (.int 2147483647))) (gName 0))
    (tDrop (tBM K "list" rAppend (tVar 3) (tCons (tBM K "list" rPopAt (tVar 2) (tCons (tOp rModI (tVar 0) (tOp rSubI (tVar 1) (tVar 4))) tNil)) tNil)))))
    (tRet (tCB (rTupOf K) (tCons (tVar 3) tNil))))))
theorem pure_L_far {K : PySem.W.Frag} {g : Gd} (vs : List V) (H : Hp) (Q : VK) (E : XK) (h : sp_L_far K g vs H Q E) : Rd1 (t_L_far K g E) N_L_far vs H Q := by
  obtain ⟨c, n, rfl, hn, k⟩ := h
  unfold t_L_far
  walk_at "rd"
  refine ⟨rgOk_N (by omega), fun l hl => ?_⟩
  rw [rgV_N]
  have s1 : Same H (upd H l (.lst (vN (List.range n)))) := (Same.refl H).new hl
  walk_at "rd"
  refine ⟨zl (Nat.zero_le _), fun r hr => ?_⟩
  have hr0 := s1.free hr
  have s2 := s1.new (o := .lst []) hr
  have hlr : l ≠ r := ne_of_none upd_same hr
  walk_at "rd"
  refine w_for1 (by omega) (fun i σ H' => (∃ v, σ = [some (.int (drawSt n (fun c => (c * 48271 + 11) % 2147483647) (fun c _ => c) c i).1), some (.int (n : Int)), some (.ref l), some (.ref r), v]) ∧ Same H H' ∧
    H' l = some (.lst (vN (drawSt n (fun c => (c * 48271 + 11) % 2147483647) (fun c _ => c) c i).2.1)) ∧ H' r = some (.lst (vN (drawSt n (fun c => (c * 48271 + 11) % 2147483647) (fun c _ => c) c i).2.2))) ⟨⟨_, rfl⟩, s2, by rw [upd_ne hlr, upd_same] <;> rfl, upd_same⟩ ?_ ?_
  · rintro i σ H' hi ⟨⟨v, rfl⟩, s, hL, hR⟩
    have ok := drawSt_ok n (fun c => (c * 48271 + 11) % 2147483647) (fun c _ => c) c i (by omega)
    have hst := drawSt_succ n (fun c => (c * 48271 + 11) % 2147483647) (fun c _ => c) c i
    generalize drawSt n (fun c => (c * 48271 + 11) % 2147483647) (fun c _ => c) c i = st at ok hst hL hR ⊢
    obtain ⟨c1, left, row⟩ := st
    obtain ⟨o1, o2, _⟩ := ok
    dsimp only at o1 o2 hL hR ⊢
    rw [hst]
    have hm : (0 : Int) < (n : Int) - (i : Int) := by omega
    have b1 := Int.emod_nonneg ((c1 * 48271 + 11) % 2147483647) (Int.ne_of_gt hm)
    have b2 := Int.emod_lt_of_pos ((c1 * 48271 + 11) % 2147483647) hm
    walk_at "rd"
    refine mul_I (.inr ⟨by decide, by decide⟩) ?_
    walk_at "rd"
    refine mod_I (by decide) ?_
    walk_at "rd"
    refine ⟨isL (sqL hR), ?_⟩
    walk_at "rd"
    refine ⟨isL (sqL hL), ?_⟩
    walk_at "rd"
    refine mod_I hm ?_
    walk_at "rd"
    refine pop_N (i := (((c1 * 48271 + 11) % 2147483647) % ((n : Int) - (i : Int))).toNat) hL (by omega) (by omega) (by omega) ?_
    walk_at "rd"
    refine app_N (a := row) (by rw [upd_ne hlr.symm]; exact hR) (by omega) ?_
    refine ⟨⟨_, rfl⟩, (s.up hl).up hr0, ?_, upd_same⟩
    rw [upd_ne hlr, upd_same] <;> rfl
  · rintro σ H' ⟨⟨v, rfl⟩, s, hL, hR⟩
    walk_at "rd"
    exact tup_L (sqL hR) fun q hq => k q _ (s.new hq) (s.free hq) upd_same
def sp_L_same (K : PySem.W.Frag) (g : Gd) : Sp := fun vs H Q _ => ∃ (p q : Addr) (a b : List Nat), vs = [.ref p, .ref q] ∧ H p = some (.tup (vN a)) ∧ SqT K H q (vN b) ∧ Q (.bl (decide (a = b))) H
theorem len_L_same (K : PySem.W.Frag) (g : Gd) (vs : List V) (H : Hp) (Q : VK) (E : XK) (h : sp_L_same K g vs H Q E) : vs.length = 2 := by obtain ⟨_, _, _, _, rfl, _⟩ := h; rfl
abbrev N_L_same : List Str := ["found", "due", "x"]
/-- _law_same -/
def t_L_same (K : PySem.W.Frag) (g : Gd) (E : XK) : TS :=
  (tSeq (tIfS (tOr (tNot (tB (tCB (rIsi K) (tCons (tVar 0) (tCons (tC (.ty "tuple")) tNil))))) (tTest (tOp rNe (tCB (rLenQ K) (tCons (tVar 0) tNil)) (tCB (rLenQ K) (tCons (tVar 1) tNil))))) (tRet (tC (.bl false))) tNext)
    (tSeq (tFor (iTup K (tVar 0)) (gName 2) (tIfS (tNot (tB (tCallS (sp_L_whole K g) (fun _ => E0) (tCons (tVar 2) tNil)))) (tRet (tC (.bl false))) tNext))
    (tRet (tOp (rEqD K) (tVar 0) (tVar 1)))))
theorem is_tup {K : PySem.W.Frag} {H : Hp} {Q : VK} {p : Addr} {xs : List V} (h : H p = some (.tup xs)) (k : Q (.bl true) H) : rIsi K [.ref p, .ty "tuple"] H Q :=
  ⟨_, _, .type "tuple", _, true, rfl, .ty "tuple", .base (.tup h), kit_ty (by decide +kernel), k⟩
theorem pure_L_same {K : PySem.W.Frag} {g : Gd} (vs : List V) (H : Hp) (Q : VK) (E : XK) (h : sp_L_same K g vs H Q E) : Rd1 (t_L_same K g E) N_L_same vs H Q := by
  obtain ⟨p, q, a, b, rfl, hp, hq, k⟩ := h
  unfold t_L_same
  walk_at "rd"
  refine is_tup hp ?_
  walk_at "rd"
  refine if_nb (fun c => by cases c) (fun _ => ?_)
  walk_at "rd"
  refine len_TN (sqT hp) ?_
  walk_at "rd"
  refine len_TN hq ?_
  walk_at "rd"
  refine if_nd (fun c => ?_) (fun c => ?_)
  · walk_at "rd"
    rw [decide_eq_false (fun z => c (by rw [z]))] at k
    exact k
  walk_at "rd"
  refine ⟨p, rfl, ⟨_, sqT hp⟩, for_tup (K := K) (a := p) (xs := vN a) (fun i σ H' => (∃ v, σ = [some (.ref p), some (.ref q), v]) ∧ H' = H) ⟨⟨_, rfl⟩, rfl⟩ (fun i σ H' _ s => by rw [s.2]; exact sqT hp) ?_ ?_⟩
  · rintro i x σ H' hi ⟨⟨v, rfl⟩, rfl⟩
    obtain ⟨m, _, rfl⟩ := vN_get hi
    refine (?_ : (tIfS _ _ _) _ _ _)
    walk_at "rd"
    refine ⟨_, rfl, ?_⟩
    walk_at "rd"
    exact if_nb (fun c => by cases c) (fun _ => ⟨⟨_, rfl⟩, rfl⟩)
  · rintro σ H' ⟨⟨v, rfl⟩, rfl⟩
    walk_at "rd"
    exact eq_TN (sqT hp) hq k
end Shf

/-! law k01 -/
namespace Shf
open PySem L2
theorem size16 (z : Int) : ∃ n : Nat, 1 + z % 16 = (n : Int) ∧ 1 ≤ n ∧ n ≤ 16 := by
  have a := Int.emod_nonneg z (b := 16) (by decide)
  have b := Int.emod_lt_of_pos z (b := 16) (by decide)
  exact ⟨(1 + z % 16).toNat, by omega, by omega, by omega⟩
end Shf

/-! law k02 -/
namespace Shf
open PySem L2
abbrev N_law_k02 : List Str := ["script", "size", "one", "found"]
/-- law -/
def t_law_k02 (K : PySem.W.Frag) (g : Gd) (E : XK) : TS :=
  (tSeq (tAsg (tOp rAddI (tC (.int 1)) (tOp rModI (tCallS (sp_L_cell_at K g) (fun _ => E0) (tCons (tVar 0) (tCons (tC (.int 0)) tNil))) (tC (.int 16)))) (gName 1))
    (tSeq (tAsg (tCallS (sp_L_seating K g) (fun _ => E0) (tCons (tCallS (sp_L_cell_at K g) (fun _ => E0) (tCons (tVar 0) (tCons (tC (.int 1)) tNil))) (tCons (tVar 1) tNil))) (gName 2))
    (tSeq (tIfS (tTest (tOp rGtI (tVar 1) (tC (.int 6)))) (tAsg (tCallS (sp_L_far K g) (fun _ => E0) (tCons (tCallS (sp_L_cell_at K g) (fun _ => E0) (tCons (tVar 0) (tCons (tC (.int 1)) tNil))) (tCons (tVar 1) tNil))) (gName 2)) tNext)
    (tSeq (tIfS (tNot (tB (tCallS (sp_L_same K g) (fun _ => E0) (tCons (tCallS (sp_rest K g) (WE (wE E)) (tCons (tVar 1) tNil)) (tCons (tTupRg (tRg1 (tVar 1))) tNil))))) (tRet (tC (.bl false))) tNext)
    (tSeq (tAsg (tCallS (sp_back K g) (WE (wE E)) (tCons (tVar 2) tNil)) (gName 3))
    (tSeq (tIfS (tNot (tB (tCallS (sp_L_same K g) (fun _ => E0) (tCons (tVar 3) (tCons (tCallS (sp_L_turned K g) (fun _ => E0) (tCons (tVar 2) tNil)) tNil))))) (tRet (tC (.bl false))) tNext)
    (tRet (tCallS (sp_L_same K g) (fun _ => E0) (tCons (tCallS (sp_back K g) (WE (wE E)) (tCons (tVar 3) tNil)) (tCons (tVar 2) tNil))))))))))
theorem trn_trn {n : Nat} {a : List Nat} (h : IsP n a) : trn (trn a) = a := by
  have h2 := isP_trn h
  refine ext_getD (by rw [trn_len, trn_len]) fun i hi => ?_
  rw [trn_len, trn_len, h.len] at hi
  -- a at i is x; the way back at x is i
  have e1 := trn_get h hi
  have e2 := trn_get h2 (h.getD_lt hi)
  rw [e1] at e2
  exact e2
theorem pure_law_k02 {K : PySem.W.Frag} {g : Gd} (vs : List V) (H : Hp) (Q : VK) (E : XK) (h : sp_law K vs H Q E) : Rd1 (t_law_k02 K g E) N_law_k02 vs H Q := by
  obtain ⟨a, ns, rfl, hS, _, k⟩ := h
  unfold t_law_k02
  walk_at "rd"
  refine ⟨a, ns, 0, rfl, hS, ?_⟩
  walk_at "rd"
  refine mod_I (by decide) ?_
  obtain ⟨n, hn, h1, h2⟩ := size16 (ns.getD 0 0)
  walk_at "rd"
  rw [hn]
  refine ⟨a, ns, 1, rfl, hS, ?_⟩
  walk_at "rd"
  refine ⟨_, n, rfl, by omega, fun p H1 s1 _ hp => ?_⟩
  walk_at "re"
  walk_at "sq"
  refine w_join (t := tIfS _ _ _) (fun σ H' => ∃ p x, σ = [some (.ref a), some (.int (n : Int)), some (.ref p), none] ∧ H' p = some (.tup (vN x)) ∧ IsP n x) ?_ fun key => ?_
  · rintro σ H' ⟨p, x, rfl, hp, px⟩
    have B : ∀ {p : Addr} {x : List Nat} {H1 : Hp} {R : VK} {E : XK}, H1 p = some (.tup (vN x)) → IsP n x → NewT H1 (trn x) R → sp_back K g [.ref p] H1 R E := fun {p x H1 R E} hp px k1 => by
      have hp1 := sqT (K := K) hp
      rw [vN_eq] at hp1
      refine ⟨p, _, rfl, hp1, by rw [List.length_map, px.len]; omega, fun c => ?_, fun m x' ex _ _ _ => ?_⟩
      · rw [seatB_N px h1 h2] at c; cases c
      · rw [← vInj.mp ex]; exact k1
    walk_at "rd"
    refine ⟨_, rfl, fun _ => ?_, fun c => absurd (by omega) c⟩
    intro r H3 s3 _ hr
    walk_at "rd"
    refine ⟨rgOk_N (by omega), fun r2 hr2 => ?_⟩
    rw [rgV_N]
    have s4 := s3.new (o := .tup (vN (List.range n))) hr2
    walk_at "rd"
    refine ⟨r, r2, _, _, rfl, by rw [upd_ne (ne_of_none hr hr2)]; exact hr, sqT upd_same, ?_⟩
    rw [decide_eq_true (show List.range (n : Int).toNat = List.range n from rfl)]
    walk_at "rd"
    refine if_nb (fun c => by cases c) fun _ => ?_
    walk_at "rd"
    refine B (s4 _ _ hp) px fun b H5 s5 _ hb => ?_
    walk_at "rd"
    refine ⟨p, n, x, rfl, sqT (s5 _ _ (s4 _ _ hp)), px, by omega, fun r3 H6 s6 _ hr3 => ?_⟩
    walk_at "rd"
    refine ⟨b, r3, _, _, rfl, s6 _ _ hb, sqT hr3, ?_⟩
    rw [decide_eq_true rfl]
    walk_at "rd"
    refine if_nb (fun c => by cases c) fun _ => ?_
    walk_at "rd"
    refine B (s6 _ _ hb) (isP_trn px) fun b2 H7 s7 _ hb2 => ?_
    walk_at "rd"
    refine ⟨b2, p, _, _, rfl, hb2, sqT (s7 _ _ (s6 _ _ (s5 _ _ (s4 _ _ hp)))), ?_⟩
    rw [decide_eq_true (trn_trn px)]
    exact k _
  · walk_at "rd"
    refine if_d (fun c => ?_) (fun c => ?_)
    · walk_at "rd"
      refine ⟨a, ns, 1, rfl, s1.seq hS, ?_⟩
      walk_at "rd"
      refine ⟨_, n, rfl, by omega, fun p H3 s3 _ hp => ?_⟩
      exact key _ _ ⟨p, _, rfl, hp, isP_far _ _⟩
    · exact key _ _ ⟨p, _, rfl, hp, isP_seat _ _⟩
end Shf

namespace Shf
open PySem L2
def top (i : Nat) : Stmt := PySem.Challenge.pw_shiftroom_k02_the_way_back.main.body.getD i (.Pass ⟨0, 0, 0, 0⟩)
abbrev s_L_cell_at : Stmt := top 13
abbrev s_L_far : Stmt := top 17
abbrev s_L_whole : Stmt := top 14
abbrev s_L_same : Stmt := top 18
abbrev s_L_seating : Stmt := top 16
abbrev s_L_turned : Stmt := top 15
abbrev s_is_seating : Stmt := top 6
abbrev s_ask_seating : Stmt := top 8
abbrev s_turned : Stmt := top 9
abbrev s_back : Stmt := top 11
abbrev s_ask_size : Stmt := top 7
abbrev s_rest : Stmt := top 10
abbrev s_law_k02 : Stmt := top 19
structure Txt (K : PySem.W.Frag) (mg : Str → Option Value) (g : Gd) : Prop where
  z_bool : mg "bool" = none
  z_int : mg "int" = none
  z_isinstance : mg "isinstance" = none
  z_len : mg "len" = none
  z_list : mg "list" = none
  z_range : mg "range" = none
  z_tuple : mg "tuple" = none
  c_MOST : ∃ t, mg "MOST" = some (.int 16 t)
  g_NoSeating : mg "NoSeating" = some (.ref g.NoSeating)
  g_NoSize : mg "NoSize" = some (.ref g.NoSize)
  x_NoSeating : ExB K mg "NoSeating" g.NoSeating
  x_NoSize : ExB K mg "NoSize" g.NoSize
section
variable {P : Program} {w : World} {K : PySem.W.Frag} {mg : Str → Option Value} {base : Heap} {g : Gd}
theorem sc_L_cell_at : FnScope N_L_cell_at ["script", "k"] (defScope s_L_cell_at) := ⟨rfl, rfl, rfl, by decide +kernel, rfl, by decide +kernel, by decide +kernel⟩
theorem ok_L_cell_at {f : Addr} {fd : FuncData} (T : Txt K mg g) (F : Fun K "_law_cell_at" "_law_cell_at" s_L_cell_at f fd)  : FnOk P w K mg base (L2.CX P w) 1 f fd ["script", "k"] (sp_L_cell_at K g) := by
  refine F.okX sc_L_cell_at (fun vs H Q E h => len_L_cell_at K g vs H Q E h) (fun cdv A outer s H vs Q E hr h => ⟨t_L_cell_at K g E, ?_, pure_L_cell_at  vs H Q E h⟩)
  have hu := hu_of hr
  have tkE : Takes (cxOf (L2.CX P w) P w K mg base N_L_cell_at "_law_cell_at" (defScope s_L_cell_at) f cdv A outer s H E) (wE E) := takes_of rfl rfl rfl rfl
  exact (pss_cons (ps_if (pt_cmpR op_lt (pv 1) (pe_callB call_len_seq (by rfl) T.z_len PySem.boot_len (pa_cons (pv 0) pa_nil)) (nomark _)) (pss_one (ps_ret (pe_ix ix_list (pv 0) (pv 1) (fun _ _ => rfl)))) pss_nil)
    (pss_one (ps_ret pe_int)))
theorem sc_L_far : FnScope N_L_far ["cell", "size"] (defScope s_L_far) := ⟨rfl, rfl, rfl, by decide +kernel, rfl, by decide +kernel, by decide +kernel⟩
theorem ok_L_far {f : Addr} {fd : FuncData} (T : Txt K mg g) (F : Fun K "_law_far" "_law_far" s_L_far f fd)  : FnOk P w K mg base (L2.CX P w) 1 f fd ["cell", "size"] (sp_L_far K g) := by
  refine F.okX sc_L_far (fun vs H Q E h => len_L_far K g vs H Q E h) (fun cdv A outer s H vs Q E hr h => ⟨t_L_far K g E, ?_, pure_L_far  vs H Q E h⟩)
  have hu := hu_of hr
  have tkE : Takes (cxOf (L2.CX P w) P w K mg base N_L_far "_law_far" (defScope s_L_far) f cdv A outer s H E) (wE E) := takes_of rfl rfl rfl rfl
  exact (pss_cons (ps_set (i := 2) sc_L_far.nd rfl (Or.inl rfl) (pe_listRg rfl (by rfl) T.z_list (prg_1 (by rfl) T.z_range (pv 1))))
    (pss_cons (ps_set (i := 3) sc_L_far.nd rfl (Or.inl rfl) (pe_lst pa_nil))
    (pss_cons (ps_for (passes_of rfl) rfl (pi_range1 (by rfl) T.z_range (pa_cons (pv 1) pa_nil)) (pg_name (i := 4) sc_L_far.nd rfl (Or.inl rfl)) (pss_cons (ps_set (i := 0) sc_L_far.nd rfl (Or.inl rfl) (pe_op op_modN (pe_op op_add (pe_op op_mul (pv 0) pe_int) pe_int) pe_int))
    (pss_one (ps_expr (pe_bm PySem.F.plainAttrs_list PySem.F.slot_list_append PySem.F.type_list_append mt_append (pv 3) (pa_cons (pe_bm PySem.F.plainAttrs_list PySem.F.slot_list_pop PySem.F.type_list_pop mt_popAt (pv 2) (pa_cons (pe_op op_modN (pv 0) (pe_op op_sub (pv 1) (pv 4))) pa_nil)) pa_nil))))))
    (pss_one (ps_ret (pe_callTy call_tuple_of (by rfl) T.z_tuple (by decide +kernel) (pa_cons (pv 3) pa_nil)))))))
theorem sc_L_whole : FnScope N_L_whole ["found"] (defScope s_L_whole) := ⟨rfl, rfl, rfl, by decide +kernel, rfl, by decide +kernel, by decide +kernel⟩
theorem ok_L_whole {f : Addr} {fd : FuncData} (T : Txt K mg g) (F : Fun K "_law_whole" "_law_whole" s_L_whole f fd)  : FnOk P w K mg base (L2.CX P w) 1 f fd ["found"] (sp_L_whole K g) := by
  refine F.okX sc_L_whole (fun vs H Q E h => len_L_whole K g vs H Q E h) (fun cdv A outer s H vs Q E hr h => ⟨t_L_whole K g E, ?_, pure_L_whole  vs H Q E h⟩)
  have hu := hu_of hr
  have tkE : Takes (cxOf (L2.CX P w) P w K mg base N_L_whole "_law_whole" (defScope s_L_whole) f cdv A outer s H E) (wE E) := takes_of rfl rfl rfl rfl
  exact (pss_one (ps_ret (pe_and (pe_callB call_isi (by rfl) T.z_isinstance (by decide +kernel) (pa_cons (pv 0) (pa_cons (pe_bltn (by rfl) T.z_int (by decide +kernel) rfl) pa_nil))) (pe_one (pe_not (pe_callB call_isi (by rfl) T.z_isinstance (by decide +kernel) (pa_cons (pv 0) (pa_cons (pe_bltn (by rfl) T.z_bool (by decide +kernel) rfl) pa_nil))))))))
theorem sc_L_same : FnScope N_L_same ["found", "due"] (defScope s_L_same) := ⟨rfl, rfl, rfl, by decide +kernel, rfl, by decide +kernel, by decide +kernel⟩
theorem ok_L_same {f : Addr} {fd : FuncData} (T : Txt K mg g) (F : Fun K "_law_same" "_law_same" s_L_same f fd) (c_L_whole : Cal P w K mg base 1 "_law_whole" ["found"] (sp_L_whole K g)) : FnOk P w K mg base (L2.CX P w) 2 f fd ["found", "due"] (sp_L_same K g) := by
  refine F.okX sc_L_same (fun vs H Q E h => len_L_same K g vs H Q E h) (fun cdv A outer s H vs Q E hr h => ⟨t_L_same K g E, ?_, pure_L_same  vs H Q E h⟩)
  have hu := hu_of hr
  have tkE : Takes (cxOf (L2.CX P w) P w K mg base N_L_same "_law_same" (defScope s_L_same) f cdv A outer s H E) (wE E) := takes_of rfl rfl rfl rfl
  exact (pss_cons (ps_if (PW.pt (pw_or (pt_not (pt_val (pe_callB call_isi (by rfl) T.z_isinstance (by decide +kernel) (pa_cons (pv 0) (pa_cons (pe_bltn (by rfl) T.z_tuple (by decide +kernel) rfl) pa_nil))))) (pw_or1 (pt_cmpR op_ne (pe_callB call_len_seq (by rfl) T.z_len PySem.boot_len (pa_cons (pv 0) pa_nil)) (pe_callB call_len_seq (by rfl) T.z_len PySem.boot_len (pa_cons (pv 1) pa_nil)) (nomark _))))) (pss_one (ps_ret pe_bl)) pss_nil)
    (pss_cons (ps_for (passes_of rfl) rfl (pi_tup (pv 0)) (pg_name (i := 2) sc_L_same.nd rfl (Or.inl rfl)) (pss_one (ps_if (pt_not (pt_val (pe_cal c_L_whole (hr.mono (by decide)) rfl (fun σ => passE0 σ) (pa_cons (pv 2) pa_nil)))) (pss_one (ps_ret pe_bl)) pss_nil)))
    (pss_one (ps_ret (pe_cmpR (op_eqD hr.units) (pv 0) (pv 1) (nomark _))))))
theorem sc_L_seating : FnScope N_L_seating ["cell", "size"] (defScope s_L_seating) := ⟨rfl, rfl, rfl, by decide +kernel, rfl, by decide +kernel, by decide +kernel⟩
theorem ok_L_seating {f : Addr} {fd : FuncData} (T : Txt K mg g) (F : Fun K "_law_seating" "_law_seating" s_L_seating f fd)  : FnOk P w K mg base (L2.CX P w) 1 f fd ["cell", "size"] (sp_L_seating K g) := by
  refine F.okX sc_L_seating (fun vs H Q E h => len_L_seating K g vs H Q E h) (fun cdv A outer s H vs Q E hr h => ⟨t_L_seating K g E, ?_, pure_L_seating  vs H Q E h⟩)
  have hu := hu_of hr
  have tkE : Takes (cxOf (L2.CX P w) P w K mg base N_L_seating "_law_seating" (defScope s_L_seating) f cdv A outer s H E) (wE E) := takes_of rfl rfl rfl rfl
  exact (pss_cons (ps_set (i := 2) sc_L_seating.nd rfl (Or.inl rfl) (pe_listRg rfl (by rfl) T.z_list (prg_1 (by rfl) T.z_range (pv 1))))
    (pss_cons (ps_set (i := 3) sc_L_seating.nd rfl (Or.inl rfl) (pe_lst pa_nil))
    (pss_cons (ps_for (passes_of rfl) rfl (pi_range1 (by rfl) T.z_range (pa_cons (pv 1) pa_nil)) (pg_name (i := 4) sc_L_seating.nd rfl (Or.inl rfl)) (pss_cons (ps_expr (pe_bm PySem.F.plainAttrs_list PySem.F.slot_list_append PySem.F.type_list_append mt_append (pv 3) (pa_cons (pe_bm PySem.F.plainAttrs_list PySem.F.slot_list_pop PySem.F.type_list_pop mt_popAt (pv 2) (pa_cons (pe_op op_modN (pv 0) (pe_op op_sub (pv 1) (pv 4))) pa_nil)) pa_nil)))
    (pss_one (ps_set (i := 0) sc_L_seating.nd rfl (Or.inl rfl) (pe_op op_fdivN (pv 0) (pe_op op_sub (pv 1) (pv 4)))))))
    (pss_one (ps_ret (pe_callTy call_tuple_of (by rfl) T.z_tuple (by decide +kernel) (pa_cons (pv 3) pa_nil)))))))
theorem sc_L_turned : FnScope N_L_turned ["a"] (defScope s_L_turned) := ⟨rfl, rfl, rfl, by decide +kernel, rfl, by decide +kernel, by decide +kernel⟩
theorem ok_L_turned {f : Addr} {fd : FuncData} (T : Txt K mg g) (F : Fun K "_law_turned" "_law_turned" s_L_turned f fd)  : FnOk P w K mg base (L2.CX P w) 1 f fd ["a"] (sp_L_turned K g) := by
  refine F.okX sc_L_turned (fun vs H Q E h => len_L_turned K g vs H Q E h) (fun cdv A outer s H vs Q E hr h => ⟨t_L_turned K g E, ?_, pure_L_turned  vs H Q E h⟩)
  have hu := hu_of hr
  have tkE : Takes (cxOf (L2.CX P w) P w K mg base N_L_turned "_law_turned" (defScope s_L_turned) f cdv A outer s H E) (wE E) := takes_of rfl rfl rfl rfl
  exact (pss_cons (ps_set (i := 1) sc_L_turned.nd rfl (Or.inl rfl) (pe_op op_rep (pe_lst (pa_cons pe_int pa_nil)) (pe_callB call_len_seq (by rfl) T.z_len PySem.boot_len (pa_cons (pv 0) pa_nil))))
    (pss_cons (ps_for (passes_of rfl) rfl (pi_range1 (by rfl) T.z_range (pa_cons (pe_callB call_len_seq (by rfl) T.z_len PySem.boot_len (pa_cons (pv 0) pa_nil)) pa_nil)) (pg_name (i := 2) sc_L_turned.nd rfl (Or.inl rfl)) (pss_one (ps_asg (pv 2) (pg_sub (pv 1) (pe_ix ix_tup (pv 0) (pv 2) (fun _ _ => rfl)) set_list))))
    (pss_one (ps_ret (pe_callTy call_tuple_of (by rfl) T.z_tuple (by decide +kernel) (pa_cons (pv 1) pa_nil))))))
theorem sc_is_seating : FnScope N_is_seating ["row"] (defScope s_is_seating) := ⟨rfl, rfl, rfl, by decide +kernel, rfl, by decide +kernel, by decide +kernel⟩
theorem ok_is_seating {f : Addr} {fd : FuncData} (T : Txt K mg g) (F : Fun K "is_seating" "is_seating" s_is_seating f fd)  : FnOk P w K mg base (L2.CX P w) 1 f fd ["row"] (sp_is_seating K g) := by
  refine F.okX sc_is_seating (fun vs H Q E h => len_is_seating K g vs H Q E h) (fun cdv A outer s H vs Q E hr h => ⟨t_is_seating K g E, ?_, pure_is_seating  vs H Q E h⟩)
  have hu := hu_of hr
  have tkE : Takes (cxOf (L2.CX P w) P w K mg base N_is_seating "is_seating" (defScope s_is_seating) f cdv A outer s H E) (wE E) := takes_of rfl rfl rfl rfl
  exact (pss_cons (ps_if (PW.pt (pw_or (pt_cmpR op_lt (pe_callB call_len_seq (by rfl) T.z_len PySem.boot_len (pa_cons (pv 0) pa_nil)) pe_int (nomark _)) (pw_or1 (pt_cmpR op_gt (pe_callB call_len_seq (by rfl) T.z_len PySem.boot_len (pa_cons (pv 0) pa_nil)) (pe_globI T.c_MOST) (nomark _))))) (pss_one (ps_ret pe_bl)) pss_nil)
    (pss_cons (ps_for (passes_of rfl) rfl (pi_range1 (by rfl) T.z_range (pa_cons (pe_callB call_len_seq (by rfl) T.z_len PySem.boot_len (pa_cons (pv 0) pa_nil)) pa_nil)) (pg_name (i := 1) sc_is_seating.nd rfl (Or.inl rfl)) (pss_one (ps_if (pt_cmpR op_notIn_seq (pv 1) (pv 0) (by rfl)) (pss_one (ps_ret pe_bl)) pss_nil)))
    (pss_one (ps_ret pe_bl))))
theorem sc_ask_seating : FnScope N_ask_seating ["a"] (defScope s_ask_seating) := ⟨rfl, rfl, rfl, by decide +kernel, rfl, by decide +kernel, by decide +kernel⟩
theorem ok_ask_seating {f : Addr} {fd : FuncData} (T : Txt K mg g) (F : Fun K "ask_seating" "ask_seating" s_ask_seating f fd) (c_is_seating : Cal P w K mg base 1 "is_seating" ["row"] (sp_is_seating K g)) : FnOk P w K mg base (L2.CX P w) 2 f fd ["a"] (sp_ask_seating K g) := by
  refine F.okX sc_ask_seating (fun vs H Q E h => len_ask_seating K g vs H Q E h) (fun cdv A outer s H vs Q E hr h => ⟨t_ask_seating K g E, ?_, pure_ask_seating  vs H Q E h⟩)
  have hu := hu_of hr
  have tkE : Takes (cxOf (L2.CX P w) P w K mg base N_ask_seating "ask_seating" (defScope s_ask_seating) f cdv A outer s H E) (wE E) := takes_of rfl rfl rfl rfl
  exact (pss_one (ps_if (pt_not (pt_val (pe_cal c_is_seating (hr.mono (by decide)) rfl (fun σ => passE0 σ) (pa_cons (pv 0) pa_nil)))) (pss_one (ps_raise rfl tkE (pmk_own PySem.F.excBase_ValueError T.x_NoSeating.ex T.x_NoSeating.gC T.x_NoSeating.kC (raises_own T.x_NoSeating.bC T.x_NoSeating.tC) rfl))) pss_nil))
theorem sc_turned : FnScope N_turned ["a"] (defScope s_turned) := ⟨rfl, rfl, rfl, by decide +kernel, rfl, by decide +kernel, by decide +kernel⟩
theorem ok_turned {f : Addr} {fd : FuncData} (T : Txt K mg g) (F : Fun K "turned" "turned" s_turned f fd)  : FnOk P w K mg base (L2.CX P w) 1 f fd ["a"] (sp_turned K g) := by
  refine F.okX sc_turned (fun vs H Q E h => len_turned K g vs H Q E h) (fun cdv A outer s H vs Q E hr h => ⟨t_turned K g E, ?_, pure_turned  vs H Q E h⟩)
  have hu := hu_of hr
  have tkE : Takes (cxOf (L2.CX P w) P w K mg base N_turned "turned" (defScope s_turned) f cdv A outer s H E) (wE E) := takes_of rfl rfl rfl rfl
  exact (pss_cons (ps_set (i := 1) sc_turned.nd rfl (Or.inl rfl) (pe_op op_rep (pe_lst (pa_cons pe_int pa_nil)) (pe_callB call_len_seq (by rfl) T.z_len PySem.boot_len (pa_cons (pv 0) pa_nil))))
    (pss_cons (ps_for (passes_of rfl) rfl (pi_range1 (by rfl) T.z_range (pa_cons (pe_callB call_len_seq (by rfl) T.z_len PySem.boot_len (pa_cons (pv 0) pa_nil)) pa_nil)) (pg_name (i := 2) sc_turned.nd rfl (Or.inl rfl)) (pss_one (ps_asg (pv 2) (pg_sub (pv 1) (pe_ix ix_tup (pv 0) (pv 2) (fun _ _ => rfl)) set_list))))
    (pss_one (ps_ret (pe_callTy call_tuple_of (by rfl) T.z_tuple (by decide +kernel) (pa_cons (pv 1) pa_nil))))))
theorem sc_back : FnScope N_back ["a"] (defScope s_back) := ⟨rfl, rfl, rfl, by decide +kernel, rfl, by decide +kernel, by decide +kernel⟩
theorem ok_back {f : Addr} {fd : FuncData} (T : Txt K mg g) (F : Fun K "back" "back" s_back f fd) (c_ask_seating : Cal P w K mg base 2 "ask_seating" ["a"] (sp_ask_seating K g)) (c_turned : Cal P w K mg base 1 "turned" ["a"] (sp_turned K g)) : FnOk P w K mg base (L2.CX P w) 3 f fd ["a"] (sp_back K g) := by
  refine F.okX sc_back (fun vs H Q E h => len_back K g vs H Q E h) (fun cdv A outer s H vs Q E hr h => ⟨t_back K g E, ?_, pure_back  vs H Q E h⟩)
  have hu := hu_of hr
  have tkE : Takes (cxOf (L2.CX P w) P w K mg base N_back "back" (defScope s_back) f cdv A outer s H E) (wE E) := takes_of rfl rfl rfl rfl
  exact (pss_cons (ps_expr (pe_cal c_ask_seating (hr.mono (by decide)) rfl (fun σ => passAt tkE σ) (pa_cons (pv 0) pa_nil)))
    (pss_one (ps_ret (pe_cal c_turned (hr.mono (by decide)) rfl (fun σ => passE0 σ) (pa_cons (pv 0) pa_nil)))))
theorem sc_ask_size : FnScope N_ask_size ["size"] (defScope s_ask_size) := ⟨rfl, rfl, rfl, by decide +kernel, rfl, by decide +kernel, by decide +kernel⟩
theorem ok_ask_size {f : Addr} {fd : FuncData} (T : Txt K mg g) (F : Fun K "ask_size" "ask_size" s_ask_size f fd)  : FnOk P w K mg base (L2.CX P w) 1 f fd ["size"] (sp_ask_size K g) := by
  refine F.okX sc_ask_size (fun vs H Q E h => len_ask_size K g vs H Q E h) (fun cdv A outer s H vs Q E hr h => ⟨t_ask_size K g E, ?_, pure_ask_size  vs H Q E h⟩)
  have hu := hu_of hr
  have tkE : Takes (cxOf (L2.CX P w) P w K mg base N_ask_size "ask_size" (defScope s_ask_size) f cdv A outer s H E) (wE E) := takes_of rfl rfl rfl rfl
  exact (pss_one (ps_if (PW.pt (pw_or (pt_cmpR op_lt (pv 0) pe_int (nomark _)) (pw_or1 (pt_cmpR op_gt (pv 0) (pe_globI T.c_MOST) (nomark _))))) (pss_one (ps_raise rfl tkE (pmk_own PySem.F.excBase_ValueError T.x_NoSize.ex T.x_NoSize.gC T.x_NoSize.kC (raises_own T.x_NoSize.bC T.x_NoSize.tC) rfl))) pss_nil))
theorem sc_rest : FnScope N_rest ["size"] (defScope s_rest) := ⟨rfl, rfl, rfl, by decide +kernel, rfl, by decide +kernel, by decide +kernel⟩
theorem ok_rest {f : Addr} {fd : FuncData} (T : Txt K mg g) (F : Fun K "rest" "rest" s_rest f fd) (c_ask_size : Cal P w K mg base 1 "ask_size" ["size"] (sp_ask_size K g)) : FnOk P w K mg base (L2.CX P w) 2 f fd ["size"] (sp_rest K g) := by
  refine F.okX sc_rest (fun vs H Q E h => len_rest K g vs H Q E h) (fun cdv A outer s H vs Q E hr h => ⟨t_rest K g E, ?_, pure_rest  vs H Q E h⟩)
  have hu := hu_of hr
  have tkE : Takes (cxOf (L2.CX P w) P w K mg base N_rest "rest" (defScope s_rest) f cdv A outer s H E) (wE E) := takes_of rfl rfl rfl rfl
  exact (pss_cons (ps_expr (pe_cal c_ask_size (hr.mono (by decide)) rfl (fun σ => passAt tkE σ) (pa_cons (pv 0) pa_nil)))
    (pss_one (ps_ret (pe_tupRg rfl (by rfl) T.z_tuple (prg_1 (by rfl) T.z_range (pv 0))))))
theorem sc_law_k02 : FnScope N_law_k02 ["script"] (defScope s_law_k02) := ⟨rfl, rfl, rfl, by decide +kernel, rfl, by decide +kernel, by decide +kernel⟩
theorem ok_law_k02 {f : Addr} {fd : FuncData} (T : Txt K mg g) (F : Fun K "law" "law" s_law_k02 f fd) (c_L_cell_at : Cal P w K mg base 1 "_law_cell_at" ["script", "k"] (sp_L_cell_at K g)) (c_L_far : Cal P w K mg base 1 "_law_far" ["cell", "size"] (sp_L_far K g)) (c_L_same : Cal P w K mg base 2 "_law_same" ["found", "due"] (sp_L_same K g)) (c_L_seating : Cal P w K mg base 1 "_law_seating" ["cell", "size"] (sp_L_seating K g)) (c_L_turned : Cal P w K mg base 1 "_law_turned" ["a"] (sp_L_turned K g)) (c_back : Cal P w K mg base 3 "back" ["a"] (sp_back K g)) (c_rest : Cal P w K mg base 2 "rest" ["size"] (sp_rest K g)) : FnOk P w K mg base (L2.CX P w) 4 f fd ["script"] (sp_law K) := by
  refine F.okX sc_law_k02 (fun vs H Q E h => len_law K g vs H Q E h) (fun cdv A outer s H vs Q E hr h => ⟨t_law_k02 K g E, ?_, pure_law_k02  vs H Q E h⟩)
  have hu := hu_of hr
  have tkE : Takes (cxOf (L2.CX P w) P w K mg base N_law_k02 "law" (defScope s_law_k02) f cdv A outer s H E) (wE E) := takes_of rfl rfl rfl rfl
  exact (pss_cons (ps_set (i := 1) sc_law_k02.nd rfl (Or.inl rfl) (pe_op op_add pe_int (pe_op op_modN (pe_cal c_L_cell_at (hr.mono (by decide)) rfl (fun σ => passE0 σ) (pa_cons (pv 0) (pa_cons pe_int pa_nil))) pe_int)))
    (pss_cons (ps_set (i := 2) sc_law_k02.nd rfl (Or.inl rfl) (pe_cal c_L_seating (hr.mono (by decide)) rfl (fun σ => passE0 σ) (pa_cons (pe_cal c_L_cell_at (hr.mono (by decide)) rfl (fun σ => passE0 σ) (pa_cons (pv 0) (pa_cons pe_int pa_nil))) (pa_cons (pv 1) pa_nil))))
    (pss_cons (ps_if (pt_cmpR op_gt (pv 1) pe_int (nomark _)) (pss_one (ps_set (i := 2) sc_law_k02.nd rfl (Or.inl rfl) (pe_cal c_L_far (hr.mono (by decide)) rfl (fun σ => passE0 σ) (pa_cons (pe_cal c_L_cell_at (hr.mono (by decide)) rfl (fun σ => passE0 σ) (pa_cons (pv 0) (pa_cons pe_int pa_nil))) (pa_cons (pv 1) pa_nil))))) pss_nil)
    (pss_cons (ps_if (pt_not (pt_val (pe_cal c_L_same (hr.mono (by decide)) rfl (fun σ => passE0 σ) (pa_cons (pe_cal c_rest (hr.mono (by decide)) rfl (fun σ => passAt tkE σ) (pa_cons (pv 1) pa_nil)) (pa_cons (pe_tupRg rfl (by rfl) T.z_tuple (prg_1 (by rfl) T.z_range (pv 1))) pa_nil))))) (pss_one (ps_ret pe_bl)) pss_nil)
    (pss_cons (ps_set (i := 3) sc_law_k02.nd rfl (Or.inl rfl) (pe_cal c_back (hr.mono (by decide)) rfl (fun σ => passAt tkE σ) (pa_cons (pv 2) pa_nil)))
    (pss_cons (ps_if (pt_not (pt_val (pe_cal c_L_same (hr.mono (by decide)) rfl (fun σ => passE0 σ) (pa_cons (pv 3) (pa_cons (pe_cal c_L_turned (hr.mono (by decide)) rfl (fun σ => passE0 σ) (pa_cons (pv 2) pa_nil)) pa_nil))))) (pss_one (ps_ret pe_bl)) pss_nil)
    (pss_one (ps_ret (pe_cal c_L_same (hr.mono (by decide)) rfl (fun σ => passE0 σ) (pa_cons (pe_cal c_back (hr.mono (by decide)) rfl (fun σ => passAt tkE σ) (pa_cons (pv 3) pa_nil)) (pa_cons (pv 2) pa_nil)))))))))))
end
theorem all_mk {l : PySem.W.OpenLaw} {w : World} {K : PySem.W.Frag} {h : Heap} {mg : Str → Option Value} {fa : Addr} {D_NoSeating : Addr} {D_NoSize : Addr} (X : K.In h) (G : h.Ns mainGlobals mg) (hfa : mg "law" = some (.ref fa))
    {tk_MOST : Tok}
    {f_L_cell_at : Addr} {od_L_cell_at an_L_cell_at : Option Addr} {sl_L_cell_at : Array (Option Value)} {oc_L_cell_at kV_L_cell_at dc_L_cell_at pm_L_cell_at cd_L_cell_at ct_L_cell_at : Value}
    {f_L_far : Addr} {od_L_far an_L_far : Option Addr} {sl_L_far : Array (Option Value)} {oc_L_far kV_L_far dc_L_far pm_L_far cd_L_far ct_L_far : Value}
    {f_L_whole : Addr} {od_L_whole an_L_whole : Option Addr} {sl_L_whole : Array (Option Value)} {oc_L_whole kV_L_whole dc_L_whole pm_L_whole cd_L_whole ct_L_whole : Value}
    {f_L_same : Addr} {od_L_same an_L_same : Option Addr} {sl_L_same : Array (Option Value)} {oc_L_same kV_L_same dc_L_same pm_L_same cd_L_same ct_L_same : Value}
    {f_L_seating : Addr} {od_L_seating an_L_seating : Option Addr} {sl_L_seating : Array (Option Value)} {oc_L_seating kV_L_seating dc_L_seating pm_L_seating cd_L_seating ct_L_seating : Value}
    {f_L_turned : Addr} {od_L_turned an_L_turned : Option Addr} {sl_L_turned : Array (Option Value)} {oc_L_turned kV_L_turned dc_L_turned pm_L_turned cd_L_turned ct_L_turned : Value}
    {f_is_seating : Addr} {od_is_seating an_is_seating : Option Addr} {sl_is_seating : Array (Option Value)} {oc_is_seating kV_is_seating dc_is_seating pm_is_seating cd_is_seating ct_is_seating : Value}
    {f_ask_seating : Addr} {od_ask_seating an_ask_seating : Option Addr} {sl_ask_seating : Array (Option Value)} {oc_ask_seating kV_ask_seating dc_ask_seating pm_ask_seating cd_ask_seating ct_ask_seating : Value}
    {f_turned : Addr} {od_turned an_turned : Option Addr} {sl_turned : Array (Option Value)} {oc_turned kV_turned dc_turned pm_turned cd_turned ct_turned : Value}
    {f_back : Addr} {od_back an_back : Option Addr} {sl_back : Array (Option Value)} {oc_back kV_back dc_back pm_back cd_back ct_back : Value}
    {f_ask_size : Addr} {od_ask_size an_ask_size : Option Addr} {sl_ask_size : Array (Option Value)} {oc_ask_size kV_ask_size dc_ask_size pm_ask_size cd_ask_size ct_ask_size : Value}
    {f_rest : Addr} {od_rest an_rest : Option Addr} {sl_rest : Array (Option Value)} {oc_rest kV_rest dc_rest pm_rest cd_rest ct_rest : Value}
    {f_law_k02 : Addr} {od_law_k02 an_law_k02 : Option Addr} {sl_law_k02 : Array (Option Value)} {oc_law_k02 kV_law_k02 dc_law_k02 pm_law_k02 cd_law_k02 ct_law_k02 : Value}
    (z_bool : PySem.W.nsIn K mainGlobals "bool" = some none)
    (z_int : PySem.W.nsIn K mainGlobals "int" = some none)
    (z_isinstance : PySem.W.nsIn K mainGlobals "isinstance" = some none)
    (z_len : PySem.W.nsIn K mainGlobals "len" = some none)
    (z_list : PySem.W.nsIn K mainGlobals "list" = some none)
    (z_range : PySem.W.nsIn K mainGlobals "range" = some none)
    (z_tuple : PySem.W.nsIn K mainGlobals "tuple" = some none)
    (c_MOST : PySem.W.nsIn K mainGlobals "MOST" = some (some (.int 16 tk_MOST)))
    (ga_NoSeating : PySem.W.nsIn K mainGlobals "NoSeating" = some (some (.ref D_NoSeating)))
    (xe_NoSeating : PySem.W.excIn K D_NoSeating [.type "ValueError", .type "Exception", .type "BaseException", .type "object"] "ValueError.__new__" = true)
    (xk_NoSeating : PySem.W.keepIn K (.ref D_NoSeating) = true)
    (xb_NoSeating : PySem.W.subIn K (.ref D_NoSeating) (.type "BaseException") = some true)
    (xt_NoSeating : PySem.W.typeIn K (.ref D_NoSeating) = some (.type "type"))
    (ga_NoSize : PySem.W.nsIn K mainGlobals "NoSize" = some (some (.ref D_NoSize)))
    (xe_NoSize : PySem.W.excIn K D_NoSize [.type "ValueError", .type "Exception", .type "BaseException", .type "object"] "ValueError.__new__" = true)
    (xk_NoSize : PySem.W.keepIn K (.ref D_NoSize) = true)
    (xb_NoSize : PySem.W.subIn K (.ref D_NoSize) (.type "BaseException") = some true)
    (xt_NoSize : PySem.W.typeIn K (.ref D_NoSize) = some (.type "type"))
    (a_L_cell_at : PySem.W.nsIn K mainGlobals "_law_cell_at" = some (some (.ref f_L_cell_at)))
    (l_L_cell_at : K.lookup f_L_cell_at = some ⟨oc_L_cell_at, od_L_cell_at, .func (PySem.W.fnOf "_law_cell_at" "_law_cell_at" (defArgs s_L_cell_at) (defBody s_L_cell_at) (defScope s_L_cell_at) .none kV_L_cell_at dc_L_cell_at pm_L_cell_at an_L_cell_at cd_L_cell_at ct_L_cell_at), sl_L_cell_at⟩)
    (co_L_cell_at : PySem.W.codeIn K cd_L_cell_at "_law_cell_at" = true)
    (ke_L_cell_at : PySem.W.keepIn K (.ref f_L_cell_at) = true)
    (a_L_far : PySem.W.nsIn K mainGlobals "_law_far" = some (some (.ref f_L_far)))
    (l_L_far : K.lookup f_L_far = some ⟨oc_L_far, od_L_far, .func (PySem.W.fnOf "_law_far" "_law_far" (defArgs s_L_far) (defBody s_L_far) (defScope s_L_far) .none kV_L_far dc_L_far pm_L_far an_L_far cd_L_far ct_L_far), sl_L_far⟩)
    (co_L_far : PySem.W.codeIn K cd_L_far "_law_far" = true)
    (ke_L_far : PySem.W.keepIn K (.ref f_L_far) = true)
    (a_L_whole : PySem.W.nsIn K mainGlobals "_law_whole" = some (some (.ref f_L_whole)))
    (l_L_whole : K.lookup f_L_whole = some ⟨oc_L_whole, od_L_whole, .func (PySem.W.fnOf "_law_whole" "_law_whole" (defArgs s_L_whole) (defBody s_L_whole) (defScope s_L_whole) .none kV_L_whole dc_L_whole pm_L_whole an_L_whole cd_L_whole ct_L_whole), sl_L_whole⟩)
    (co_L_whole : PySem.W.codeIn K cd_L_whole "_law_whole" = true)
    (ke_L_whole : PySem.W.keepIn K (.ref f_L_whole) = true)
    (a_L_same : PySem.W.nsIn K mainGlobals "_law_same" = some (some (.ref f_L_same)))
    (l_L_same : K.lookup f_L_same = some ⟨oc_L_same, od_L_same, .func (PySem.W.fnOf "_law_same" "_law_same" (defArgs s_L_same) (defBody s_L_same) (defScope s_L_same) .none kV_L_same dc_L_same pm_L_same an_L_same cd_L_same ct_L_same), sl_L_same⟩)
    (co_L_same : PySem.W.codeIn K cd_L_same "_law_same" = true)
    (ke_L_same : PySem.W.keepIn K (.ref f_L_same) = true)
    (a_L_seating : PySem.W.nsIn K mainGlobals "_law_seating" = some (some (.ref f_L_seating)))
    (l_L_seating : K.lookup f_L_seating = some ⟨oc_L_seating, od_L_seating, .func (PySem.W.fnOf "_law_seating" "_law_seating" (defArgs s_L_seating) (defBody s_L_seating) (defScope s_L_seating) .none kV_L_seating dc_L_seating pm_L_seating an_L_seating cd_L_seating ct_L_seating), sl_L_seating⟩)
    (co_L_seating : PySem.W.codeIn K cd_L_seating "_law_seating" = true)
    (ke_L_seating : PySem.W.keepIn K (.ref f_L_seating) = true)
    (a_L_turned : PySem.W.nsIn K mainGlobals "_law_turned" = some (some (.ref f_L_turned)))
    (l_L_turned : K.lookup f_L_turned = some ⟨oc_L_turned, od_L_turned, .func (PySem.W.fnOf "_law_turned" "_law_turned" (defArgs s_L_turned) (defBody s_L_turned) (defScope s_L_turned) .none kV_L_turned dc_L_turned pm_L_turned an_L_turned cd_L_turned ct_L_turned), sl_L_turned⟩)
    (co_L_turned : PySem.W.codeIn K cd_L_turned "_law_turned" = true)
    (ke_L_turned : PySem.W.keepIn K (.ref f_L_turned) = true)
    (a_is_seating : PySem.W.nsIn K mainGlobals "is_seating" = some (some (.ref f_is_seating)))
    (l_is_seating : K.lookup f_is_seating = some ⟨oc_is_seating, od_is_seating, .func (PySem.W.fnOf "is_seating" "is_seating" (defArgs s_is_seating) (defBody s_is_seating) (defScope s_is_seating) .none kV_is_seating dc_is_seating pm_is_seating an_is_seating cd_is_seating ct_is_seating), sl_is_seating⟩)
    (co_is_seating : PySem.W.codeIn K cd_is_seating "is_seating" = true)
    (ke_is_seating : PySem.W.keepIn K (.ref f_is_seating) = true)
    (a_ask_seating : PySem.W.nsIn K mainGlobals "ask_seating" = some (some (.ref f_ask_seating)))
    (l_ask_seating : K.lookup f_ask_seating = some ⟨oc_ask_seating, od_ask_seating, .func (PySem.W.fnOf "ask_seating" "ask_seating" (defArgs s_ask_seating) (defBody s_ask_seating) (defScope s_ask_seating) .none kV_ask_seating dc_ask_seating pm_ask_seating an_ask_seating cd_ask_seating ct_ask_seating), sl_ask_seating⟩)
    (co_ask_seating : PySem.W.codeIn K cd_ask_seating "ask_seating" = true)
    (ke_ask_seating : PySem.W.keepIn K (.ref f_ask_seating) = true)
    (a_turned : PySem.W.nsIn K mainGlobals "turned" = some (some (.ref f_turned)))
    (l_turned : K.lookup f_turned = some ⟨oc_turned, od_turned, .func (PySem.W.fnOf "turned" "turned" (defArgs s_turned) (defBody s_turned) (defScope s_turned) .none kV_turned dc_turned pm_turned an_turned cd_turned ct_turned), sl_turned⟩)
    (co_turned : PySem.W.codeIn K cd_turned "turned" = true)
    (ke_turned : PySem.W.keepIn K (.ref f_turned) = true)
    (a_back : PySem.W.nsIn K mainGlobals "back" = some (some (.ref f_back)))
    (l_back : K.lookup f_back = some ⟨oc_back, od_back, .func (PySem.W.fnOf "back" "back" (defArgs s_back) (defBody s_back) (defScope s_back) .none kV_back dc_back pm_back an_back cd_back ct_back), sl_back⟩)
    (co_back : PySem.W.codeIn K cd_back "back" = true)
    (ke_back : PySem.W.keepIn K (.ref f_back) = true)
    (a_ask_size : PySem.W.nsIn K mainGlobals "ask_size" = some (some (.ref f_ask_size)))
    (l_ask_size : K.lookup f_ask_size = some ⟨oc_ask_size, od_ask_size, .func (PySem.W.fnOf "ask_size" "ask_size" (defArgs s_ask_size) (defBody s_ask_size) (defScope s_ask_size) .none kV_ask_size dc_ask_size pm_ask_size an_ask_size cd_ask_size ct_ask_size), sl_ask_size⟩)
    (co_ask_size : PySem.W.codeIn K cd_ask_size "ask_size" = true)
    (ke_ask_size : PySem.W.keepIn K (.ref f_ask_size) = true)
    (a_rest : PySem.W.nsIn K mainGlobals "rest" = some (some (.ref f_rest)))
    (l_rest : K.lookup f_rest = some ⟨oc_rest, od_rest, .func (PySem.W.fnOf "rest" "rest" (defArgs s_rest) (defBody s_rest) (defScope s_rest) .none kV_rest dc_rest pm_rest an_rest cd_rest ct_rest), sl_rest⟩)
    (co_rest : PySem.W.codeIn K cd_rest "rest" = true)
    (ke_rest : PySem.W.keepIn K (.ref f_rest) = true)
    (a_law_k02 : PySem.W.nsIn K mainGlobals "law" = some (some (.ref f_law_k02)))
    (l_law_k02 : K.lookup f_law_k02 = some ⟨oc_law_k02, od_law_k02, .func (PySem.W.fnOf "law" "law" (defArgs s_law_k02) (defBody s_law_k02) (defScope s_law_k02) .none kV_law_k02 dc_law_k02 pm_law_k02 an_law_k02 cd_law_k02 ct_law_k02), sl_law_k02⟩)
    (co_law_k02 : PySem.W.codeIn K cd_law_k02 "law" = true)
    (ke_law_k02 : PySem.W.keepIn K (.ref f_law_k02) = true) :
    ∃ fd : FuncData, (∀ (s : Shared) (v : Value), BindsTo s fd ⟨[v], []⟩ [("script", v)]) ∧ ∀ base : Heap, K.In base → base.Ns mainGlobals mg → FnOk l.prog w K mg base (L2.CX l.prog w) 4 fa fd ["script"] (sp_law K) := by
  have e := hfa.symm.trans (PySem.W.mg_of X G a_law_k02)
  cases e
  have T : Txt K mg { w := w, NoSeating := D_NoSeating, NoSize := D_NoSize } := {
    z_bool := PySem.W.mg_none_of X G z_bool
    z_int := PySem.W.mg_none_of X G z_int
    z_isinstance := PySem.W.mg_none_of X G z_isinstance
    z_len := PySem.W.mg_none_of X G z_len
    z_list := PySem.W.mg_none_of X G z_list
    z_range := PySem.W.mg_none_of X G z_range
    z_tuple := PySem.W.mg_none_of X G z_tuple
    c_MOST := ⟨_, PySem.W.mg_of X G c_MOST⟩
    g_NoSeating := PySem.W.mg_of X G ga_NoSeating
    g_NoSize := PySem.W.mg_of X G ga_NoSize
    x_NoSeating := ⟨PySem.W.mg_of X G ga_NoSeating, xe_NoSeating, xk_NoSeating, xb_NoSeating, xt_NoSeating⟩
    x_NoSize := ⟨PySem.W.mg_of X G ga_NoSize, xe_NoSize, xk_NoSize, xb_NoSize, xt_NoSize⟩
  }
  have F_L_cell_at := fun_mk (st := s_L_cell_at) l_L_cell_at co_L_cell_at ke_L_cell_at
  have b_L_cell_at := F_L_cell_at.binds (ps := ["script", "k"]) fun _ _ _ _ _ _ us hl => match us, hl with | [_, _], _ => rfl
  have F_L_far := fun_mk (st := s_L_far) l_L_far co_L_far ke_L_far
  have b_L_far := F_L_far.binds (ps := ["cell", "size"]) fun _ _ _ _ _ _ us hl => match us, hl with | [_, _], _ => rfl
  have F_L_whole := fun_mk (st := s_L_whole) l_L_whole co_L_whole ke_L_whole
  have b_L_whole := F_L_whole.binds (ps := ["found"]) fun _ _ _ _ _ _ us hl => match us, hl with | [_], _ => rfl
  have F_L_same := fun_mk (st := s_L_same) l_L_same co_L_same ke_L_same
  have b_L_same := F_L_same.binds (ps := ["found", "due"]) fun _ _ _ _ _ _ us hl => match us, hl with | [_, _], _ => rfl
  have F_L_seating := fun_mk (st := s_L_seating) l_L_seating co_L_seating ke_L_seating
  have b_L_seating := F_L_seating.binds (ps := ["cell", "size"]) fun _ _ _ _ _ _ us hl => match us, hl with | [_, _], _ => rfl
  have F_L_turned := fun_mk (st := s_L_turned) l_L_turned co_L_turned ke_L_turned
  have b_L_turned := F_L_turned.binds (ps := ["a"]) fun _ _ _ _ _ _ us hl => match us, hl with | [_], _ => rfl
  have F_is_seating := fun_mk (st := s_is_seating) l_is_seating co_is_seating ke_is_seating
  have b_is_seating := F_is_seating.binds (ps := ["row"]) fun _ _ _ _ _ _ us hl => match us, hl with | [_], _ => rfl
  have F_ask_seating := fun_mk (st := s_ask_seating) l_ask_seating co_ask_seating ke_ask_seating
  have b_ask_seating := F_ask_seating.binds (ps := ["a"]) fun _ _ _ _ _ _ us hl => match us, hl with | [_], _ => rfl
  have F_turned := fun_mk (st := s_turned) l_turned co_turned ke_turned
  have b_turned := F_turned.binds (ps := ["a"]) fun _ _ _ _ _ _ us hl => match us, hl with | [_], _ => rfl
  have F_back := fun_mk (st := s_back) l_back co_back ke_back
  have b_back := F_back.binds (ps := ["a"]) fun _ _ _ _ _ _ us hl => match us, hl with | [_], _ => rfl
  have F_ask_size := fun_mk (st := s_ask_size) l_ask_size co_ask_size ke_ask_size
  have b_ask_size := F_ask_size.binds (ps := ["size"]) fun _ _ _ _ _ _ us hl => match us, hl with | [_], _ => rfl
  have F_rest := fun_mk (st := s_rest) l_rest co_rest ke_rest
  have b_rest := F_rest.binds (ps := ["size"]) fun _ _ _ _ _ _ us hl => match us, hl with | [_], _ => rfl
  have F_law_k02 := fun_mk (st := s_law_k02) l_law_k02 co_law_k02 ke_law_k02
  refine ⟨PySem.W.fnOf "law" "law" (defArgs s_law_k02) (defBody s_law_k02) (defScope s_law_k02) .none kV_law_k02 dc_law_k02 pm_law_k02 an_law_k02 cd_law_k02 ct_law_k02, fun s v => .of_eq rfl, fun base _ _ => ?_⟩
  have c_L_cell_at : Cal l.prog w K mg base 1 "_law_cell_at" ["script", "k"] (sp_L_cell_at K _) := ⟨_, _, PySem.W.mg_of X G a_L_cell_at, ke_L_cell_at, b_L_cell_at, ok_L_cell_at (P := l.prog) (w := w) (base := base) T F_L_cell_at ⟩
  have c_L_far : Cal l.prog w K mg base 1 "_law_far" ["cell", "size"] (sp_L_far K _) := ⟨_, _, PySem.W.mg_of X G a_L_far, ke_L_far, b_L_far, ok_L_far (P := l.prog) (w := w) (base := base) T F_L_far ⟩
  have c_L_whole : Cal l.prog w K mg base 1 "_law_whole" ["found"] (sp_L_whole K _) := ⟨_, _, PySem.W.mg_of X G a_L_whole, ke_L_whole, b_L_whole, ok_L_whole (P := l.prog) (w := w) (base := base) T F_L_whole ⟩
  have c_L_same : Cal l.prog w K mg base 2 "_law_same" ["found", "due"] (sp_L_same K _) := ⟨_, _, PySem.W.mg_of X G a_L_same, ke_L_same, b_L_same, ok_L_same (P := l.prog) (w := w) (base := base) T F_L_same c_L_whole⟩
  have c_L_seating : Cal l.prog w K mg base 1 "_law_seating" ["cell", "size"] (sp_L_seating K _) := ⟨_, _, PySem.W.mg_of X G a_L_seating, ke_L_seating, b_L_seating, ok_L_seating (P := l.prog) (w := w) (base := base) T F_L_seating ⟩
  have c_L_turned : Cal l.prog w K mg base 1 "_law_turned" ["a"] (sp_L_turned K _) := ⟨_, _, PySem.W.mg_of X G a_L_turned, ke_L_turned, b_L_turned, ok_L_turned (P := l.prog) (w := w) (base := base) T F_L_turned ⟩
  have c_is_seating : Cal l.prog w K mg base 1 "is_seating" ["row"] (sp_is_seating K _) := ⟨_, _, PySem.W.mg_of X G a_is_seating, ke_is_seating, b_is_seating, ok_is_seating (P := l.prog) (w := w) (base := base) T F_is_seating ⟩
  have c_ask_seating : Cal l.prog w K mg base 2 "ask_seating" ["a"] (sp_ask_seating K _) := ⟨_, _, PySem.W.mg_of X G a_ask_seating, ke_ask_seating, b_ask_seating, ok_ask_seating (P := l.prog) (w := w) (base := base) T F_ask_seating c_is_seating⟩
  have c_turned : Cal l.prog w K mg base 1 "turned" ["a"] (sp_turned K _) := ⟨_, _, PySem.W.mg_of X G a_turned, ke_turned, b_turned, ok_turned (P := l.prog) (w := w) (base := base) T F_turned ⟩
  have c_back : Cal l.prog w K mg base 3 "back" ["a"] (sp_back K _) := ⟨_, _, PySem.W.mg_of X G a_back, ke_back, b_back, ok_back (P := l.prog) (w := w) (base := base) T F_back c_ask_seating c_turned⟩
  have c_ask_size : Cal l.prog w K mg base 1 "ask_size" ["size"] (sp_ask_size K _) := ⟨_, _, PySem.W.mg_of X G a_ask_size, ke_ask_size, b_ask_size, ok_ask_size (P := l.prog) (w := w) (base := base) T F_ask_size ⟩
  have c_rest : Cal l.prog w K mg base 2 "rest" ["size"] (sp_rest K _) := ⟨_, _, PySem.W.mg_of X G a_rest, ke_rest, b_rest, ok_rest (P := l.prog) (w := w) (base := base) T F_rest c_ask_size⟩
  exact ok_law_k02 (P := l.prog) (w := w) (base := base) T F_law_k02 c_L_cell_at c_L_far c_L_same c_L_seating c_L_turned c_back c_rest
theorem walk {l : PySem.W.OpenLaw} {q : Program} {loose : List Str} {XP : (Str → Option Value) → Heap → Prop} {YP : World → Heap → Prop} {d : DefRec} {K : Params → PySem.W.Frag} (hn : l.most = some 63) (hdf : d.params.defaults = [])
    (hY : ∀ (w : World) (h : Heap), YP w h → (K w.params).In h)
    (F : ∀ (w : World) (mg : Str → Option Value) (fa : Addr) (h : Heap), (K w.params).In h → h.Ns mainGlobals mg → mg d.name = some (.ref fa) →
      ∃ fd : FuncData, (∀ (s : Shared) (u : Value), BindsTo s fd ⟨[u], []⟩ [("script", u)]) ∧ ∀ base : Heap, (K w.params).In base → base.Ns mainGlobals mg → FnOk l.prog w (K w.params) mg base (L2.CX l.prog w) 4 fa fd ["script"] (sp_law (K w.params))) :
    PySem.W.WalkO q loose XP YP l.row.toRowW d [] (fun f vs => PySem.call f vs) :=
  L2.walk_of (n := 63) (k := 4) (x := "script") (CX := fun w => L2.CX l.prog w) (sp := fun w => sp_law (K w.params)) hn (by decide) hdf ⟨rfl, by decide, by decide⟩ hY F (fun _ _ a ns hl _ hS => ⟨a, ns, rfl, hS, hl, fun _ => rfl⟩) fun _ _ _ _ _ z => cx_none z
end Shf
open PySem PySem.W PyProof.Rows
set_option maxRecDepth 100000 in
set_option maxHeartbeats 0 in
theorem PySem.Challenge.cw_shiftroom_k02_the_way_back_holds : PySem.Challenge.rw_shiftroom_k02_the_way_back.Holds := by
  w_on; o_law; k_head; (case hw => w_witness2)
  k_fill
  refine Shf.walk (l := PySem.Challenge.rw_shiftroom_k02_the_way_back) rfl rfl (fun w h Y => PySem.W.kIn_of Y) ?F
  case F =>
    intro w mg fa h KX G hmg
    refine' Shf.all_mk KX G hmg ?z_bool ?z_int ?z_isinstance ?z_len ?z_list ?z_range ?z_tuple ?c_MOST ?ga_NoSeating ?xe_NoSeating ?xk_NoSeating ?xb_NoSeating ?xt_NoSeating ?ga_NoSize ?xe_NoSize ?xk_NoSize ?xb_NoSize ?xt_NoSize ?a_L_cell_at ?l_L_cell_at ?co_L_cell_at ?ke_L_cell_at ?a_L_far ?l_L_far ?co_L_far ?ke_L_far ?a_L_whole ?l_L_whole ?co_L_whole ?ke_L_whole ?a_L_same ?l_L_same ?co_L_same ?ke_L_same ?a_L_seating ?l_L_seating ?co_L_seating ?ke_L_seating ?a_L_turned ?l_L_turned ?co_L_turned ?ke_L_turned ?a_is_seating ?l_is_seating ?co_is_seating ?ke_is_seating ?a_ask_seating ?l_ask_seating ?co_ask_seating ?ke_ask_seating ?a_turned ?l_turned ?co_turned ?ke_turned ?a_back ?l_back ?co_back ?ke_back ?a_ask_size ?l_ask_size ?co_ask_size ?ke_ask_size ?a_rest ?l_rest ?co_rest ?ke_rest ?a_law_k02 ?l_law_k02 ?co_law_k02 ?ke_law_k02
    (case z_bool => k_is)
    (case z_int => k_is)
    (case z_isinstance => k_is)
    (case z_len => k_is)
    (case z_list => k_is)
    (case z_range => k_is)
    (case z_tuple => k_is)
    (case c_MOST => k_is)
    (case ga_NoSeating => k_is)
    (case xe_NoSeating => k_exc)
    (case xk_NoSeating => k_is)
    (case xb_NoSeating => k_is)
    (case xt_NoSeating => k_is)
    (case ga_NoSize => k_is)
    (case xe_NoSize => k_exc)
    (case xk_NoSize => k_is)
    (case xb_NoSize => k_is)
    (case xt_NoSize => k_is)
    (case a_L_cell_at => k_is)
    (case l_L_cell_at => k_is)
    (case co_L_cell_at => k_is)
    (case ke_L_cell_at => k_is)
    (case a_L_far => k_is)
    (case l_L_far => k_is)
    (case co_L_far => k_is)
    (case ke_L_far => k_is)
    (case a_L_whole => k_is)
    (case l_L_whole => k_is)
    (case co_L_whole => k_is)
    (case ke_L_whole => k_is)
    (case a_L_same => k_is)
    (case l_L_same => k_is)
    (case co_L_same => k_is)
    (case ke_L_same => k_is)
    (case a_L_seating => k_is)
    (case l_L_seating => k_is)
    (case co_L_seating => k_is)
    (case ke_L_seating => k_is)
    (case a_L_turned => k_is)
    (case l_L_turned => k_is)
    (case co_L_turned => k_is)
    (case ke_L_turned => k_is)
    (case a_is_seating => k_is)
    (case l_is_seating => k_is)
    (case co_is_seating => k_is)
    (case ke_is_seating => k_is)
    (case a_ask_seating => k_is)
    (case l_ask_seating => k_is)
    (case co_ask_seating => k_is)
    (case ke_ask_seating => k_is)
    (case a_turned => k_is)
    (case l_turned => k_is)
    (case co_turned => k_is)
    (case ke_turned => k_is)
    (case a_back => k_is)
    (case l_back => k_is)
    (case co_back => k_is)
    (case ke_back => k_is)
    (case a_ask_size => k_is)
    (case l_ask_size => k_is)
    (case co_ask_size => k_is)
    (case ke_ask_size => k_is)
    (case a_rest => k_is)
    (case l_rest => k_is)
    (case co_rest => k_is)
    (case ke_rest => k_is)
    (case a_law_k02 => k_is)
    (case l_law_k02 => k_is)
    (case co_law_k02 => k_is)
    (case ke_law_k02 => k_is)
#print axioms PySem.Challenge.cw_shiftroom_k02_the_way_back_holds
